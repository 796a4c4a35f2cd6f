import PyProof.Rows.All
import Wide.All
import OpenK.AllK
import Wide.FinOn
import KE.KSuper
import HandS.ForMost
import HandS.ClsMeth
import HandS.Star
import HandS.WordsExc
import HandS.Exc
import KE.KExcSuper
import HandS.ExcInit
import HandS.ExcSuper
import HandS.ExcIs
import HandS.Keys
import HandS.HeadHook1
import KE.KExcInit
import HandS.HeadHook2
import HandS.IsInst
import HandS.ExcField
import KE.KStateDown
import Lean
import HandS.Head0
import HandS.Head1
import HandS.Head2
import HandS.HeadHook4
import HandS.HeadWalk
import HandS.EndTab
import HandS.Text
import HandS.MethStar
import KE.KTypeName
import HandS.Dict
import PyProof.EqAt
import PyProof.EqKinds
import PyProof.NeKinds
import HandS.Style
import HandS.TupAny
import HandS.Iter
import PyProof.InstNe
import HandS.OwnEq
import HandS.Small
import HandS.More
import PyProof.Rows.Range3
import KE.KExcIs
import HandS.Lambda
import HandS.ExcOwn
import HandS.Wide
import HandS.WideBits
import PyProof.StrOps2
import HandS.MakeKwOnly
import PyProof.SumAny
import PyProof.ListOps
import HandS.MapSum
import KE.KDflt
import KE.KNestM
import PySem.Challenge.RW_nohalfseen_k91_papers_as_texts
set_option Elab.async false
set_option linter.all false
set_option maxRecDepth 100000
set_option maxHeartbeats 2000000
/-! K91, C: a def that closes over __class__ and begins with super().__init__(..). -/
namespace K91
open PySem PySem.Spec PyProof.Rows L2

/-! ### defs over a class cell -/
structure FnScopeS (N P : List Str) (sc : Scope) : Prop where
  kind : sc.kind = .function
  co : sc.isCoroutine = false
  gen : sc.isGenerator = false
  nd : N.Nodup
  pre : N.take P.length = P
  par : ∀ x ∈ P, sc.names.lookup x = some .local
  nocell : ∀ y ∈ sc.names, y.2 ≠ .cell
  free : ∀ y ∈ sc.names, y.2 = .free → y.1 = "__class__"
abbrev envS (qual : Str) (scope : Scope) (L f : Addr) (cd : Value) (cc : Addr) : Env := PySem.W.ksEnv qual scope L f cd cc
def cxS (CX : CXT) (P : Program) (w : World) (K : PySem.W.Frag) (mg : Str → Option Value) (base : Heap) (N : List Str) (qual : Str) (scope : Scope) (f : Addr) (cd : Value) (cc : Addr) (A : Around) (outer : List Env) (s : Shared) (H : Hp) (E : XK) : Cx where
  prog := P
  w := w
  K := K
  mg := mg
  base := base
  A := A.deeper (envS qual scope s.heap.objs.size f cd cc)
  N := N
  s_0 := s
  H_0 := H
  env := envS qual scope s.heap.objs.size f cd cc
  outer := outer
  stack := envS qual scope s.heap.objs.size f cd cc :: outer
  ex := []
  calm := true
  fn := fun _ => false
  pn := []
  xe := fun e s' => wpAny (model P w) (A.deeper (envS qual scope s.heap.objs.size f cd cc)) (leaving (envS qual scope s.heap.objs.size f cd cc) e) (fun _ s'' => CX outer H s E e s'') (fun e' s'' => CX outer H s E e' s'') s'
/-- what the written part says of such a def -/
structure FnS (K : PySem.W.Frag) (f cc D : Addr) (name qual : Str) (params : Arguments) (body : List Stmt) (scope : Scope) (fd : FuncData) (cda : Addr) : Prop where
  ex : ∃ (oc : Value) (od : Option Addr) (kV doc pm : Value) (an : Option Addr) (ct : Value) (osl : Array (Option Value)),
    fd = PySem.W.ksFn name qual params body scope .none kV doc pm an (.ref cda) ct cc ∧ K.lookup f = some ⟨oc, od, .func fd, osl⟩
  code : PySem.W.codeIn K (.ref cda) qual = true
  cfile : ∃ (ccl : Value) (cdd : Option Addr) (vs : Array Value) (ccs : Array (Option Value)) (tf : Tok), K.lookup cda = some ⟨ccl, cdd, .fields vs, ccs⟩ ∧ vs[2]? = some (.str "/claim/cut.py" tf)
  cell : ∃ (cl : Value) (cld : Option Addr) (csl : Array (Option Value)), K.lookup cc = some ⟨cl, cld, .cell (some (.ref D)), csl⟩

section
variable {P : Program} {w : World} {K : PySem.W.Frag} {mg : Str → Option Value} {base : Heap} {CX : CXT}
theorem lookup_rev {us : List Value} {ps : List Str} {y : Str} {u : Value} : ∀ {i : Nat}, ps.Nodup → ps[i]? = some y → us[i]? = some u → (ps.zip us).reverse.lookup y = some u := by
  intro i nd h1 h2
  have key : ∀ (l : List (Str × Value)), (l.map (·.1)).Nodup → (y, u) ∈ l → l.lookup y = some u := by
    intro l
    induction l with
    | nil => intro _ h; cases h
    | cons a r ih =>
      intro hn hm
      obtain ⟨k, v⟩ := a
      rw [List.lookup_cons]
      rcases List.mem_cons.mp hm with e | e
      · cases e
        simp
      · have hk : y ≠ k := fun z => by
          have := (List.nodup_cons.mp hn).1
          exact this (List.mem_map.mpr ⟨(y, u), e, z⟩)
        have hb : (y == k) = false := by simpa using hk
        rw [hb]
        exact ih (List.nodup_cons.mp hn).2 e
  refine key _ ?_ ?_
  · rw [List.map_reverse]
    refine (List.reverse_perm _).nodup_iff.mpr ?_
    refine List.Nodup.sublist ?_ nd
    have z : ∀ (a : List Str) (b : List Value), ((a.zip b).map (·.1)).Sublist a := by
      intro a
      induction a with
      | nil => intro b; simp
      | cons x a ih =>
        intro b
        cases b with
        | nil => simp
        | cons y b => exact List.Sublist.cons_cons x (ih b)
    exact z ps us
  · rw [List.mem_reverse]
    exact List.mem_of_getElem? (i := i) (by rw [List.getElem?_zip_eq_some]; exact ⟨h1, h2⟩)
theorem inv_startS {N ps : List Str} {qual : Str} {scope : Scope} {f cc : Addr} {cd : Value} {A : Around} {outer : List Env} {s : Shared} {H : Hp} {E : XK} {us : List Value} {vs : List V} {h₁ : Heap} {tk : Nat}
    (S : FnScopeS N ps scope) (hd : A.handled = none) (e0 : Env0 P w K mg base A outer s H) (hl : vs.length = ps.length) (r : Vals vs us) (hcc : ∃ o, base.get? cc = some o ∧ ∃ v, o.data = .cell v)
    (hns : h₁.Ns s.heap.objs.size fun y => (ps.zip us).reverse.lookup y) (kp : ∀ b o, s.heap.get? b = some o → h₁.get? b = some o) :
    Inv (cxS CX P w K mg base N qual scope f cd cc A outer s H E) [] (L2.start N vs) H { s with heap := h₁, toks := tk } := by
  have hpl : ps.length ≤ N.length := by
    have := congrArg List.length S.pre
    rw [List.length_take] at this
    omega
  obtain ⟨oc, hoc, v0, hdc⟩ := hcc
  obtain ⟨hoc1, hoc2⟩ := e0.bs cc oc hoc
  have noA : ∀ b : Addr, b ∉ (cxS CX P w K mg base N qual scope f cd cc A outer s H E).ex := fun b z => absurd (show b ∈ ([] : List Addr) from z) (by simp)
  have cl : ∀ {y : Str} {c : Addr}, (cxS CX P w K mg base N qual scope f cd cc A outer s H E).env.cells.lookup y = some c → y = "__class__" ∧ c = cc := fun {y c} e => by
    have e : ([("__class__", cc)] : List (Str × Addr)).lookup y = some c := e
    rw [List.lookup_cons] at e
    split at e
    · rename_i q
      exact ⟨by simpa using q, (Option.some.inj e).symm⟩
    · cases e
  refine ⟨⟨e0.mod, S.kind, rfl, rfl, Nat.le_refl _, fun y z c e1 e2 => ?_, fun y hy => ?_, fun y c z _ => ?_, fun _ => hd, Around.frames_deeper e0.frames, .inr ⟨rfl, rfl⟩, fun b z => absurd z (noA b), e0.bs, e0.bsz, fun b _ _ => noA b, fun b z => absurd z (noA b), e0.funs, e0.frf⟩,
    rfl, e0.bare, Un.kept kp, ⟨_, hns, fun i y v h1 h2 h3 => ?_⟩, fun y c e => ?_, e0.hok.fresh (Nat.le_refl _), fun y c e => ?_, fun q hq => absurd (show q ∈ ([] : List (Addr × Obj)) ++ [] from hq) (by simp), e0.hok.kept kp, ?_⟩
  · rw [(cl e1).1, (cl e2).1]
  · have hy : scope.names.lookup y = some .cell ∨ scope.names.lookup y = some .free := hy
    rcases hy with hy | hy
    · exact absurd rfl (S.nocell _ (PySem.mem_of_lookup hy))
    · have e := S.free _ (PySem.mem_of_lookup hy) rfl
      have e : y = "__class__" := e
      subst e
      exact ⟨cc, rfl⟩
  · have z : false = true := z
    cases z
  · have hi : i < vs.length := by
      unfold L2.start at h2
      by_cases hi : i < vs.length
      · exact hi
      · rw [List.getElem?_append_right (by simpa using hi)] at h2
        rw [List.getElem?_replicate] at h2
        split at h2 <;> cases h2
    have ha : vs[i]? = some v := by
      unfold L2.start at h2
      rw [List.getElem?_append_left (by simpa using hi), List.getElem?_map] at h2
      cases e : vs[i]? with
      | none => rw [e] at h2; cases h2
      | some a => rw [e] at h2; cases h2; rfl
    obtain ⟨u, hu, rv⟩ := r.get ha
    have hp : ps[i]? = some y := by
      rw [← S.pre, List.getElem?_take_of_lt (by omega)]
      exact h1
    have ndP : ps.Nodup := by
      rw [← S.pre]
      exact S.nd.sublist (List.take_sublist _ _)
    exact ⟨u, rv, .inl ⟨S.par y (List.mem_of_getElem? hp), lookup_rev ndP hp hu⟩⟩
  · rw [(cl e).2]
    exact ⟨v0, oc, kp _ _ hoc1, hdc⟩
  · rw [(cl e).2]
    exact hoc2
  · unfold L2.start
    show _ = N.length
    rw [List.length_append, List.length_map, List.length_replicate]
    omega

/-- a def over a class cell, by its body as an activation -/
theorem fn_ofS {k : Nat} {f cc D cda : Addr} {name qual : Str} {params : Arguments} {body : List Stmt} {scope : Scope} {fd : FuncData} {N ps : List Str} {sp : Sp}
    (F : FnS K f cc D name qual params body scope fd cda) (S : FnScopeS N ps scope) (len : ∀ vs H Q E, sp vs H Q E → vs.length = ps.length)
    (hbody : ∀ (A : Around) (outer : List Env) (s : Shared) (H : Hp) (vs : List V) (Q : VK) (E : XK), Room k (A.deeper (envS qual scope s.heap.objs.size f (.ref cda) cc)) → sp vs H Q E →
      ∀ s1, Inv (cxS CX P w K mg base N qual scope f (.ref cda) cc A outer s H E) [] (L2.start N vs) H s1 →
        _root_.PySem.wpAt (model P w) (A.deeper (envS qual scope s.heap.objs.size f (.ref cda) cc)) (.func body (envS qual scope s.heap.objs.size f (.ref cda) cc)) (execs body (envS qual scope s.heap.objs.size f (.ref cda) cc))
          (SP (cxS CX P w K mg base N qual scope f (.ref cda) cc A outer s H E) [] { nx := fun _ H' => Q .non H', rt := Q }) (cxS CX P w K mg base N qual scope f (.ref cda) cc A outer s H E).xe s1) :
    FnOk P w K mg base CX (k + 1) f fd ps sp := by
  obtain ⟨oc, od, kV, doc, pm, an, ct, osl, rfl, lk⟩ := F.ex
  refine ⟨len, fun A outer s H args us vs Q E hr e0 hb r hsp => ?_⟩
  have hl := len _ _ _ _ hsp
  have KX : K.In s.heap := e0.mod.kin.keeps fun b o e => (e0.bs b o e).1
  have lim : s.heap.NoLimit := e0.mod.nolimit.keeps fun b o e => (e0.bs b o e).1
  have hloc : ∀ y ∈ ps.zip us, scope.names.lookup y.1 = some .local := fun ⟨n, v⟩ hy => S.par n (List.of_mem_zip hy).1
  obtain ⟨cl, cld, csl, hcell⟩ := F.cell
  refine ks_codeAny_call_defAt (fd := PySem.W.ksFn name qual params body scope .none kV doc pm an (.ref cda) ct cc) (body := body) (binds := ps.zip us) hr.depth (KX _ _ lk) rfl lim (PySem.W.codeRec_of KX F.code) rfl hb S.nocell hloc (fun h₁ hns hk => ?_) S.co S.gen S.kind
  have I : Inv (cxS CX P w K mg base N qual scope f (.ref cda) cc A outer s H E) [] (L2.start N vs) H { s with heap := h₁, toks := s.toks + (ps.zip us).length } :=
    inv_startS S hr.hd e0 hl r ⟨_, e0.mod.kin _ _ hcell, _, rfl⟩ hns hk
  refine ks_wpAt_mono (hbody A outer s H vs Q E (hr.deeper _) hsp _ I) (fun fl s' hs => ?_) fun e s' hs => hs
  have fin : ∀ {σ' : L2.St} {H' : Hp} {v : V} {u : Value}, Inv (cxS CX P w K mg base N qual scope f (.ref cda) cc A outer s H E) [] σ' H' s' → RelV v u → Q v H' → CE outer P w H s Q u s' :=
    fun {σ' H' v u} J rv q => ⟨v, H', J.os, J.bare, J.base, J.hok, rv, q⟩
  cases fl with
  | ret u =>
    obtain ⟨v, σ', H', J, rv, q⟩ := hs
    exact fin J rv q
  | next =>
    obtain ⟨σ', H', J, q⟩ := hs
    exact fin (v := V.non) (u := Value.none) J rfl q
  | brk =>
    obtain ⟨_, _, _, q⟩ := hs
    exact False.elim q
  | cont =>
    obtain ⟨_, _, _, q⟩ := hs
    exact False.elim q
end

/-! ### super().__init__(e, ..) -/
/-- what of the text super() wants: its classes -/
structure SupK (K : PySem.W.Frag) (C D f2 : Addr) : Prop where
  sub : PySem.W.mroIn K C (.ref D) = some true
  sup : PySem.W.ks_superIn K C D "__init__" = some (some (.ref f2))
  clsD : (PySem.W.clsIn K D).isSome = true
  fn : PySem.W.typeIn K (.ref f2) = some (.type "function")
  fi : PySem.W.fnIn K f2 = true
  op : PySem.W.nsIn K cStatics "thirdparty.any" = some none
/-- .. and its own text -/
structure SupS (prog : Program) (scope : Scope) (params : Arguments) : Prop where
  hs : scope.names.lookup ("super" : Str) = some .globalImplicit
  hc : scope.names.lookup ("__class__" : Str) = some .free
  hself : scope.names.lookup ("self" : Str) = some .local
  hk : scope.kind = .function
  hp : ∃ ar : Arg, (params.posonlyargs ++ params.args).head? = some ar ∧ ar.arg = "self"
  file : prog.main.file = "/claim/cut.py"
  top : (prog.main.scope.names.lookup ("super" : Str)).isSome = false
section
variable {CX : CXT} {P : Program} {w : World} {K : PySem.W.Frag} {mg : Str → Option Value} {base : Heap} {N : List Str} {qual name : Str} {scope : Scope} {f cc C D cda x f2 : Addr} {params : Arguments} {body body0 : List Stmt} {fd : FuncData} {A : Around} {outer : List Env} {s₀ : Shared} {H₀ : Hp} {E₀ : XK}
theorem super_at {k : Nat} {sp : Sp} {E : XK} {D' : Ends} {σ : L2.St} {H : Hp} {s : Shared} {pins : List (Addr × Obj)} {e : Expr} {es : List Expr} {t : TA} {p0 p1 apos pos pos2 : Pos} {pl : Sem Bool}
    (I : Inv (cxS CX P w K mg base N qual scope f (.ref cda) cc A outer s₀ H₀ E₀) pins σ H s) (F : FnS K f cc D name qual params body0 scope fd cda) (SK : SupK K C D f2) (SS : SupS P scope params)
    (gS : mg "super" = none) (hN : N[0]? = some ("self" : Str)) (hσ : σ[0]? = some (some (.ref x)))
    (hin : ∀ s', Inv (cxS CX P w K mg base N qual scope f (.ref cda) cc A outer s₀ H₀ E₀) pins σ H s' → ∃ ox, s'.heap.get? x = some ox ∧ ox.cls = .ref C ∧ ∀ c, ox.data ≠ .cls c)
    (F2 : L2.FnR P w K mg base CX k f2 sp) (hr : Room k (A.deeper (envS qual scope s₀.heap.objs.size f (.ref cda) cc))) (hx : Passes CX (cxS CX P w K mg base N qual scope f (.ref cda) cc A outer s₀ H₀ E₀) E)
    (ha : PA (cxS CX P w K mg base N qual scope f (.ref cda) cc A outer s₀ H₀ E₀) (e :: es) t)
    (h : t σ H fun vs H1 => sp (.ref x :: vs) H1 (fun _ H2 => D'.nx σ H2) E)
    (he : eval (.Call (.Attribute (.Call (.Name "super" p0) [] [] p1) "__init__" apos) (e :: es) [] pos) (envS qual scope s₀.heap.objs.size f (.ref cda) cc) = (do
      let ov ← attributeBase (.Call (.Name "super" p0) [] [] p1) "__init__" (envS qual scope s₀.heap.objs.size f (.ref cda) cc) (eval (.Call (.Name "super" p0) [] [] p1) (envS qual scope s₀.heap.objs.size f (.ref cda) cc))
      standAt apos.atName
      let (fz, first) ← holding [ov] (getMethod ov "__init__" pl)
      callWith pos fz first (backTo pos (starEach (e :: es) (envS qual scope s₀.heap.objs.size f (.ref cda) cc))) []) := by rfl)
    (hst : starEach (e :: es) (envS qual scope s₀.heap.objs.size f (.ref cda) cc) = (false, eval e (envS qual scope s₀.heap.objs.size f (.ref cda) cc)) :: starEach es (envS qual scope s₀.heap.objs.size f (.ref cda) cc) := by rfl)
    (hpl : (backTo pos (starEach es (envS qual scope s₀.heap.objs.size f (.ref cda) cc))).any (·.1) = false := by rfl)
    (hi : interactive (envS qual scope s₀.heap.objs.size f (.ref cda) cc) = false := by rfl)
    (hsw : swapsWith (.Call (.Attribute (.Call (.Name "super" p0) [] [] p1) "__init__" apos) (e :: es) [] pos) none pos2.line (envS qual scope s₀.heap.objs.size f (.ref cda) cc) = pure false := by rfl) :
    _root_.PySem.wpAt (model P w) (A.deeper (envS qual scope s₀.heap.objs.size f (.ref cda) cc)) (.func body (envS qual scope s₀.heap.objs.size f (.ref cda) cc))
      (exec (.Expr (.Call (.Attribute (.Call (.Name "super" p0) [] [] p1) "__init__" apos) (e :: es) [] pos) pos2) (envS qual scope s₀.heap.objs.size f (.ref cda) cc))
      (SP (cxS CX P w K mg base N qual scope f (.ref cda) cc A outer s₀ H₀ E₀) pins D') (cxS CX P w K mg base N qual scope f (.ref cda) cc A outer s₀ H₀ E₀).xe s := by
  obtain ⟨oc, od, kV, doc, pm, an, ct, osl, rfl, lk⟩ := F.ex
  obtain ⟨ccl, cdd, vs, ccs, tf, hcode, hvs⟩ := F.cfile
  obtain ⟨cl, cld, csl, hcell⟩ := F.cell
  obtain ⟨ar, har, earg⟩ := SS.hp
  obtain ⟨cdD, hD⟩ := Option.isSome_iff_exists.mp SK.clsD
  have KX : K.In s.heap := I.kIn
  obtain ⟨oD, hD1, hD2⟩ : ∃ oD, s.heap.get? D = some oD ∧ oD.data = .cls cdD := by
    unfold PySem.W.clsIn at hD
    split at hD
    · rename_i c d cd' sl ho
      cases hD
      exact ⟨_, KX _ _ ho, rfl⟩
    · cases hD
  obtain ⟨m, hns, hlook⟩ := I.loc
  obtain ⟨u, ru, hl⟩ := hlook 0 "self" (.ref x) hN hσ (.inl SS.hself)
  obtain rfl : u = Value.ref x := ru
  have hm : m "self" = some (.ref x) := by
    rcases hl with ⟨_, z⟩ | ⟨z, _⟩
    · exact z
    · have z1 : scope.names.lookup ("self" : Str) = some .cell ∨ scope.names.lookup ("self" : Str) = some .free := z
      rw [SS.hself] at z1
      rcases z1 with z1 | z1 <;> cases z1
  have hfile : ((P.main.file : Str) == "/claim/cut.py") = true := by
    rw [SS.file]
    simp
  obtain ⟨ox, hox, hcl, hnc⟩ := hin s I
  refine ks_wpAt_Expr_any ?_ hi hsw
  refine ks_wpAt_MethodCall (pl := pl) ?_ he
  refine PySem.ks_wpAt_super_base (env := envS qual scope s₀.heap.objs.size f (.ref cda) cc) SS.hs SS.hc (by decide +kernel) rfl (KX _ _ lk) rfl har rfl (KX _ _ hcode) rfl hvs hfile SS.top ?_
  have hglob : s.heap.Ns mainGlobals mg := I.mod.glob.keeps I.bk
  obtain ⟨mb, hb1, hb2⟩ := I.mod.blt
  refine PySem.W.ks_loadName_global SS.hk SS.hs (PySem.Calls.loadGlobal_builtin (env := envS qual scope s₀.heap.objs.size f (.ref cda) cc) hglob gS (hb1.keeps I.bk) ((hb2 _ (by decide +kernel)).trans (by decide +kernel : bootBuiltins "super" = some (.type "super"))) ⟨rfl, ?_⟩)
  refine wpAny_loadName_free SS.hk SS.hc rfl ⟨_, KX _ _ hcell, rfl⟩ ?_
  rw [earg]
  refine wpAny_loadName_local SS.hk SS.hself hns hm ?_
  obtain ⟨hh, g, d, tk, os⟩ := s
  refine ks_wpAny_isType_cls hD1 hD2 ⟨rfl, ?_⟩
  refine ks_wpAny_call_super hD1 hD2 hox hcl hnc (PySem.W.looks_mroIn KX SK.sub) (fun h1 e1 k1 => ?_)
  -- the super object is there
  have I1 : Inv (cxS CX P w K mg base N qual scope f (.ref cda) cc A outer s₀ H₀ E₀) pins σ H ⟨h1, g, d, tk, os⟩ := I.kept (t' := tk) k1
  have KX1 : K.In h1 := I1.kIn
  obtain ⟨cdC, hC⟩ : ∃ cdC, PySem.W.clsIn K C = some cdC := by
    have z := SK.sup
    unfold PySem.W.ks_superIn at z
    cases q : PySem.W.clsIn K C with
    | none => rw [q] at z; cases z
    | some cd => exact ⟨cd, rfl⟩
  have hm2 : PySem.W.alongIn K "__init__" ((cdC.mro.dropWhile (· != .ref D)).drop 1) = some (some (.ref f2)) := by
    have z := SK.sup
    unfold PySem.W.ks_superIn at z
    rw [hC] at z
    exact z
  obtain ⟨of, hof, hofc⟩ : ∃ of, h1.get? f2 = some of ∧ of.cls = .type "function" := by
    have z : (K.lookup f2).map (·.cls) = some (.type "function") := SK.fn
    cases q : K.lookup f2 with
    | none => rw [q] at z; cases z
    | some of => rw [q] at z; exact ⟨of, KX1 _ _ q, Option.some.inj z⟩
  have hxC : x ≠ C := by
    intro z
    have hC2 := hC
    unfold PySem.W.clsIn at hC2
    split at hC2
    · rename_i c d cd' sl ho
      have e2 := KX _ _ ho
      rw [← z, hox] at e2
      cases e2
      exact hnc _ rfl
    · cases hC2
  refine ks_wpAny_getMethod_super e1 (PySem.W.looks_opaque KX1 SK.op) (l₀ := cdC.mro) (fun A Q E s k q => wpAny_bind ((PySem.W.looks_clsIn KX1 hC) A _ E s k (wpAny_pure q))) rfl KX1 hm2 hof hofc hxC (by decide +kernel) ?_
  have I2 := ClX.met_new (g := f2) (C := x) I1
  refine ClX.callwith_cm I2 (ClX.base_none I1 (Nat.le_refl _)) SK.fi (thn (ha.run pos _ _ σ H _ I2 h) fun us s3 ⟨vs2, H2, I3, rv, q2⟩ => ⟨⟨ClX.pin_at I3, I3.kIn⟩, ?_⟩) hst hpl
  refine thn (ClX.run_cm F2 hr hx I3 rv q2) fun u s4 ⟨v, H4, I4, _, q4⟩ => ?_
  exact ⟨σ, H4, I4, q4⟩
end
end K91
set_option Elab.async false
set_option linter.all false
set_option maxRecDepth 100000
set_option maxHeartbeats 2000000
/-! K91, T: the text by places (printed by gen_k91t.py). -/
namespace K91
open PySem L2
def topS (i : Nat) : Stmt := PySem.Challenge.pw_nohalfseen_k91_papers_as_texts.main.body.getD i (.Pass ⟨0, 0, 0, 0⟩)
abbrev s_is_integer : Stmt := topS 1
abbrev N_is_integer : List Str := [("value" : Str)]
abbrev P_is_integer : List Str := [("value" : Str)]
theorem sc_is_integer : FnScope N_is_integer P_is_integer (defScope s_is_integer) := ⟨rfl, rfl, rfl, by decide +kernel, rfl, by decide +kernel, by decide +kernel⟩
abbrev s_PartError_init : Stmt := inClass (topS 4) 0
abbrev N_PartError_init : List Str := [("self" : Str), ("part" : Str)]
abbrev P_PartError_init : List Str := [("self" : Str), ("part" : Str)]
theorem sc_PartError_init : FnScopeS N_PartError_init P_PartError_init (defScope s_PartError_init) := ⟨rfl, rfl, rfl, by decide +kernel, rfl, by decide +kernel, by decide +kernel, by decide +kernel⟩
abbrev s_BadText_init : Stmt := inClass (topS 14) 0
abbrev N_BadText_init : List Str := [("self" : Str), ("line" : Str), ("word" : Str)]
abbrev P_BadText_init : List Str := [("self" : Str), ("line" : Str), ("word" : Str)]
theorem sc_BadText_init : FnScopeS N_BadText_init P_BadText_init (defScope s_BadText_init) := ⟨rfl, rfl, rfl, by decide +kernel, rfl, by decide +kernel, by decide +kernel, by decide +kernel⟩
abbrev s_BadCommand_init : Stmt := inClass (topS 15) 0
abbrev N_BadCommand_init : List Str := [("self" : Str), ("word" : Str)]
abbrev P_BadCommand_init : List Str := [("self" : Str), ("word" : Str)]
theorem sc_BadCommand_init : FnScopeS N_BadCommand_init P_BadCommand_init (defScope s_BadCommand_init) := ⟨rfl, rfl, rfl, by decide +kernel, rfl, by decide +kernel, by decide +kernel, by decide +kernel⟩
abbrev s_TooMany_init : Stmt := inClass (topS 17) 0
abbrev N_TooMany_init : List Str := [("self" : Str), ("what" : Str), ("most" : Str)]
abbrev P_TooMany_init : List Str := [("self" : Str), ("what" : Str), ("most" : Str)]
theorem sc_TooMany_init : FnScopeS N_TooMany_init P_TooMany_init (defScope s_TooMany_init) := ⟨rfl, rfl, rfl, by decide +kernel, rfl, by decide +kernel, by decide +kernel, by decide +kernel⟩
abbrev s_kept : Stmt := topS 19
abbrev N_kept : List Str := [("value" : Str), ("one" : Str)]
abbrev P_kept : List Str := [("value" : Str)]
theorem sc_kept : FnScope N_kept P_kept (defScope s_kept) := ⟨rfl, rfl, rfl, by decide +kernel, rfl, by decide +kernel, by decide +kernel⟩
abbrev s_Paper_init : Stmt := inClass (topS 20) 0
abbrev N_Paper_init : List Str := [("self" : Str), ("parts" : Str)]
abbrev P_Paper_init : List Str := [("self" : Str), ("parts" : Str)]
theorem sc_Paper_init : FnScope N_Paper_init P_Paper_init (defScope s_Paper_init) := ⟨rfl, rfl, rfl, by decide +kernel, rfl, by decide +kernel, by decide +kernel⟩
abbrev s_Paper_eq : Stmt := inClass (topS 20) 1
abbrev N_Paper_eq : List Str := [("self" : Str), ("other" : Str)]
abbrev P_Paper_eq : List Str := [("self" : Str), ("other" : Str)]
theorem sc_Paper_eq : FnScope N_Paper_eq P_Paper_eq (defScope s_Paper_eq) := ⟨rfl, rfl, rfl, by decide +kernel, rfl, by decide +kernel, by decide +kernel⟩
abbrev s_Paper_bool : Stmt := inClass (topS 20) 2
abbrev N_Paper_bool : List Str := [("self" : Str)]
abbrev P_Paper_bool : List Str := [("self" : Str)]
theorem sc_Paper_bool : FnScope N_Paper_bool P_Paper_bool (defScope s_Paper_bool) := ⟨rfl, rfl, rfl, by decide +kernel, rfl, by decide +kernel, by decide +kernel⟩
abbrev s_Denial_bool : Stmt := inClass (topS 21) 0
abbrev N_Denial_bool : List Str := [("self" : Str)]
abbrev P_Denial_bool : List Str := [("self" : Str)]
theorem sc_Denial_bool : FnScope N_Denial_bool P_Denial_bool (defScope s_Denial_bool) := ⟨rfl, rfl, rfl, by decide +kernel, rfl, by decide +kernel, by decide +kernel⟩
abbrev s_counts : Stmt := topS 29
abbrev N_counts : List Str := [("found" : Str)]
abbrev P_counts : List Str := []
theorem sc_counts : FnScope N_counts P_counts (defScope s_counts) := ⟨rfl, rfl, rfl, by decide +kernel, rfl, by decide +kernel, by decide +kernel⟩
abbrev s_is_told_paper : Stmt := topS 30
abbrev N_is_told_paper : List Str := [("value" : Str)]
abbrev P_is_told_paper : List Str := [("value" : Str)]
theorem sc_is_told_paper : FnScope N_is_told_paper P_is_told_paper (defScope s_is_told_paper) := ⟨rfl, rfl, rfl, by decide +kernel, rfl, by decide +kernel, by decide +kernel⟩
abbrev s_word_of : Stmt := topS 31
abbrev N_word_of : List Str := [("value" : Str), ("sign" : Str)]
abbrev P_word_of : List Str := [("value" : Str)]
theorem sc_word_of : FnScope N_word_of P_word_of (defScope s_word_of) := ⟨rfl, rfl, rfl, by decide +kernel, rfl, by decide +kernel, by decide +kernel⟩
abbrev s_words_of : Stmt := topS 32
abbrev N_words_of : List Str := [("paper" : Str), ("found" : Str), ("line" : Str), ("value" : Str)]
abbrev P_words_of : List Str := [("paper" : Str)]
theorem sc_words_of : FnScope N_words_of P_words_of (defScope s_words_of) := ⟨rfl, rfl, rfl, by decide +kernel, rfl, by decide +kernel, by decide +kernel⟩
abbrev s_paper_text : Stmt := topS 33
abbrev N_paper_text : List Str := [("paper" : Str)]
abbrev P_paper_text : List Str := [("paper" : Str)]
theorem sc_paper_text : FnScope N_paper_text P_paper_text (defScope s_paper_text) := ⟨rfl, rfl, rfl, by decide +kernel, rfl, by decide +kernel, by decide +kernel⟩
abbrev s_Right_init : Stmt := inClass (topS 35) 0
abbrev N_Right_init : List Str := [("self" : Str), ("rows" : Str)]
abbrev P_Right_init : List Str := [("self" : Str), ("rows" : Str)]
theorem sc_Right_init : FnScopeS N_Right_init P_Right_init (defScope s_Right_init) := ⟨rfl, rfl, rfl, by decide +kernel, rfl, by decide +kernel, by decide +kernel, by decide +kernel⟩
abbrev s_Wrong_init : Stmt := inClass (topS 36) 0
abbrev N_Wrong_init : List Str := [("self" : Str), ("point" : Str), ("steps" : Str)]
abbrev P_Wrong_init : List Str := [("self" : Str), ("point" : Str), ("steps" : Str)]
theorem sc_Wrong_init : FnScopeS N_Wrong_init P_Wrong_init (defScope s_Wrong_init) := ⟨rfl, rfl, rfl, by decide +kernel, rfl, by decide +kernel, by decide +kernel, by decide +kernel⟩
abbrev s_Round_init : Stmt := inClass (topS 37) 0
abbrev N_Round_init : List Str := [("self" : Str), ("point" : Str), ("steps" : Str), ("ring" : Str)]
abbrev P_Round_init : List Str := [("self" : Str), ("point" : Str), ("steps" : Str), ("ring" : Str)]
theorem sc_Round_init : FnScopeS N_Round_init P_Round_init (defScope s_Round_init) := ⟨rfl, rfl, rfl, by decide +kernel, rfl, by decide +kernel, by decide +kernel, by decide +kernel⟩
abbrev s_Beside_init : Stmt := inClass (topS 39) 0
abbrev N_Beside_init : List Str := [("self" : Str), ("rows" : Str)]
abbrev P_Beside_init : List Str := [("self" : Str), ("rows" : Str)]
theorem sc_Beside_init : FnScopeS N_Beside_init P_Beside_init (defScope s_Beside_init) := ⟨rfl, rfl, rfl, by decide +kernel, rfl, by decide +kernel, by decide +kernel, by decide +kernel⟩
abbrev s_Clash_init : Stmt := inClass (topS 40) 0
abbrev N_Clash_init : List Str := [("self" : Str), ("point" : Str), ("steps" : Str)]
abbrev P_Clash_init : List Str := [("self" : Str), ("point" : Str), ("steps" : Str)]
theorem sc_Clash_init : FnScopeS N_Clash_init P_Clash_init (defScope s_Clash_init) := ⟨rfl, rfl, rfl, by decide +kernel, rfl, by decide +kernel, by decide +kernel, by decide +kernel⟩
abbrev s_Plan_init : Stmt := inClass (topS 42) 0
abbrev N_Plan_init : List Str := [("self" : Str), ("lots" : Str), ("rows" : Str)]
abbrev P_Plan_init : List Str := [("self" : Str), ("lots" : Str), ("rows" : Str)]
theorem sc_Plan_init : FnScopeS N_Plan_init P_Plan_init (defScope s_Plan_init) := ⟨rfl, rfl, rfl, by decide +kernel, rfl, by decide +kernel, by decide +kernel, by decide +kernel⟩
abbrev s_Spoil_init : Stmt := inClass (topS 43) 0
abbrev N_Spoil_init : List Str := [("self" : Str), ("lots" : Str), ("rows" : Str)]
abbrev P_Spoil_init : List Str := [("self" : Str), ("lots" : Str), ("rows" : Str)]
theorem sc_Spoil_init : FnScopeS N_Spoil_init P_Spoil_init (defScope s_Spoil_init) := ⟨rfl, rfl, rfl, by decide +kernel, rfl, by decide +kernel, by decide +kernel, by decide +kernel⟩
abbrev s_Within_init : Stmt := inClass (topS 45) 0
abbrev N_Within_init : List Str := [("self" : Str), ("budget" : Str), ("lots" : Str), ("rows" : Str)]
abbrev P_Within_init : List Str := [("self" : Str), ("budget" : Str), ("lots" : Str), ("rows" : Str)]
theorem sc_Within_init : FnScopeS N_Within_init P_Within_init (defScope s_Within_init) := ⟨rfl, rfl, rfl, by decide +kernel, rfl, by decide +kernel, by decide +kernel, by decide +kernel⟩
abbrev s_Crowd_init : Stmt := inClass (topS 47) 0
abbrev N_Crowd_init : List Str := [("self" : Str), ("rows" : Str)]
abbrev P_Crowd_init : List Str := [("self" : Str), ("rows" : Str)]
theorem sc_Crowd_init : FnScopeS N_Crowd_init P_Crowd_init (defScope s_Crowd_init) := ⟨rfl, rfl, rfl, by decide +kernel, rfl, by decide +kernel, by decide +kernel, by decide +kernel⟩
abbrev s_Keeps_init : Stmt := inClass (topS 49) 0
abbrev N_Keeps_init : List Str := [("self" : Str), ("family" : Str), ("lots" : Str), ("rows" : Str)]
abbrev P_Keeps_init : List Str := [("self" : Str), ("family" : Str), ("lots" : Str), ("rows" : Str)]
theorem sc_Keeps_init : FnScopeS N_Keeps_init P_Keeps_init (defScope s_Keeps_init) := ⟨rfl, rfl, rfl, by decide +kernel, rfl, by decide +kernel, by decide +kernel, by decide +kernel⟩
abbrev s_Forgets_init : Stmt := inClass (topS 50) 0
abbrev N_Forgets_init : List Str := [("self" : Str), ("rows" : Str)]
abbrev P_Forgets_init : List Str := [("self" : Str), ("rows" : Str)]
theorem sc_Forgets_init : FnScopeS N_Forgets_init P_Forgets_init (defScope s_Forgets_init) := ⟨rfl, rfl, rfl, by decide +kernel, rfl, by decide +kernel, by decide +kernel, by decide +kernel⟩
abbrev s_Enough_init : Stmt := inClass (topS 52) 0
abbrev N_Enough_init : List Str := [("self" : Str), ("least" : Str), ("greatest" : Str)]
abbrev P_Enough_init : List Str := [("self" : Str), ("least" : Str), ("greatest" : Str)]
theorem sc_Enough_init : FnScopeS N_Enough_init P_Enough_init (defScope s_Enough_init) := ⟨rfl, rfl, rfl, by decide +kernel, rfl, by decide +kernel, by decide +kernel, by decide +kernel⟩
abbrev s_Fits_init : Stmt := inClass (topS 54) 0
abbrev N_Fits_init : List Str := [("self" : Str), ("moment" : Str), ("states" : Str)]
abbrev P_Fits_init : List Str := [("self" : Str), ("moment" : Str), ("states" : Str)]
theorem sc_Fits_init : FnScopeS N_Fits_init P_Fits_init (defScope s_Fits_init) := ⟨rfl, rfl, rfl, by decide +kernel, rfl, by decide +kernel, by decide +kernel, by decide +kernel⟩
abbrev s_Unfit_init : Stmt := inClass (topS 55) 0
abbrev N_Unfit_init : List Str := [("self" : Str), ("lots" : Str)]
abbrev P_Unfit_init : List Str := [("self" : Str), ("lots" : Str)]
theorem sc_Unfit_init : FnScopeS N_Unfit_init P_Unfit_init (defScope s_Unfit_init) := ⟨rfl, rfl, rfl, by decide +kernel, rfl, by decide +kernel, by decide +kernel, by decide +kernel⟩
abbrev s_Known_init : Stmt := inClass (topS 57) 0
abbrev N_Known_init : List Str := [("self" : Str), ("service" : Str), ("value" : Str)]
abbrev P_Known_init : List Str := [("self" : Str), ("service" : Str), ("value" : Str)]
theorem sc_Known_init : FnScopeS N_Known_init P_Known_init (defScope s_Known_init) := ⟨rfl, rfl, rfl, by decide +kernel, rfl, by decide +kernel, by decide +kernel, by decide +kernel⟩
abbrev s_Alike_init : Stmt := inClass (topS 58) 0
abbrev N_Alike_init : List Str := [("self" : Str), ("service" : Str), ("one" : Str), ("other" : Str)]
abbrev P_Alike_init : List Str := [("self" : Str), ("service" : Str), ("one" : Str), ("other" : Str)]
theorem sc_Alike_init : FnScopeS N_Alike_init P_Alike_init (defScope s_Alike_init) := ⟨rfl, rfl, rfl, by decide +kernel, rfl, by decide +kernel, by decide +kernel, by decide +kernel⟩
abbrev s_Sayable_init : Stmt := inClass (topS 59) 0
abbrev N_Sayable_init : List Str := [("self" : Str), ("word" : Str)]
abbrev P_Sayable_init : List Str := [("self" : Str), ("word" : Str)]
theorem sc_Sayable_init : FnScopeS N_Sayable_init P_Sayable_init (defScope s_Sayable_init) := ⟨rfl, rfl, rfl, by decide +kernel, rfl, by decide +kernel, by decide +kernel, by decide +kernel⟩
abbrev s_Barred_init : Stmt := inClass (topS 60) 0
abbrev N_Barred_init : List Str := [("self" : Str), ("word" : Str), ("run" : Str)]
abbrev P_Barred_init : List Str := [("self" : Str), ("word" : Str), ("run" : Str)]
theorem sc_Barred_init : FnScopeS N_Barred_init P_Barred_init (defScope s_Barred_init) := ⟨rfl, rfl, rfl, by decide +kernel, rfl, by decide +kernel, by decide +kernel, by decide +kernel⟩
abbrev s_Seemly_init : Stmt := inClass (topS 62) 0
abbrev N_Seemly_init : List Str := [("self" : Str), ("begin" : Str), ("order" : Str), ("moment" : Str), ("states" : Str)]
abbrev P_Seemly_init : List Str := [("self" : Str), ("begin" : Str), ("order" : Str), ("moment" : Str), ("states" : Str)]
theorem sc_Seemly_init : FnScopeS N_Seemly_init P_Seemly_init (defScope s_Seemly_init) := ⟨rfl, rfl, rfl, by decide +kernel, rfl, by decide +kernel, by decide +kernel, by decide +kernel⟩
abbrev s_Unseemly_init : Stmt := inClass (topS 63) 0
abbrev N_Unseemly_init : List Str := [("self" : Str), ("rows" : Str)]
abbrev P_Unseemly_init : List Str := [("self" : Str), ("rows" : Str)]
theorem sc_Unseemly_init : FnScopeS N_Unseemly_init P_Unseemly_init (defScope s_Unseemly_init) := ⟨rfl, rfl, rfl, by decide +kernel, rfl, by decide +kernel, by decide +kernel, by decide +kernel⟩
abbrev s_Order_init : Stmt := inClass (topS 65) 0
abbrev N_Order_init : List Str := [("self" : Str), ("names" : Str), ("lots" : Str), ("rows" : Str)]
abbrev P_Order_init : List Str := [("self" : Str), ("names" : Str), ("lots" : Str), ("rows" : Str)]
theorem sc_Order_init : FnScopeS N_Order_init P_Order_init (defScope s_Order_init) := ⟨rfl, rfl, rfl, by decide +kernel, rfl, by decide +kernel, by decide +kernel, by decide +kernel⟩
abbrev s_Unordered_init : Stmt := inClass (topS 66) 0
abbrev N_Unordered_init : List Str := [("self" : Str), ("names" : Str), ("replies" : Str), ("why" : Str)]
abbrev P_Unordered_init : List Str := [("self" : Str), ("names" : Str), ("replies" : Str), ("why" : Str)]
theorem sc_Unordered_init : FnScopeS N_Unordered_init P_Unordered_init (defScope s_Unordered_init) := ⟨rfl, rfl, rfl, by decide +kernel, rfl, by decide +kernel, by decide +kernel, by decide +kernel⟩
abbrev s_Matching_init : Stmt := inClass (topS 68) 0
abbrev N_Matching_init : List Str := [("self" : Str), ("pairs" : Str)]
abbrev P_Matching_init : List Str := [("self" : Str), ("pairs" : Str)]
theorem sc_Matching_init : FnScopeS N_Matching_init P_Matching_init (defScope s_Matching_init) := ⟨rfl, rfl, rfl, by decide +kernel, rfl, by decide +kernel, by decide +kernel, by decide +kernel⟩
abbrev s_Apart_init : Stmt := inClass (topS 69) 0
abbrev N_Apart_init : List Str := [("self" : Str), ("begin" : Str), ("replies" : Str)]
abbrev P_Apart_init : List Str := [("self" : Str), ("begin" : Str), ("replies" : Str)]
theorem sc_Apart_init : FnScopeS N_Apart_init P_Apart_init (defScope s_Apart_init) := ⟨rfl, rfl, rfl, by decide +kernel, rfl, by decide +kernel, by decide +kernel, by decide +kernel⟩
abbrev s_Shorter_init : Stmt := inClass (topS 70) 0
abbrev N_Shorter_init : List Str := [("self" : Str), ("rows" : Str), ("restarts" : Str), ("numbers" : Str), ("apart" : Str)]
abbrev P_Shorter_init : List Str := [("self" : Str), ("rows" : Str), ("restarts" : Str), ("numbers" : Str), ("apart" : Str)]
theorem sc_Shorter_init : FnScopeS N_Shorter_init P_Shorter_init (defScope s_Shorter_init) := ⟨rfl, rfl, rfl, by decide +kernel, rfl, by decide +kernel, by decide +kernel, by decide +kernel⟩
abbrev s_Soonest_init : Stmt := inClass (topS 72) 0
abbrev N_Soonest_init : List Str := [("self" : Str), ("steps" : Str), ("plan" : Str), ("delay" : Str)]
abbrev P_Soonest_init : List Str := [("self" : Str), ("steps" : Str), ("plan" : Str), ("delay" : Str)]
theorem sc_Soonest_init : FnScopeS N_Soonest_init P_Soonest_init (defScope s_Soonest_init) := ⟨rfl, rfl, rfl, by decide +kernel, rfl, by decide +kernel, by decide +kernel, by decide +kernel⟩
abbrev s_Delay_init : Stmt := inClass (topS 73) 0
abbrev N_Delay_init : List Str := [("self" : Str), ("steps" : Str), ("lots" : Str), ("rows" : Str)]
abbrev P_Delay_init : List Str := [("self" : Str), ("steps" : Str), ("lots" : Str), ("rows" : Str)]
theorem sc_Delay_init : FnScopeS N_Delay_init P_Delay_init (defScope s_Delay_init) := ⟨rfl, rfl, rfl, by decide +kernel, rfl, by decide +kernel, by decide +kernel, by decide +kernel⟩
abbrev s_Turning_init : Stmt := inClass (topS 75) 0
abbrev N_Turning_init : List Str := [("self" : Str), ("rows" : Str)]
abbrev P_Turning_init : List Str := [("self" : Str), ("rows" : Str)]
theorem sc_Turning_init : FnScopeS N_Turning_init P_Turning_init (defScope s_Turning_init) := ⟨rfl, rfl, rfl, by decide +kernel, rfl, by decide +kernel, by decide +kernel, by decide +kernel⟩
abbrev s_made_one : Stmt := topS 77
abbrev N_made_one : List Str := [("word" : Str), ("parts" : Str)]
abbrev P_made_one : List Str := [("word" : Str), ("parts" : Str)]
theorem sc_made_one : FnScope N_made_one P_made_one (defScope s_made_one) := ⟨rfl, rfl, rfl, by decide +kernel, rfl, by decide +kernel, by decide +kernel⟩
abbrev s_made_two : Stmt := topS 78
abbrev N_made_two : List Str := [("word" : Str), ("parts" : Str)]
abbrev P_made_two : List Str := [("word" : Str), ("parts" : Str)]
theorem sc_made_two : FnScope N_made_two P_made_two (defScope s_made_two) := ⟨rfl, rfl, rfl, by decide +kernel, rfl, by decide +kernel, by decide +kernel⟩
abbrev s_made_three : Stmt := topS 79
abbrev N_made_three : List Str := [("word" : Str), ("parts" : Str)]
abbrev P_made_three : List Str := [("word" : Str), ("parts" : Str)]
theorem sc_made_three : FnScope N_made_three P_made_three (defScope s_made_three) := ⟨rfl, rfl, rfl, by decide +kernel, rfl, by decide +kernel, by decide +kernel⟩
abbrev s_made_paper : Stmt := topS 80
abbrev N_made_paper : List Str := [("word" : Str), ("parts" : Str)]
abbrev P_made_paper : List Str := [("word" : Str), ("parts" : Str)]
theorem sc_made_paper : FnScope N_made_paper P_made_paper (defScope s_made_paper) := ⟨rfl, rfl, rfl, by decide +kernel, rfl, by decide +kernel, by decide +kernel⟩
abbrev s_is_written : Stmt := topS 81
abbrev N_is_written : List Str := [("word" : Str), ("figures" : Str), ("sign" : Str)]
abbrev P_is_written : List Str := [("word" : Str)]
theorem sc_is_written : FnScope N_is_written P_is_written (defScope s_is_written) := ⟨rfl, rfl, rfl, by decide +kernel, rfl, by decide +kernel, by decide +kernel⟩
abbrev s_is_plain : Stmt := topS 82
abbrev N_is_plain : List Str := [("word" : Str), ("sign" : Str)]
abbrev P_is_plain : List Str := [("word" : Str)]
theorem sc_is_plain : FnScope N_is_plain P_is_plain (defScope s_is_plain) := ⟨rfl, rfl, rfl, by decide +kernel, rfl, by decide +kernel, by decide +kernel⟩
abbrev s_value_of : Stmt := topS 83
abbrev N_value_of : List Str := [("word" : Str)]
abbrev P_value_of : List Str := [("word" : Str)]
theorem sc_value_of : FnScope N_value_of P_value_of (defScope s_value_of) := ⟨rfl, rfl, rfl, by decide +kernel, rfl, by decide +kernel, by decide +kernel⟩
abbrev s_Opened_init : Stmt := inClass (topS 84) 0
abbrev N_Opened_init : List Str := [("self" : Str), ("word" : Str)]
abbrev P_Opened_init : List Str := [("self" : Str), ("word" : Str)]
theorem sc_Opened_init : FnScope N_Opened_init P_Opened_init (defScope s_Opened_init) := ⟨rfl, rfl, rfl, by decide +kernel, rfl, by decide +kernel, by decide +kernel⟩
abbrev s_Opened_has_room : Stmt := inClass (topS 84) 1
abbrev N_Opened_has_room : List Str := [("self" : Str)]
abbrev P_Opened_has_room : List Str := [("self" : Str)]
theorem sc_Opened_has_room : FnScope N_Opened_has_room P_Opened_has_room (defScope s_Opened_has_room) := ⟨rfl, rfl, rfl, by decide +kernel, rfl, by decide +kernel, by decide +kernel⟩
abbrev s_Opened_is_whole : Stmt := inClass (topS 84) 2
abbrev N_Opened_is_whole : List Str := [("self" : Str)]
abbrev P_Opened_is_whole : List Str := [("self" : Str)]
theorem sc_Opened_is_whole : FnScope N_Opened_is_whole P_Opened_is_whole (defScope s_Opened_is_whole) := ⟨rfl, rfl, rfl, by decide +kernel, rfl, by decide +kernel, by decide +kernel⟩
abbrev s_Opened_told : Stmt := inClass (topS 84) 3
abbrev N_Opened_told : List Str := [("self" : Str)]
abbrev P_Opened_told : List Str := [("self" : Str)]
theorem sc_Opened_told : FnScope N_Opened_told P_Opened_told (defScope s_Opened_told) := ⟨rfl, rfl, rfl, by decide +kernel, rfl, by decide +kernel, by decide +kernel⟩
abbrev s_word_at : Stmt := topS 85
abbrev N_word_at : List Str := [("words" : Str), ("at" : Str)]
abbrev P_word_at : List Str := [("words" : Str), ("at" : Str)]
theorem sc_word_at : FnScope N_word_at P_word_at (defScope s_word_at) := ⟨rfl, rfl, rfl, by decide +kernel, rfl, by decide +kernel, by decide +kernel⟩
abbrev s_opened_at : Stmt := topS 86
abbrev N_opened_at : List Str := [("words" : Str), ("at" : Str), ("is_first" : Str), ("word" : Str)]
abbrev P_opened_at : List Str := [("words" : Str), ("at" : Str), ("is_first" : Str)]
theorem sc_opened_at : FnScope N_opened_at P_opened_at (defScope s_opened_at) := ⟨rfl, rfl, rfl, by decide +kernel, rfl, by decide +kernel, by decide +kernel⟩
abbrev s_read_paper : Stmt := topS 87
abbrev N_read_paper : List Str := [("text" : Str), ("lines" : Str), ("words" : Str), ("first" : Str), ("at" : Str), ("line" : Str), ("top" : Str), ("word" : Str), ("inner" : Str), ("behind" : Str)]
abbrev P_read_paper : List Str := [("text" : Str)]
theorem sc_read_paper : FnScope N_read_paper P_read_paper (defScope s_read_paper) := ⟨rfl, rfl, rfl, by decide +kernel, rfl, by decide +kernel, by decide +kernel⟩
abbrev s_l_pen : Stmt := topS 89
abbrev N_l_pen : List Str := [("script" : Str), ("cell" : Str)]
abbrev P_l_pen : List Str := [("script" : Str)]
theorem sc_l_pen : FnScope N_l_pen P_l_pen (defScope s_l_pen) := ⟨rfl, rfl, rfl, by decide +kernel, rfl, by decide +kernel, by decide +kernel⟩
abbrev s_l_draw : Stmt := topS 90
abbrev N_l_draw : List Str := [("pen" : Str), ("many" : Str), ("rest" : Str), ("turn" : Str), ("cell" : Str), ("mixed" : Str)]
abbrev P_l_draw : List Str := [("pen" : Str), ("many" : Str)]
theorem sc_l_draw : FnScope N_l_draw P_l_draw (defScope s_l_draw) := ⟨rfl, rfl, rfl, by decide +kernel, rfl, by decide +kernel, by decide +kernel⟩
abbrev s_l_pick : Stmt := topS 91
abbrev N_l_pick : List Str := [("pen" : Str), ("some" : Str)]
abbrev P_l_pick : List Str := [("pen" : Str), ("some" : Str)]
theorem sc_l_pick : FnScope N_l_pick P_l_pick (defScope s_l_pick) := ⟨rfl, rfl, rfl, by decide +kernel, rfl, by decide +kernel, by decide +kernel⟩
abbrev s_l_heard : Stmt := topS 92
abbrev N_l_heard : List Str := [("ask" : Str), ("found" : Str), ("caught" : Str), ("error" : Str), ("words" : Str), ("told" : Str), ("word" : Str), ("is_so" : Str)]
abbrev P_l_heard : List Str := [("ask" : Str)]
theorem sc_l_heard : FnScope N_l_heard P_l_heard (defScope s_l_heard) := ⟨rfl, rfl, rfl, by decide +kernel, rfl, by decide +kernel, by decide +kernel⟩
abbrev s_lx_counts : Stmt := topS 93
abbrev N_lx_counts : List Str := [("found" : Str)]
abbrev P_lx_counts : List Str := []
theorem sc_lx_counts : FnScope N_lx_counts P_lx_counts (defScope s_lx_counts) := ⟨rfl, rfl, rfl, by decide +kernel, rfl, by decide +kernel, by decide +kernel⟩
abbrev s_lx_plain_words : Stmt := topS 94
abbrev N_lx_plain_words : List Str := [("value" : Str), ("one" : Str)]
abbrev P_lx_plain_words : List Str := [("value" : Str)]
theorem sc_lx_plain_words : FnScope N_lx_plain_words P_lx_plain_words (defScope s_lx_plain_words) := ⟨rfl, rfl, rfl, by decide +kernel, rfl, by decide +kernel, by decide +kernel⟩
abbrev s_lx_is_leaf : Stmt := topS 95
abbrev N_lx_is_leaf : List Str := [("word" : Str), ("figures" : Str), ("sign" : Str)]
abbrev P_lx_is_leaf : List Str := [("word" : Str)]
theorem sc_lx_is_leaf : FnScope N_lx_is_leaf P_lx_is_leaf (defScope s_lx_is_leaf) := ⟨rfl, rfl, rfl, by decide +kernel, rfl, by decide +kernel, by decide +kernel⟩
abbrev s_lx_paper_bad : Stmt := topS 96
abbrev N_lx_paper_bad : List Str := [("words" : Str), ("counts_v" : Str), ("line" : Str), ("at" : Str), ("turn" : Str), ("word" : Str), ("top" : Str), ("has_room" : Str)]
abbrev P_lx_paper_bad : List Str := [("words" : Str)]
theorem sc_lx_paper_bad : FnScope N_lx_paper_bad P_lx_paper_bad (defScope s_lx_paper_bad) := ⟨rfl, rfl, rfl, by decide +kernel, rfl, by decide +kernel, by decide +kernel⟩
abbrev s_l_paper_one : Stmt := topS 97
abbrev N_l_paper_one : List Str := [("word" : Str), ("parts" : Str)]
abbrev P_l_paper_one : List Str := [("word" : Str), ("parts" : Str)]
theorem sc_l_paper_one : FnScope N_l_paper_one P_l_paper_one (defScope s_l_paper_one) := ⟨rfl, rfl, rfl, by decide +kernel, rfl, by decide +kernel, by decide +kernel⟩
abbrev s_l_paper_of : Stmt := topS 98
abbrev N_l_paper_of : List Str := [("word" : Str), ("parts" : Str)]
abbrev P_l_paper_of : List Str := [("word" : Str), ("parts" : Str)]
theorem sc_l_paper_of : FnScope N_l_paper_of P_l_paper_of (defScope s_l_paper_of) := ⟨rfl, rfl, rfl, by decide +kernel, rfl, by decide +kernel, by decide +kernel⟩
abbrev s_lx_thing : Stmt := topS 99
abbrev N_lx_thing : List Str := [("pen" : Str), ("deep" : Str), ("way" : Str), ("value" : Str), ("both" : Str), ("turn" : Str), ("one" : Str)]
abbrev P_lx_thing : List Str := [("pen" : Str), ("deep" : Str)]
theorem sc_lx_thing : FnScope N_lx_thing P_lx_thing (defScope s_lx_thing) := ⟨rfl, rfl, rfl, by decide +kernel, rfl, by decide +kernel, by decide +kernel⟩
abbrev s_lx_drawn_paper : Stmt := topS 100
abbrev N_lx_drawn_paper : List Str := [("pen" : Str), ("deep" : Str), ("word" : Str), ("both" : Str), ("turn" : Str), ("one" : Str)]
abbrev P_lx_drawn_paper : List Str := [("pen" : Str), ("deep" : Str)]
theorem sc_lx_drawn_paper : FnScope N_lx_drawn_paper P_lx_drawn_paper (defScope s_lx_drawn_paper) := ⟨rfl, rfl, rfl, by decide +kernel, rfl, by decide +kernel, by decide +kernel⟩
abbrev s_l_bent_words : Stmt := topS 101
abbrev N_l_bent_words : List Str := [("pen" : Str), ("words" : Str), ("at" : Str), ("way" : Str), ("odd" : Str)]
abbrev P_l_bent_words : List Str := [("pen" : Str), ("words" : Str)]
theorem sc_l_bent_words : FnScope N_l_bent_words P_l_bent_words (defScope s_l_bent_words) := ⟨rfl, rfl, rfl, by decide +kernel, rfl, by decide +kernel, by decide +kernel⟩
abbrev s_law : Stmt := topS 102
abbrev N_law : List Str := [("script" : Str), ("pen" : Str), ("turn" : Str), ("paper" : Str), ("plain" : Str), ("words" : Str), ("text" : Str), ("read" : Str), ("lap" : Str), ("some" : Str), ("due" : Str), ("heard" : Str), ("odd" : Str), ("bad" : Str)]
abbrev P_law : List Str := [("script" : Str)]
theorem sc_law : FnScope N_law P_law (defScope s_law) := ⟨rfl, rfl, rfl, by decide +kernel, rfl, by decide +kernel, by decide +kernel⟩
end K91
set_option Elab.async false
set_option linter.all false
set_option maxRecDepth 100000
set_option maxHeartbeats 2000000
/-! K91, X: super().__init__(..) in an own exception over ValueError. -/
namespace K91
open PySem PySem.Spec PyProof.Rows L2
structure SupX (K : PySem.W.Frag) (C D : Addr) : Prop where
  sub : PySem.W.mroIn K C (.ref D) = some true
  sup : PySem.W.ks_superIn K C D "__init__" = some (some (.builtin "ValueError.__init__"))
  clsD : (PySem.W.clsIn K D).isSome = true
  op : PySem.W.nsIn K cStatics "thirdparty.any" = some none
  ve : PySem.W.mroIn K C (.type "ValueError") = some true
section
variable {prog : Program} {w : World} {A : Around} {E : Value → Shared → Prop} {h : Heap} {g : Array GenState} {d : Drawn} {t : Nat} {os : OsState}
variable {nm q : Str} {C N : Addr} {bs bm : List Value} {hdct : Bool} {sn : List Str} {sub : List Value} {ab : Bool} {col : Option Bool} {dd : Option Addr} {k0 k1 k2 k3 k5 : Option Value}
theorem call_vw {u e t0 : Addr} {rest : List Value} {Q : Value → Shared → Prop}
    (hC : h.get? C = some (excClassObj nm q C N bs bm hdct sn sub ab col dd k0 k1 k2 k3 k5 "ValueError.__new__")) (he : h.get? e = some (HandSPX.excO C t0)) (hu : h.get? u = some (PySem.W.kxs_mw "ValueError.__init__" e)) (hrest : rest.length ≤ sizeLine)
    (hq : ∀ h' t1, (∀ b o, b ≠ e → h.get? b = some o → h'.get? b = some o) → h'.get? e = some (HandSPX.excO C t1) → Q .none ⟨h', g, d, t, os⟩) :
    wpAny (model prog w) A (call (.ref u) rest) Q E ⟨h, g, d, t, os⟩ := by
  refine wpAny_call (codeAny_of_tree ?_)
  show wpAny _ A.in1 (callAny (.ref u) ⟨rest, []⟩) _ _ _
  simp only [callAny]
  refine wpAny_bind (wpAny_load hu ?_)
  simp only [PySem.W.kxs_mw, show (Value.type "method-wrapper" == Value.type "method" || Value.type "method-wrapper" == Value.type "builtin_function_or_method" || Value.type "method-wrapper" == Value.type "method-wrapper") = true by decide, if_true]
  refine PySem.W.KFB.if_so (by decide) ?_
  refine wpAny_bind (PySem.ESX.check_bound F.excBase_ValueError hC he rfl ?_)
  refine wpAny_bind (wpAny_pure (wpAny_pure ?_))
  refine ⟨Code.quiet_builtin _ (by decide +kernel), codeAny_builtin F.excBase_ValueError.initEntry ?_⟩
  rw [Around.under_plainId F.excBase_ValueError.init.plain _]
  wp_walk
  refine hq _ h.objs.size (fun b o hb ho => ?_) ?_
  · rw [Heap.get?_update_other _ _ (Ne.symm hb)]
    exact Heap.get?_push_of_some _ ho
  · rw [Heap.get?_update_self _ (Heap.get?_push_of_some _ he) rfl]
    rfl
end
section
variable {CX : CXT} {P : Program} {w : World} {K : PySem.W.Frag} {mg : Str → Option Value} {base : Heap} {N : List Str} {qual name : Str} {scope : Scope} {f cc C D cda x f2 : Addr} {params : Arguments} {body body0 : List Stmt} {fd : FuncData} {A : Around} {outer : List Env} {s₀ : Shared} {H₀ : Hp} {E₀ : XK}
theorem super_exc {D' : Ends} {σ : L2.St} {H : Hp} {s : Shared} {pins : List (Addr × Obj)} {e : Expr} {es : List Expr} {t : TA} {p0 p1 apos pos pos2 : Pos} {pl : Sem Bool}
    (I : Inv (cxS CX P w K mg base N qual scope f (.ref cda) cc A outer s₀ H₀ E₀) pins σ H s) (F : FnS K f cc D name qual params body0 scope fd cda) (SK : SupX K C D) (T : OexC K C) (SS : SupS P scope params)
    (gS : mg "super" = none) (hN : N[0]? = some ("self" : Str)) (hσ : σ[0]? = some (some (.ref x))) (hxe : H x = some (exo x C none))
    (ha : PA (cxS CX P w K mg base N qual scope f (.ref cda) cc A outer s₀ H₀ E₀) (e :: es) t)
    (h : t σ H fun vs H1 => H1 x = some (exo x C none) ∧ vs.length ≤ 1000 ∧ D'.nx σ H1)
    (he : eval (.Call (.Attribute (.Call (.Name "super" p0) [] [] p1) "__init__" apos) (e :: es) [] pos) (envS qual scope s₀.heap.objs.size f (.ref cda) cc) = (do
      let ov ← attributeBase (.Call (.Name "super" p0) [] [] p1) "__init__" (envS qual scope s₀.heap.objs.size f (.ref cda) cc) (eval (.Call (.Name "super" p0) [] [] p1) (envS qual scope s₀.heap.objs.size f (.ref cda) cc))
      standAt apos.atName
      let (fz, first) ← holding [ov] (getMethod ov "__init__" pl)
      callWith pos fz first (backTo pos (starEach (e :: es) (envS qual scope s₀.heap.objs.size f (.ref cda) cc))) []) := by rfl)
    (hst : starEach (e :: es) (envS qual scope s₀.heap.objs.size f (.ref cda) cc) = (false, eval e (envS qual scope s₀.heap.objs.size f (.ref cda) cc)) :: starEach es (envS qual scope s₀.heap.objs.size f (.ref cda) cc) := by rfl)
    (hpl : (backTo pos (starEach es (envS qual scope s₀.heap.objs.size f (.ref cda) cc))).any (·.1) = false := by rfl)
    (hi : interactive (envS qual scope s₀.heap.objs.size f (.ref cda) cc) = false := by rfl)
    (hsw : swapsWith (.Call (.Attribute (.Call (.Name "super" p0) [] [] p1) "__init__" apos) (e :: es) [] pos) none pos2.line (envS qual scope s₀.heap.objs.size f (.ref cda) cc) = pure false := by rfl) :
    _root_.PySem.wpAt (model P w) (A.deeper (envS qual scope s₀.heap.objs.size f (.ref cda) cc)) (.func body (envS qual scope s₀.heap.objs.size f (.ref cda) cc))
      (exec (.Expr (.Call (.Attribute (.Call (.Name "super" p0) [] [] p1) "__init__" apos) (e :: es) [] pos) pos2) (envS qual scope s₀.heap.objs.size f (.ref cda) cc))
      (SP (cxS CX P w K mg base N qual scope f (.ref cda) cc A outer s₀ H₀ E₀) pins D') (cxS CX P w K mg base N qual scope f (.ref cda) cc A outer s₀ H₀ E₀).xe s := by
  obtain ⟨oc, od, kV, doc, pm, an, ct, osl, rfl, lk⟩ := F.ex
  obtain ⟨ccl, cdd, vs, ccs, tf, hcode, hvs⟩ := F.cfile
  obtain ⟨cl, cld, csl, hcell⟩ := F.cell
  obtain ⟨ar, har, earg⟩ := SS.hp
  obtain ⟨cdD, hD⟩ := Option.isSome_iff_exists.mp SK.clsD
  obtain ⟨nm, q, Na, bs, bm, sn, sub, ab, col, dd, k0, k1, k2, k3, k5, hCC, hbm⟩ := T.cls
  have KX : K.In s.heap := I.kIn
  obtain ⟨oD, hD1, hD2⟩ : ∃ oD, s.heap.get? D = some oD ∧ oD.data = .cls cdD := by
    unfold PySem.W.clsIn at hD
    split at hD
    · rename_i c d cd' sl ho
      cases hD
      exact ⟨_, KX _ _ ho, rfl⟩
    · cases hD
  obtain ⟨m, hns, hlook⟩ := I.loc
  obtain ⟨u, ru, hl⟩ := hlook 0 "self" (.ref x) hN hσ (.inl SS.hself)
  obtain rfl : u = Value.ref x := ru
  have hm : m "self" = some (.ref x) := by
    rcases hl with ⟨_, z⟩ | ⟨z, _⟩
    · exact z
    · have z1 : scope.names.lookup ("self" : Str) = some .cell ∨ scope.names.lookup ("self" : Str) = some .free := z
      rw [SS.hself] at z1
      rcases z1 with z1 | z1 <;> cases z1
  have hfile : ((P.main.file : Str) == "/claim/cut.py") = true := by
    rw [SS.file]
    simp
  obtain ⟨t1, hox⟩ := exo_at I.hok hxe
  refine ks_wpAt_Expr_any ?_ hi hsw
  refine ks_wpAt_MethodCall (pl := pl) ?_ he
  refine PySem.ks_wpAt_super_base (env := envS qual scope s₀.heap.objs.size f (.ref cda) cc) SS.hs SS.hc (by decide +kernel) rfl (KX _ _ lk) rfl har rfl (KX _ _ hcode) rfl hvs hfile SS.top ?_
  have hglob : s.heap.Ns mainGlobals mg := I.mod.glob.keeps I.bk
  obtain ⟨mb, hb1, hb2⟩ := I.mod.blt
  refine PySem.W.ks_loadName_global SS.hk SS.hs (PySem.Calls.loadGlobal_builtin (env := envS qual scope s₀.heap.objs.size f (.ref cda) cc) hglob gS (hb1.keeps I.bk) ((hb2 _ (by decide +kernel)).trans (by decide +kernel : bootBuiltins "super" = some (.type "super"))) ⟨rfl, ?_⟩)
  refine wpAny_loadName_free SS.hk SS.hc rfl ⟨_, KX _ _ hcell, rfl⟩ ?_
  rw [earg]
  refine wpAny_loadName_local SS.hk SS.hself hns hm ?_
  obtain ⟨hh, g, d, tk, os⟩ := s
  refine ks_wpAny_isType_cls hD1 hD2 ⟨rfl, ?_⟩
  refine ks_wpAny_call_super hD1 hD2 hox rfl (fun c z => nomatch z) (PySem.W.looks_mroIn KX SK.sub) (fun h1 e1 k1 => ?_)
  have I1 : Inv (cxS CX P w K mg base N qual scope f (.ref cda) cc A outer s₀ H₀ E₀) pins σ H ⟨h1, g, d, tk, os⟩ := I.kept (t' := tk) k1
  have KX1 : K.In h1 := I1.kIn
  obtain ⟨cdC, hC⟩ : ∃ cdC, PySem.W.clsIn K C = some cdC := by
    have z := SK.sup
    unfold PySem.W.ks_superIn at z
    cases q : PySem.W.clsIn K C with
    | none => rw [q] at z; cases z
    | some cd => exact ⟨cd, rfl⟩
  have hm2 : PySem.W.alongIn K "__init__" ((cdC.mro.dropWhile (· != .ref D)).drop 1) = some (some (.builtin "ValueError.__init__")) := by
    have z := SK.sup
    unfold PySem.W.ks_superIn at z
    rw [hC] at z
    exact z
  have hxC : x ≠ C := by
    intro z
    have e2 := KX _ _ hCC
    rw [← z] at e2
    have e3 : hh.get? x = _ := hox
    rw [e3] at e2
    cases e2
  have hI1 : PySem.W.InstAt h1 x { cls := .ref C, dict := none, data := .fields #[.ref t1, .none, .none, .none, .bool false, .none] } C none := ⟨k1 _ _ hox, rfl, rfl, trivial⟩
  refine PySem.W.kxs_getMethod PySem.W.kxs_ValueError e1 (PySem.W.looks_opaque KX1 SK.op) (l₀ := cdC.mro) (fun A Q E s k q => wpAny_bind ((PySem.W.looks_clsIn KX1 hC) A _ E s k (wpAny_pure q))) rfl KX1 hm2 (hI1.type.andThen (PySem.W.looks_mroIn KX1 SK.ve)) hxC (by decide +kernel) ?_
  have I2 := ClX.pin_new (t' := tk + 1) (o := PySem.W.kxs_mw "ValueError.__init__" x) I1 (fun _ _ z => Heap.get?_push_of_some _ z) (Nat.le_refl _) (Heap.get?_push_size h1 rfl) (fun v z => nomatch z)
  rw [hst]
  refine PySem.W.kxs_callWith (i := "ValueError.__init__") (x := x) (show _ = false from hpl) (PySem.Calls.evalArgs_plain ?_)
  show wpAny _ _ (spliced (backTo pos ((false, eval e (envS qual scope s₀.heap.objs.size f (Value.ref cda) cc)) :: starEach es (envS qual scope s₀.heap.objs.size f (Value.ref cda) cc)))) _ _ _
  rw [← hst]
  refine thn (ha.run pos _ _ σ H _ I2 h) fun us s3 ⟨vs2, H2, I3, rv, he2, hlen, q2⟩ => ⟨ClX.pin_at I3, ?_⟩
  obtain ⟨t2, ho3⟩ := exo_at I3.hok he2
  obtain ⟨h3, g3, d3, tk3, os3⟩ := s3
  refine call_vw (I3.kIn _ _ hCC) ho3 (ClX.pin_at I3) (by show us.length ≤ _; rw [← Paired.length rv, sizeLine_eq]; omega) (fun h' t4 kk hx4 => ?_)
  have J := I3.write (t' := tk3) (x := x) (e := x) (o := exo x C none) (by rw [he2]; exact True.intro) (.inl rfl) kk ⟨_, hx4⟩ (exo_ok hx4)
  have eu : upd H2 x (exo x C none) = H2 := by
    funext b
    by_cases hb : b = x
    · rw [hb, upd_same, he2]
    · rw [upd_ne hb]
  rw [eu] at J
  exact ⟨σ, H2, ClX.unpin J, q2⟩
end
end K91
set_option Elab.async false
set_option linter.all false
set_option maxRecDepth 100000
set_option maxHeartbeats 2000000
/-! K91, E: what the top leaves, as tables (printed by gen_k91e.py). -/
namespace K91
open PySem L2
/-- a class of papers: its name, word, whether it denies, where it stands, its __init__'s parameters, its own attributes -/
structure PC where
  cls : Str
  word : Str
  den : Bool
  at_ : Addr
  args : List Str
  attrs : List Str
  deriving DecidableEq
def pcs : List PC := [⟨("Right" : Str), ("right" : Str), false, 349, [("rows" : Str)], [("rows" : Str)]⟩, ⟨("Wrong" : Str), ("wrong" : Str), true, 370, [("point" : Str), ("steps" : Str)], [("point" : Str), ("steps" : Str)]⟩, ⟨("Round" : Str), ("round" : Str), true, 391, [("point" : Str), ("steps" : Str), ("ring" : Str)], [("point" : Str), ("steps" : Str), ("ring" : Str)]⟩, ⟨("Beside" : Str), ("beside" : Str), false, 412, [("rows" : Str)], [("rows" : Str)]⟩] ++
  [⟨("Clash" : Str), ("clash" : Str), true, 433, [("point" : Str), ("steps" : Str)], [("point" : Str), ("steps" : Str)]⟩, ⟨("Plan" : Str), ("plan" : Str), false, 454, [("lots" : Str), ("rows" : Str)], [("lots" : Str), ("rows" : Str)]⟩, ⟨("Spoil" : Str), ("spoil" : Str), true, 475, [("lots" : Str), ("rows" : Str)], [("lots" : Str), ("rows" : Str)]⟩, ⟨("Within" : Str), ("within" : Str), false, 496, [("budget" : Str), ("lots" : Str), ("rows" : Str)], [("budget" : Str), ("lots" : Str), ("rows" : Str)]⟩] ++
  [⟨("Crowd" : Str), ("crowd" : Str), false, 517, [("rows" : Str)], [("rows" : Str)]⟩, ⟨("Keeps" : Str), ("keeps" : Str), false, 538, [("family" : Str), ("lots" : Str), ("rows" : Str)], [("family" : Str), ("lots" : Str), ("rows" : Str)]⟩, ⟨("Forgets" : Str), ("forgets" : Str), true, 559, [("rows" : Str)], [("rows" : Str)]⟩, ⟨("Enough" : Str), ("enough" : Str), false, 580, [("least" : Str), ("greatest" : Str)], [("least" : Str), ("greatest" : Str)]⟩] ++
  [⟨("Fits" : Str), ("fits" : Str), false, 601, [("moment" : Str), ("states" : Str)], [("moment" : Str), ("states" : Str)]⟩, ⟨("Unfit" : Str), ("unfit" : Str), true, 622, [("lots" : Str)], [("lots" : Str)]⟩, ⟨("Known" : Str), ("known" : Str), false, 643, [("service" : Str), ("value" : Str)], [("service" : Str), ("value" : Str)]⟩, ⟨("Alike" : Str), ("alike" : Str), true, 664, [("service" : Str), ("one" : Str), ("other" : Str)], [("service" : Str), ("one" : Str), ("other" : Str)]⟩] ++
  [⟨("Sayable" : Str), ("sayable" : Str), false, 685, [("word" : Str)], [("said" : Str)]⟩, ⟨("Barred" : Str), ("barred" : Str), true, 706, [("word" : Str), ("run" : Str)], [("said" : Str), ("run" : Str)]⟩, ⟨("Seemly" : Str), ("seemly" : Str), false, 727, [("begin" : Str), ("order" : Str), ("moment" : Str), ("states" : Str)], [("begin" : Str), ("order" : Str), ("moment" : Str), ("states" : Str)]⟩, ⟨("Unseemly" : Str), ("unseemly" : Str), true, 748, [("rows" : Str)], [("rows" : Str)]⟩] ++
  [⟨("Order" : Str), ("order" : Str), false, 769, [("names" : Str), ("lots" : Str), ("rows" : Str)], [("names" : Str), ("lots" : Str), ("rows" : Str)]⟩, ⟨("Unordered" : Str), ("unordered" : Str), true, 790, [("names" : Str), ("replies" : Str), ("why" : Str)], [("names" : Str), ("replies" : Str), ("why" : Str)]⟩, ⟨("Matching" : Str), ("matching" : Str), false, 811, [("pairs" : Str)], [("pairs" : Str)]⟩, ⟨("Apart" : Str), ("apart" : Str), true, 832, [("begin" : Str), ("replies" : Str)], [("begin" : Str), ("replies" : Str)]⟩] ++
  [⟨("Shorter" : Str), ("shorter" : Str), false, 853, [("rows" : Str), ("restarts" : Str), ("numbers" : Str), ("apart" : Str)], [("rows" : Str), ("restarts" : Str), ("numbers" : Str), ("apart" : Str)]⟩, ⟨("Soonest" : Str), ("soonest" : Str), false, 874, [("steps" : Str), ("plan" : Str), ("delay" : Str)], [("steps" : Str), ("plan" : Str), ("delay" : Str)]⟩, ⟨("Delay" : Str), ("delay" : Str), true, 895, [("steps" : Str), ("lots" : Str), ("rows" : Str)], [("steps" : Str), ("lots" : Str), ("rows" : Str)]⟩, ⟨("Turning" : Str), ("turning" : Str), false, 916, [("rows" : Str)], [("rows" : Str)]⟩]
/-- the module's objects by name -/
def gloL : List (Str × Addr) := [(("is_integer" : Str), 21), (("RunError" : Str), 31), (("PartError" : Str), 53), (("BadWorld" : Str), 65), (("BadDeed" : Str), 77), (("BadOther" : Str), 89), (("BadPlan" : Str), 101), (("BadProgram" : Str), 113), (("BadRun" : Str), 125), (("BadLot" : Str), 137), (("BadNumber" : Str), 149), (("BadValue" : Str), 161), (("BadText" : Str), 182), (("BadCommand" : Str), 203), (("Nothing" : Str), 215), (("TooMany" : Str), 236), (("kept" : Str), 243), (("Paper" : Str), 274), (("Denial" : Str), 295), (("counts" : Str), 304)] ++
  [(("is_told_paper" : Str), 311), (("word_of" : Str), 316), (("words_of" : Str), 323), (("paper_text" : Str), 330), (("Right" : Str), 349), (("Wrong" : Str), 370), (("Round" : Str), 391), (("Beside" : Str), 412), (("Clash" : Str), 433), (("Plan" : Str), 454), (("Spoil" : Str), 475), (("Within" : Str), 496), (("Crowd" : Str), 517), (("Keeps" : Str), 538), (("Forgets" : Str), 559), (("Enough" : Str), 580), (("Fits" : Str), 601), (("Unfit" : Str), 622), (("Known" : Str), 643), (("Alike" : Str), 664)] ++
  [(("Sayable" : Str), 685), (("Barred" : Str), 706), (("Seemly" : Str), 727), (("Unseemly" : Str), 748), (("Order" : Str), 769), (("Unordered" : Str), 790), (("Matching" : Str), 811), (("Apart" : Str), 832), (("Shorter" : Str), 853), (("Soonest" : Str), 874), (("Delay" : Str), 895), (("Turning" : Str), 916), (("made_one" : Str), 925), (("made_two" : Str), 932), (("made_three" : Str), 939), (("made_paper" : Str), 946), (("is_written" : Str), 951), (("is_plain" : Str), 956), (("value_of" : Str), 963), (("Opened" : Str), 1001)] ++
  [(("word_at" : Str), 1012), (("opened_at" : Str), 1019), (("read_paper" : Str), 1026), (("_law_pen" : Str), 1031), (("_law_draw" : Str), 1038), (("_law_pick" : Str), 1045), (("_law_heard" : Str), 1050), (("_law_tx_counts" : Str), 1057), (("_law_tx_plain_words" : Str), 1062), (("_law_tx_is_leaf" : Str), 1067), (("_law_tx_paper_bad" : Str), 1074), (("_law_paper_one" : Str), 1081), (("_law_paper_of" : Str), 1088), (("_law_tx_thing" : Str), 1093), (("_law_tx_drawn_paper" : Str), 1098), (("_law_bent_words" : Str), 1105), (("law" : Str), 1112)]
def freeL : List Str := [("abs" : Str), ("all" : Str), ("bool" : Str), ("dict" : Str), ("int" : Str), ("isinstance" : Str), ("len" : Str), ("list" : Str), ("range" : Str), ("sorted" : Str), ("str" : Str), ("sum" : Str), ("super" : Str), ("tuple" : Str), ("type" : Str), ("ValueError" : Str)]
def strL : List (Str × Str) := [(("NOTHING" : Str), ("none" : Str)), (("OPEN" : Str), ("(" : Str)), (("CLOSE" : Str), (")" : Str)), (("MARK" : Str), ("=" : Str)), (("LETTERS" : Str), ("abcdefghijklmnopqrstuvwxyz" : Str))]
def clsL : List Addr := [274, 295, 349, 370, 391, 412, 433, 454, 475, 496, 517, 538, 559, 580, 601, 622, 643, 664, 685, 706, 727, 748, 769, 790, 811, 832, 853, 874, 895, 916, 1001]
/-- classes by the exceptions they make -/
def excL : List Addr := [31, 53, 65, 77, 89, 101, 113, 125, 137, 149, 161, 182, 203, 215, 236]
/-! ### functions -/
abbrev FnV : Type := Option (Str × Str × Arguments × FuncBody × Scope × Addr × List (Str × Addr) × Addr)
def fnV (K : PySem.W.Frag) (a : Addr) : FnV := match K.lookup a with
  | some ⟨_, _, .func fd, _⟩ => some (fd.name, fd.qualname, fd.params, fd.body, fd.scope, fd.globals, fd.closure, fd.builtins)
  | _ => none
def fdOf (K : PySem.W.Frag) (a : Addr) : FuncData := match K.lookup a with
  | some ⟨_, _, .func fd, _⟩ => fd
  | _ => default
/-- a def: where, its name, qualified name, text, code object; its class cell and class, if it has one -/
structure FnRow where
  at_ : Addr
  name : Str
  qual : Str
  st : Stmt
  code : Addr
  cell : Option (Addr × Addr) := none
def FnRow.val (r : FnRow) : FnV := some (r.name, r.qual, defArgs r.st, .stmts (defBody r.st), defScope r.st, mainGlobals, (match r.cell with
  | some (c, _) => [("__class__", c)]
  | none => []), builtinsNs)
def cellB (K : PySem.W.Frag) (c D : Addr) : Bool := match K.lookup c with
  | some ⟨_, _, .cell (some (.ref d)), _⟩ => decide (d = D)
  | _ => false
def codeFileB (K : PySem.W.Frag) (c : Addr) : Bool := match K.lookup c with
  | some ⟨_, _, .fields vs, _⟩ => (match (vs[2]? : Option Value) with
    | some (Value.str x _) => decide (x = "/claim/cut.py")
    | _ => false)
  | _ => false
def FnRow.ok (K : PySem.W.Frag) (r : FnRow) : Bool := match K.lookup r.at_ with
  | some ⟨_, _, .func fd, _⟩ => PySem.W.keepIn K (.ref r.at_) && (PySem.W.codeIn K (.ref r.code) r.qual && (decide (fd.code = .ref r.code) && (decide (fd.defaults = .none) && (match r.cell with
    | some (c, D) => cellB K c D && codeFileB K r.code
    | none => true))))
  | _ => false
def r_is_integer : FnRow := ⟨21, ("is_integer" : Str), ("is_integer" : Str), s_is_integer, 20, none⟩
def r_kept : FnRow := ⟨243, ("kept" : Str), ("kept" : Str), s_kept, 242, none⟩
def r_Paper_init : FnRow := ⟨257, ("__init__" : Str), ("Paper.__init__" : Str), s_Paper_init, 256, none⟩
def r_Paper_eq : FnRow := ⟨264, ("__eq__" : Str), ("Paper.__eq__" : Str), s_Paper_eq, 263, none⟩
def r_Paper_bool : FnRow := ⟨271, ("__bool__" : Str), ("Paper.__bool__" : Str), s_Paper_bool, 270, none⟩
def r_Denial_bool : FnRow := ⟨292, ("__bool__" : Str), ("Denial.__bool__" : Str), s_Denial_bool, 291, none⟩
def r_counts : FnRow := ⟨304, ("counts" : Str), ("counts" : Str), s_counts, 303, none⟩
def r_is_told_paper : FnRow := ⟨311, ("is_told_paper" : Str), ("is_told_paper" : Str), s_is_told_paper, 310, none⟩
def r_word_of : FnRow := ⟨316, ("word_of" : Str), ("word_of" : Str), s_word_of, 315, none⟩
def r_words_of : FnRow := ⟨323, ("words_of" : Str), ("words_of" : Str), s_words_of, 322, none⟩
def r_paper_text : FnRow := ⟨330, ("paper_text" : Str), ("paper_text" : Str), s_paper_text, 329, none⟩
def r_made_one : FnRow := ⟨925, ("made_one" : Str), ("made_one" : Str), s_made_one, 924, none⟩
def r_made_two : FnRow := ⟨932, ("made_two" : Str), ("made_two" : Str), s_made_two, 931, none⟩
def r_made_three : FnRow := ⟨939, ("made_three" : Str), ("made_three" : Str), s_made_three, 938, none⟩
def r_made_paper : FnRow := ⟨946, ("made_paper" : Str), ("made_paper" : Str), s_made_paper, 945, none⟩
def r_is_written : FnRow := ⟨951, ("is_written" : Str), ("is_written" : Str), s_is_written, 950, none⟩
def r_is_plain : FnRow := ⟨956, ("is_plain" : Str), ("is_plain" : Str), s_is_plain, 955, none⟩
def r_value_of : FnRow := ⟨963, ("value_of" : Str), ("value_of" : Str), s_value_of, 962, none⟩
def r_Opened_init : FnRow := ⟨977, ("__init__" : Str), ("Opened.__init__" : Str), s_Opened_init, 976, none⟩
def r_Opened_has_room : FnRow := ⟨984, ("has_room" : Str), ("Opened.has_room" : Str), s_Opened_has_room, 983, none⟩
def r_Opened_is_whole : FnRow := ⟨991, ("is_whole" : Str), ("Opened.is_whole" : Str), s_Opened_is_whole, 990, none⟩
def r_Opened_told : FnRow := ⟨998, ("told" : Str), ("Opened.told" : Str), s_Opened_told, 997, none⟩
def r_word_at : FnRow := ⟨1012, ("word_at" : Str), ("word_at" : Str), s_word_at, 1011, none⟩
def r_opened_at : FnRow := ⟨1019, ("opened_at" : Str), ("opened_at" : Str), s_opened_at, 1018, none⟩
def r_read_paper : FnRow := ⟨1026, ("read_paper" : Str), ("read_paper" : Str), s_read_paper, 1025, none⟩
def r_l_pen : FnRow := ⟨1031, ("_law_pen" : Str), ("_law_pen" : Str), s_l_pen, 1030, none⟩
def r_l_draw : FnRow := ⟨1038, ("_law_draw" : Str), ("_law_draw" : Str), s_l_draw, 1037, none⟩
def r_l_pick : FnRow := ⟨1045, ("_law_pick" : Str), ("_law_pick" : Str), s_l_pick, 1044, none⟩
def r_l_heard : FnRow := ⟨1050, ("_law_heard" : Str), ("_law_heard" : Str), s_l_heard, 1049, none⟩
def r_lx_counts : FnRow := ⟨1057, ("_law_tx_counts" : Str), ("_law_tx_counts" : Str), s_lx_counts, 1056, none⟩
def r_lx_plain_words : FnRow := ⟨1062, ("_law_tx_plain_words" : Str), ("_law_tx_plain_words" : Str), s_lx_plain_words, 1061, none⟩
def r_lx_is_leaf : FnRow := ⟨1067, ("_law_tx_is_leaf" : Str), ("_law_tx_is_leaf" : Str), s_lx_is_leaf, 1066, none⟩
def r_lx_paper_bad : FnRow := ⟨1074, ("_law_tx_paper_bad" : Str), ("_law_tx_paper_bad" : Str), s_lx_paper_bad, 1073, none⟩
def r_l_paper_one : FnRow := ⟨1081, ("_law_paper_one" : Str), ("_law_paper_one" : Str), s_l_paper_one, 1080, none⟩
def r_l_paper_of : FnRow := ⟨1088, ("_law_paper_of" : Str), ("_law_paper_of" : Str), s_l_paper_of, 1087, none⟩
def r_lx_thing : FnRow := ⟨1093, ("_law_tx_thing" : Str), ("_law_tx_thing" : Str), s_lx_thing, 1092, none⟩
def r_lx_drawn_paper : FnRow := ⟨1098, ("_law_tx_drawn_paper" : Str), ("_law_tx_drawn_paper" : Str), s_lx_drawn_paper, 1097, none⟩
def r_l_bent_words : FnRow := ⟨1105, ("_law_bent_words" : Str), ("_law_bent_words" : Str), s_l_bent_words, 1104, none⟩
def r_law : FnRow := ⟨1112, ("law" : Str), ("law" : Str), s_law, 1111, none⟩
def r_PartError_init : FnRow := ⟨50, ("__init__" : Str), ("PartError.__init__" : Str), s_PartError_init, 49, some (38, 53)⟩
def r_BadText_init : FnRow := ⟨179, ("__init__" : Str), ("BadText.__init__" : Str), s_BadText_init, 178, some (167, 182)⟩
def r_BadCommand_init : FnRow := ⟨200, ("__init__" : Str), ("BadCommand.__init__" : Str), s_BadCommand_init, 199, some (188, 203)⟩
def r_TooMany_init : FnRow := ⟨233, ("__init__" : Str), ("TooMany.__init__" : Str), s_TooMany_init, 232, some (221, 236)⟩
def r_Right_init : FnRow := ⟨346, ("__init__" : Str), ("Right.__init__" : Str), s_Right_init, 345, some (334, 349)⟩
def r_Wrong_init : FnRow := ⟨367, ("__init__" : Str), ("Wrong.__init__" : Str), s_Wrong_init, 366, some (355, 370)⟩
def r_Round_init : FnRow := ⟨388, ("__init__" : Str), ("Round.__init__" : Str), s_Round_init, 387, some (376, 391)⟩
def r_Beside_init : FnRow := ⟨409, ("__init__" : Str), ("Beside.__init__" : Str), s_Beside_init, 408, some (397, 412)⟩
def r_Clash_init : FnRow := ⟨430, ("__init__" : Str), ("Clash.__init__" : Str), s_Clash_init, 429, some (418, 433)⟩
def r_Plan_init : FnRow := ⟨451, ("__init__" : Str), ("Plan.__init__" : Str), s_Plan_init, 450, some (439, 454)⟩
def r_Spoil_init : FnRow := ⟨472, ("__init__" : Str), ("Spoil.__init__" : Str), s_Spoil_init, 471, some (460, 475)⟩
def r_Within_init : FnRow := ⟨493, ("__init__" : Str), ("Within.__init__" : Str), s_Within_init, 492, some (481, 496)⟩
def r_Crowd_init : FnRow := ⟨514, ("__init__" : Str), ("Crowd.__init__" : Str), s_Crowd_init, 513, some (502, 517)⟩
def r_Keeps_init : FnRow := ⟨535, ("__init__" : Str), ("Keeps.__init__" : Str), s_Keeps_init, 534, some (523, 538)⟩
def r_Forgets_init : FnRow := ⟨556, ("__init__" : Str), ("Forgets.__init__" : Str), s_Forgets_init, 555, some (544, 559)⟩
def r_Enough_init : FnRow := ⟨577, ("__init__" : Str), ("Enough.__init__" : Str), s_Enough_init, 576, some (565, 580)⟩
def r_Fits_init : FnRow := ⟨598, ("__init__" : Str), ("Fits.__init__" : Str), s_Fits_init, 597, some (586, 601)⟩
def r_Unfit_init : FnRow := ⟨619, ("__init__" : Str), ("Unfit.__init__" : Str), s_Unfit_init, 618, some (607, 622)⟩
def r_Known_init : FnRow := ⟨640, ("__init__" : Str), ("Known.__init__" : Str), s_Known_init, 639, some (628, 643)⟩
def r_Alike_init : FnRow := ⟨661, ("__init__" : Str), ("Alike.__init__" : Str), s_Alike_init, 660, some (649, 664)⟩
def r_Sayable_init : FnRow := ⟨682, ("__init__" : Str), ("Sayable.__init__" : Str), s_Sayable_init, 681, some (670, 685)⟩
def r_Barred_init : FnRow := ⟨703, ("__init__" : Str), ("Barred.__init__" : Str), s_Barred_init, 702, some (691, 706)⟩
def r_Seemly_init : FnRow := ⟨724, ("__init__" : Str), ("Seemly.__init__" : Str), s_Seemly_init, 723, some (712, 727)⟩
def r_Unseemly_init : FnRow := ⟨745, ("__init__" : Str), ("Unseemly.__init__" : Str), s_Unseemly_init, 744, some (733, 748)⟩
def r_Order_init : FnRow := ⟨766, ("__init__" : Str), ("Order.__init__" : Str), s_Order_init, 765, some (754, 769)⟩
def r_Unordered_init : FnRow := ⟨787, ("__init__" : Str), ("Unordered.__init__" : Str), s_Unordered_init, 786, some (775, 790)⟩
def r_Matching_init : FnRow := ⟨808, ("__init__" : Str), ("Matching.__init__" : Str), s_Matching_init, 807, some (796, 811)⟩
def r_Apart_init : FnRow := ⟨829, ("__init__" : Str), ("Apart.__init__" : Str), s_Apart_init, 828, some (817, 832)⟩
def r_Shorter_init : FnRow := ⟨850, ("__init__" : Str), ("Shorter.__init__" : Str), s_Shorter_init, 849, some (838, 853)⟩
def r_Soonest_init : FnRow := ⟨871, ("__init__" : Str), ("Soonest.__init__" : Str), s_Soonest_init, 870, some (859, 874)⟩
def r_Delay_init : FnRow := ⟨892, ("__init__" : Str), ("Delay.__init__" : Str), s_Delay_init, 891, some (880, 895)⟩
def r_Turning_init : FnRow := ⟨913, ("__init__" : Str), ("Turning.__init__" : Str), s_Turning_init, 912, some (901, 916)⟩
def fnRows : List FnRow := [r_is_integer, r_kept, r_Paper_init, r_Paper_eq, r_Paper_bool, r_Denial_bool, r_counts, r_is_told_paper, r_word_of, r_words_of] ++
  [r_paper_text, r_made_one, r_made_two, r_made_three, r_made_paper, r_is_written, r_is_plain, r_value_of, r_Opened_init, r_Opened_has_room] ++
  [r_Opened_is_whole, r_Opened_told, r_word_at, r_opened_at, r_read_paper, r_l_pen, r_l_draw, r_l_pick, r_l_heard, r_lx_counts] ++
  [r_lx_plain_words, r_lx_is_leaf, r_lx_paper_bad, r_l_paper_one, r_l_paper_of, r_lx_thing, r_lx_drawn_paper, r_l_bent_words, r_law, r_PartError_init] ++
  [r_BadText_init, r_BadCommand_init, r_TooMany_init, r_Right_init, r_Wrong_init, r_Round_init, r_Beside_init, r_Clash_init, r_Plan_init, r_Spoil_init] ++
  [r_Within_init, r_Crowd_init, r_Keeps_init, r_Forgets_init, r_Enough_init, r_Fits_init, r_Unfit_init, r_Known_init, r_Alike_init, r_Sayable_init] ++
  [r_Barred_init, r_Seemly_init, r_Unseemly_init, r_Order_init, r_Unordered_init, r_Matching_init, r_Apart_init, r_Shorter_init, r_Soonest_init, r_Delay_init] ++
  [r_Turning_init]
theorem m_is_integer : r_is_integer ∈ fnRows := List.mem_of_getElem? (i := 0) rfl
theorem m_kept : r_kept ∈ fnRows := List.mem_of_getElem? (i := 1) rfl
theorem m_Paper_init : r_Paper_init ∈ fnRows := List.mem_of_getElem? (i := 2) rfl
theorem m_Paper_eq : r_Paper_eq ∈ fnRows := List.mem_of_getElem? (i := 3) rfl
theorem m_Paper_bool : r_Paper_bool ∈ fnRows := List.mem_of_getElem? (i := 4) rfl
theorem m_Denial_bool : r_Denial_bool ∈ fnRows := List.mem_of_getElem? (i := 5) rfl
theorem m_counts : r_counts ∈ fnRows := List.mem_of_getElem? (i := 6) rfl
theorem m_is_told_paper : r_is_told_paper ∈ fnRows := List.mem_of_getElem? (i := 7) rfl
theorem m_word_of : r_word_of ∈ fnRows := List.mem_of_getElem? (i := 8) rfl
theorem m_words_of : r_words_of ∈ fnRows := List.mem_of_getElem? (i := 9) rfl
theorem m_paper_text : r_paper_text ∈ fnRows := List.mem_of_getElem? (i := 10) rfl
theorem m_made_one : r_made_one ∈ fnRows := List.mem_of_getElem? (i := 11) rfl
theorem m_made_two : r_made_two ∈ fnRows := List.mem_of_getElem? (i := 12) rfl
theorem m_made_three : r_made_three ∈ fnRows := List.mem_of_getElem? (i := 13) rfl
theorem m_made_paper : r_made_paper ∈ fnRows := List.mem_of_getElem? (i := 14) rfl
theorem m_is_written : r_is_written ∈ fnRows := List.mem_of_getElem? (i := 15) rfl
theorem m_is_plain : r_is_plain ∈ fnRows := List.mem_of_getElem? (i := 16) rfl
theorem m_value_of : r_value_of ∈ fnRows := List.mem_of_getElem? (i := 17) rfl
theorem m_Opened_init : r_Opened_init ∈ fnRows := List.mem_of_getElem? (i := 18) rfl
theorem m_Opened_has_room : r_Opened_has_room ∈ fnRows := List.mem_of_getElem? (i := 19) rfl
theorem m_Opened_is_whole : r_Opened_is_whole ∈ fnRows := List.mem_of_getElem? (i := 20) rfl
theorem m_Opened_told : r_Opened_told ∈ fnRows := List.mem_of_getElem? (i := 21) rfl
theorem m_word_at : r_word_at ∈ fnRows := List.mem_of_getElem? (i := 22) rfl
theorem m_opened_at : r_opened_at ∈ fnRows := List.mem_of_getElem? (i := 23) rfl
theorem m_read_paper : r_read_paper ∈ fnRows := List.mem_of_getElem? (i := 24) rfl
theorem m_l_pen : r_l_pen ∈ fnRows := List.mem_of_getElem? (i := 25) rfl
theorem m_l_draw : r_l_draw ∈ fnRows := List.mem_of_getElem? (i := 26) rfl
theorem m_l_pick : r_l_pick ∈ fnRows := List.mem_of_getElem? (i := 27) rfl
theorem m_l_heard : r_l_heard ∈ fnRows := List.mem_of_getElem? (i := 28) rfl
theorem m_lx_counts : r_lx_counts ∈ fnRows := List.mem_of_getElem? (i := 29) rfl
theorem m_lx_plain_words : r_lx_plain_words ∈ fnRows := List.mem_of_getElem? (i := 30) rfl
theorem m_lx_is_leaf : r_lx_is_leaf ∈ fnRows := List.mem_of_getElem? (i := 31) rfl
theorem m_lx_paper_bad : r_lx_paper_bad ∈ fnRows := List.mem_of_getElem? (i := 32) rfl
theorem m_l_paper_one : r_l_paper_one ∈ fnRows := List.mem_of_getElem? (i := 33) rfl
theorem m_l_paper_of : r_l_paper_of ∈ fnRows := List.mem_of_getElem? (i := 34) rfl
theorem m_lx_thing : r_lx_thing ∈ fnRows := List.mem_of_getElem? (i := 35) rfl
theorem m_lx_drawn_paper : r_lx_drawn_paper ∈ fnRows := List.mem_of_getElem? (i := 36) rfl
theorem m_l_bent_words : r_l_bent_words ∈ fnRows := List.mem_of_getElem? (i := 37) rfl
theorem m_law : r_law ∈ fnRows := List.mem_of_getElem? (i := 38) rfl
theorem m_PartError_init : r_PartError_init ∈ fnRows := List.mem_of_getElem? (i := 39) rfl
theorem m_BadText_init : r_BadText_init ∈ fnRows := List.mem_of_getElem? (i := 40) rfl
theorem m_BadCommand_init : r_BadCommand_init ∈ fnRows := List.mem_of_getElem? (i := 41) rfl
theorem m_TooMany_init : r_TooMany_init ∈ fnRows := List.mem_of_getElem? (i := 42) rfl
theorem m_Right_init : r_Right_init ∈ fnRows := List.mem_of_getElem? (i := 43) rfl
theorem m_Wrong_init : r_Wrong_init ∈ fnRows := List.mem_of_getElem? (i := 44) rfl
theorem m_Round_init : r_Round_init ∈ fnRows := List.mem_of_getElem? (i := 45) rfl
theorem m_Beside_init : r_Beside_init ∈ fnRows := List.mem_of_getElem? (i := 46) rfl
theorem m_Clash_init : r_Clash_init ∈ fnRows := List.mem_of_getElem? (i := 47) rfl
theorem m_Plan_init : r_Plan_init ∈ fnRows := List.mem_of_getElem? (i := 48) rfl
theorem m_Spoil_init : r_Spoil_init ∈ fnRows := List.mem_of_getElem? (i := 49) rfl
theorem m_Within_init : r_Within_init ∈ fnRows := List.mem_of_getElem? (i := 50) rfl
theorem m_Crowd_init : r_Crowd_init ∈ fnRows := List.mem_of_getElem? (i := 51) rfl
theorem m_Keeps_init : r_Keeps_init ∈ fnRows := List.mem_of_getElem? (i := 52) rfl
theorem m_Forgets_init : r_Forgets_init ∈ fnRows := List.mem_of_getElem? (i := 53) rfl
theorem m_Enough_init : r_Enough_init ∈ fnRows := List.mem_of_getElem? (i := 54) rfl
theorem m_Fits_init : r_Fits_init ∈ fnRows := List.mem_of_getElem? (i := 55) rfl
theorem m_Unfit_init : r_Unfit_init ∈ fnRows := List.mem_of_getElem? (i := 56) rfl
theorem m_Known_init : r_Known_init ∈ fnRows := List.mem_of_getElem? (i := 57) rfl
theorem m_Alike_init : r_Alike_init ∈ fnRows := List.mem_of_getElem? (i := 58) rfl
theorem m_Sayable_init : r_Sayable_init ∈ fnRows := List.mem_of_getElem? (i := 59) rfl
theorem m_Barred_init : r_Barred_init ∈ fnRows := List.mem_of_getElem? (i := 60) rfl
theorem m_Seemly_init : r_Seemly_init ∈ fnRows := List.mem_of_getElem? (i := 61) rfl
theorem m_Unseemly_init : r_Unseemly_init ∈ fnRows := List.mem_of_getElem? (i := 62) rfl
theorem m_Order_init : r_Order_init ∈ fnRows := List.mem_of_getElem? (i := 63) rfl
theorem m_Unordered_init : r_Unordered_init ∈ fnRows := List.mem_of_getElem? (i := 64) rfl
theorem m_Matching_init : r_Matching_init ∈ fnRows := List.mem_of_getElem? (i := 65) rfl
theorem m_Apart_init : r_Apart_init ∈ fnRows := List.mem_of_getElem? (i := 66) rfl
theorem m_Shorter_init : r_Shorter_init ∈ fnRows := List.mem_of_getElem? (i := 67) rfl
theorem m_Soonest_init : r_Soonest_init ∈ fnRows := List.mem_of_getElem? (i := 68) rfl
theorem m_Delay_init : r_Delay_init ∈ fnRows := List.mem_of_getElem? (i := 69) rfl
theorem m_Turning_init : r_Turning_init ∈ fnRows := List.mem_of_getElem? (i := 70) rfl
end K91
set_option Elab.async false
set_option linter.all false
set_option maxRecDepth 100000
set_option maxHeartbeats 2000000
/-! K91, F: the facts of the written part, as one Bool; what they say. -/
namespace K91
open PySem PySem.Spec PyProof.Rows L2
theorem ba {a b : Bool} (h : (a && b) = true) : a = true ∧ b = true := Bool.and_eq_true_iff.mp h
def eqO (a b : Option (Option Value)) : Bool := decide (a = b)
theorem eqO_ok {a b : Option (Option Value)} (h : eqO a b = true) : a = b := of_decide_eq_true h
def eqB (a b : Option Bool) : Bool := decide (a = b)
theorem eqB_ok {a b : Option Bool} (h : eqB a b = true) : a = b := of_decide_eq_true h
section
variable (K : PySem.W.Frag)
/-! ### one class -/
def clsB (C : Addr) : Bool := PySem.W.plainGet K C Str.empty && (PySem.W.hasDictIn K C && (PySem.W.plainOver K C && eqO (PySem.W.findIn K (.ref C) "__setattr__") (some (some (.builtin "object.__setattr__")))))
def tyB (C : Addr) : Bool := eqO (PySem.W.findIn K (.ref C) "__class__") (some (some (.builtin "object.__class__"))) && eqB (PySem.W.mroIn K C (.type "object")) (some true)
/-- isinstance of an instance of C -/
def isiL : List (String × Bool) := [("list", false), ("tuple", false), ("int", false), ("bool", false), ("str", false), ("dict", false)]
def isiB (C : Addr) : Bool := isiL.all fun q => eqB (PySem.W.kitOne K (.ref C) (.type q.1)) (some q.2)
def noatB (C : Addr) (f : Str) : Bool := eqO (PySem.W.findIn K (.ref C) f) (some none)
def methB (C : Addr) (m : Str) (f : Addr) : Bool := eqO (PySem.W.findIn K (.ref C) m) (some (some (.ref f))) && (PySem.W.isFn K (.ref f) && PySem.W.keepIn K (.ref f))
def mkB (C f : Addr) : Bool := PySem.W.makesIn K C && (eqO (PySem.W.findIn K (.ref C) "__init__") (some (some (.ref f))) && (PySem.W.isFn K (.ref f) && PySem.W.keepIn K (.ref C)))
/-- the name of a class, as it is kept -/
def nameB (C : Addr) (x : Str) : Bool := match K.lookup C with
  | some ⟨.type "type", _, .cls _, sl⟩ => (match (sl[2]? : Option (Option Value)) with
    | some (some (Value.str y _)) => decide (y = x)
    | _ => false)
  | _ => false
/-- super().__init__ from D's def, of an instance of C -/
def supB (C D f2 : Addr) : Bool := eqB (PySem.W.mroIn K C (.ref D)) (some true) && (eqO (PySem.W.ks_superIn K C D "__init__") (some (some (.ref f2))) && ((PySem.W.clsIn K D).isSome && (decide (PySem.W.typeIn K (.ref f2) = some (.type "function")) && PySem.W.fnIn K f2)))
def boolAt (den : Bool) : Addr := if den then 292 else 271
/-- a class of papers at C, of the name x -/
def papB (C : Addr) (x : Str) (den : Bool) (attrs : List Str) : Bool := clsB K C && (tyB K C && (isiB K C && (eqB (PySem.W.kitOne K (.ref C) (.ref 274)) (some true) && (nameB K C x && ((("word" : Str) :: "parts" :: attrs).all (noatB K C) && (methB K C "__eq__" 264 && methB K C "__bool__" (boolAt den)))))))
def pcB (c : PC) : Bool := papB K c.at_ c.cls c.den c.attrs && (mkB K c.at_ (c.at_ - 3) && supB K c.at_ c.at_ 257)
def opB : Bool := clsB K 1001 && (tyB K 1001 && (isiB K 1001 && (noatB K 1001 "word" && (noatB K 1001 "some" && (mkB K 1001 977 && (methB K 1001 "has_room" 984 && (methB K 1001 "is_whole" 991 && (methB K 1001 "told" 998 && eqB (PySem.W.kitOne K (.ref 1001) (.ref 274)) (some false)))))))))
def staB : Bool := eqO (PySem.W.nsIn K cStatics "thirdparty.any") (some none) && (eqO (PySem.W.specialIn K (.builtin "object.__class__") "__get__") (some (some (.builtin "getset_descriptor.__get__"))) && eqB (PySem.W.takesIn K (.builtin "object.__class__")) (some true))
/-- isinstance of builtin values against the class of papers -/
def kiB : Bool := (["NoneType", "bool", "int", "str", "tuple", "list", "dict"] : List String).all fun t => eqB (PySem.W.kitOne K (.type t) (.ref 274)) (some false)
/-- the classes of errors -/
def veBase : List Value := [.type "ValueError", .type "Exception", .type "BaseException", .type "object"]
def excB (C : Addr) : Bool := PySem.W.keepIn K (.ref C) && (decide (PySem.W.subIn K (.ref C) (.type "BaseException") = some true) && decide (PySem.W.typeIn K (.ref C) = some (.type "type")))
def strB (q : Str × Str) : Bool := match PySem.W.nsIn K mainGlobals q.1 with
  | some (some (.str y _)) => decide (y = q.2)
  | _ => false
def intB (x : Str) (i : Int) : Bool := match PySem.W.nsIn K mainGlobals x with
  | some (some (.int y _)) => decide (y = i)
  | _ => false
/-- an own class of errors over ValueError, at C; its __init__ at f, a def of the class at D -/
def xcs : List Addr := [236, 215, 182, 203, 65, 77, 89, 101, 113, 125, 137, 149, 161]
def xcB (C D f : Addr) (fs : List Str) : Bool := PySem.W.excInitIn K C veBase "ValueError.__new__" && (PySem.W.hasDictIn K C && (eqO (PySem.W.findIn K (.ref C) "__setattr__") (some (some (.builtin "object.__setattr__"))) && (decide (PySem.W.subIn K (.ref C) (.type "BaseException") = some true) &&
  (decide (PySem.W.typeIn K (.ref C) = some (.type "type")) && (PySem.W.keepIn K (.ref C) && (eqO (PySem.W.findIn K (.ref C) "__init__") (some (some (.ref f))) && (decide (PySem.W.typeIn K (.ref f) = some (.type "function")) &&
  (eqB (PySem.W.mroIn K C (.ref D)) (some true) && (eqO (PySem.W.ks_superIn K C D "__init__") (some (some (.builtin "ValueError.__init__"))) && ((PySem.W.clsIn K D).isSome && (eqB (PySem.W.mroIn K C (.type "ValueError")) (some true) &&
  (fs.all (noatB K C) && (eqO (PySem.W.findIn K (.ref C) "__getattribute__") (some (some (.builtin "BaseException.__getattribute__"))) && (eqO (PySem.W.findIn K (.ref C) "__getattr__") (some none) &&
  (eqO (PySem.W.findIn K (.ref C) "__class__") (some (some (.builtin "object.__class__"))) && (eqB (PySem.W.mroIn K C (.type "object")) (some true) && (eqB (PySem.W.exmOne K (.ref C) (.ref 31)) (some true) &&
  xcs.all (fun a => eqB (PySem.W.kitOne K (.ref C) (.ref a)) (some (decide (a = C)))))))))))))))))))))
/-- != of papers is object's own -/
def neB : Bool := (274 :: 295 :: pcs.map (·.at_)).all fun C => eqO (PySem.W.findIn K (.ref C) "__ne__") (some (some (.builtin "object.__ne__")))
def exB : Bool := xcB K 161 53 50 ["part"] && (xcB K 182 182 179 ["line", "word"] && neB K)
def allB : Bool := (gloL.all fun q => eqO (PySem.W.nsIn K mainGlobals q.1) (some (some (.ref q.2)))) && ((freeL.all fun x => eqO (PySem.W.nsIn K mainGlobals x) (some none)) && (strL.all (strB K) && (intB K "MOST_FIGURES" 40 &&
  (fnRows.all (fun r => r.ok K) && (pcs.all (pcB K) && (papB K 274 "Paper" false [] && (mkB K 274 257 && (papB K 295 "Denial" true [] && (mkB K 295 257 && (opB K && (staB K && (kiB K && excL.all (excB K)))))))))))))
end
/-! ### what is known behind the top -/
structure Ctx (K : PySem.W.Frag) (mg : Str → Option Value) : Prop where
  fx : allB K = true
  fn : fnRows.map (fun r => fnV K r.at_) = fnRows.map FnRow.val
  ns : ∀ (x : Str) (r : Option Value), PySem.W.nsIn K mainGlobals x = some r → mg x = r
  xb : exB K = true
section
variable {K : PySem.W.Frag} {mg : Str → Option Value}
namespace Ctx
variable (T : Ctx K mg)
include T
theorem a1 : ∀ q ∈ gloL, eqO (PySem.W.nsIn K mainGlobals q.1) (some (some (.ref q.2))) = true := List.all_eq_true.mp (ba T.fx).1
theorem a2 : ∀ x ∈ freeL, eqO (PySem.W.nsIn K mainGlobals x) (some none) = true := List.all_eq_true.mp (ba (ba T.fx).2).1
theorem a3 : ∀ q ∈ strL, strB K q = true := List.all_eq_true.mp (ba (ba (ba T.fx).2).2).1
theorem a4 : intB K "MOST_FIGURES" 40 = true := (ba (ba (ba (ba T.fx).2).2).2).1
theorem a5 : ∀ r ∈ fnRows, r.ok K = true := List.all_eq_true.mp (ba (ba (ba (ba (ba T.fx).2).2).2).2).1
theorem r5 : (pcs.all (pcB K) && (papB K 274 "Paper" false [] && (mkB K 274 257 && (papB K 295 "Denial" true [] && (mkB K 295 257 && (opB K && (staB K && (kiB K && excL.all (excB K))))))))) = true := (ba (ba (ba (ba (ba T.fx).2).2).2).2).2
theorem a6 : ∀ c ∈ pcs, pcB K c = true := List.all_eq_true.mp (ba T.r5).1
theorem a7 : papB K 274 "Paper" false [] = true := (ba (ba T.r5).2).1
theorem a8 : mkB K 274 257 = true := (ba (ba (ba T.r5).2).2).1
theorem a9 : papB K 295 "Denial" true [] = true := (ba (ba (ba (ba T.r5).2).2).2).1
theorem a10 : mkB K 295 257 = true := (ba (ba (ba (ba (ba T.r5).2).2).2).2).1
theorem r10 : (opB K && (staB K && (kiB K && excL.all (excB K)))) = true := (ba (ba (ba (ba (ba T.r5).2).2).2).2).2
theorem a11 : opB K = true := (ba T.r10).1
theorem a12 : staB K = true := (ba (ba T.r10).2).1
theorem a13 : kiB K = true := (ba (ba (ba T.r10).2).2).1
theorem a14 : ∀ C ∈ excL, excB K C = true := List.all_eq_true.mp (ba (ba (ba T.r10).2).2).2
theorem glo {x : Str} {a : Addr} (h : (x, a) ∈ gloL := by decide +kernel) : mg x = some (.ref a) := T.ns x _ (eqO_ok (T.a1 (x, a) h))
theorem free {x : Str} (h : x ∈ freeL := by decide +kernel) : mg x = none := T.ns x _ (eqO_ok (T.a2 x h))
theorem str {x z : Str} (h : (x, z) ∈ strL := by decide +kernel) : ∃ t, mg x = some (.str z t) := by
  have c := T.a3 (x, z) h
  unfold strB at c
  cases e : PySem.W.nsIn K mainGlobals x with
  | none => rw [e] at c; cases c
  | some o =>
    rw [e] at c
    cases o with
    | none => cases c
    | some v =>
      cases v with
      | str y t =>
        have ez : y = z := of_decide_eq_true c
        subst ez
        exact ⟨t, T.ns x _ e⟩
      | _ => cases c
theorem figs40 : ∃ t, mg "MOST_FIGURES" = some (.int 40 t) := by
  have c := T.a4
  unfold intB at c
  cases e : PySem.W.nsIn K mainGlobals "MOST_FIGURES" with
  | none => rw [e] at c; cases c
  | some o =>
    rw [e] at c
    cases o with
    | none => cases c
    | some v =>
      cases v with
      | int y t =>
        have ez : y = 40 := of_decide_eq_true c
        subst ez
        exact ⟨t, T.ns _ _ e⟩
      | _ => cases c
end Ctx
/-! ### functions -/
theorem fn_data {r : FnRow} (e : fnV K r.at_ = r.val) (c : r.ok K = true) : ∃ oc od kV doc pm an ct osl, K.lookup r.at_ = some ⟨oc, od, .func (fdOf K r.at_), osl⟩ ∧ PySem.W.keepIn K (.ref r.at_) = true ∧ PySem.W.codeIn K (.ref r.code) r.qual = true ∧
    (match r.cell with
    | some (cc, D) => cellB K cc D = true ∧ codeFileB K r.code = true ∧ fdOf K r.at_ = PySem.W.ksFn r.name r.qual (defArgs r.st) (defBody r.st) (defScope r.st) .none kV doc pm an (.ref r.code) ct cc
    | none => fdOf K r.at_ = PySem.W.fnOf r.name r.qual (defArgs r.st) (defBody r.st) (defScope r.st) .none kV doc pm an (.ref r.code) ct) := by
  unfold FnRow.ok at c
  unfold fnV at e
  unfold fdOf
  cases q : K.lookup r.at_ with
  | none => rw [q] at c; cases c
  | some o =>
    obtain ⟨oc, od, dt, osl⟩ := o
    rw [q] at c e
    cases dt with
    | func fd =>
      obtain ⟨n1, n2, n3, n4, n5, n6, n7, n8, n9, n10, n11, n12, n13, n14, n15⟩ := fd
      obtain ⟨c1, c⟩ := ba c
      obtain ⟨c2, c⟩ := ba c
      obtain ⟨c3, c⟩ := ba c
      obtain ⟨c4, c⟩ := ba c
      have e13 : n13 = .ref r.code := of_decide_eq_true c3
      have e8 : n8 = .none := of_decide_eq_true c4
      unfold FnRow.val at e
      have e2 : (some (n1, n2, n3, n4, n5, n6, n7, n15) : FnV) = some (r.name, r.qual, defArgs r.st, .stmts (defBody r.st), defScope r.st, mainGlobals, _, builtinsNs) := e
      simp only [Option.some.injEq, Prod.mk.injEq] at e2
      obtain ⟨h1, h2, h3, h4, h5, h6, h7, h8⟩ := e2
      refine ⟨oc, od, n9, n10, n11, n12, n14, osl, rfl, c1, c2, ?_⟩
      cases hc : r.cell with
      | none =>
        rw [hc] at h7
        show FuncData.mk n1 n2 n3 n4 n5 n6 n7 n8 n9 n10 n11 n12 n13 n14 n15 = _
        subst h1 h2 h3 h4 h5 h6 h7 h8 e13 e8
        rfl
      | some p =>
        obtain ⟨cc, D⟩ := p
        rw [hc] at h7 c
        obtain ⟨d1, d2⟩ := ba c
        refine ⟨d1, d2, ?_⟩
        show FuncData.mk n1 n2 n3 n4 n5 n6 n7 n8 n9 n10 n11 n12 n13 n14 n15 = _
        subst h1 h2 h3 h4 h5 h6 h7 h8 e13 e8
        rfl
    | _ => cases c
namespace Ctx
variable (T : Ctx K mg)
include T
theorem fnv {r : FnRow} (h : r ∈ fnRows) : fnV K r.at_ = r.val := by
  obtain ⟨i, hi, e⟩ := List.mem_iff_getElem.mp h
  have z : (fnRows.map fun r => fnV K r.at_)[i]? = (fnRows.map FnRow.val)[i]? := by rw [T.fn]
  rw [List.getElem?_map, List.getElem?_map, List.getElem?_eq_getElem hi, e] at z
  exact Option.some.inj z
/-- a def of the text -/
theorem fun_ (r : FnRow) (h : r ∈ fnRows) (hc : r.cell = none := by rfl) : L2.Fun K r.name r.qual r.st r.at_ (fdOf K r.at_) := by
  obtain ⟨oc, od, kV, doc, pm, an, ct, osl, k1, k2, k3, k4⟩ := fn_data (T.fnv h) (T.a5 r h)
  rw [hc] at k4
  exact ⟨⟨oc, od, kV, doc, pm, an, .ref r.code, ct, osl, k4, k1, k3⟩, k2⟩
/-- .. over a class cell -/
theorem funS (r : FnRow) (h : r ∈ fnRows) {cc D : Addr} (hc : r.cell = some (cc, D)) : FnS K r.at_ cc D r.name r.qual (defArgs r.st) (defBody r.st) (defScope r.st) (fdOf K r.at_) r.code ∧ PySem.W.keepIn K (.ref r.at_) = true := by
  obtain ⟨oc, od, kV, doc, pm, an, ct, osl, k1, k2, k3, k4⟩ := fn_data (T.fnv h) (T.a5 r h)
  rw [hc] at k4
  obtain ⟨d1, d2, d3⟩ := k4
  refine ⟨⟨⟨oc, od, kV, doc, pm, an, ct, osl, d3, k1⟩, k3, ?_, ?_⟩, k2⟩
  · unfold codeFileB at d2
    cases q : K.lookup r.code with
    | none => rw [q] at d2; cases d2
    | some o =>
      obtain ⟨o1, o2, dt, o4⟩ := o
      rw [q] at d2
      cases dt with
      | fields vs =>
        have d2 : (match (vs[2]? : Option Value) with
          | some (Value.str x _) => decide (x = "/claim/cut.py")
          | _ => false) = true := d2
        cases z : vs[2]? with
        | none => rw [z] at d2; cases d2
        | some v =>
          rw [z] at d2
          cases v with
          | str y tf =>
            have ey : y = "/claim/cut.py" := of_decide_eq_true d2
            subst ey
            exact ⟨o1, o2, vs, o4, tf, rfl, z⟩
          | _ => cases d2
      | _ => cases d2
  · unfold cellB at d1
    cases q : K.lookup cc with
    | none => rw [q] at d1; cases d1
    | some o =>
      obtain ⟨o1, o2, dt, o4⟩ := o
      rw [q] at d1
      cases dt with
      | cell v =>
        cases v with
        | none => cases d1
        | some v =>
          cases v with
          | ref d =>
            have ed : d = D := of_decide_eq_true d1
            subst ed
            exact ⟨o1, o2, o4, rfl⟩
          | _ => cases d1
      | _ => cases d1
end Ctx
/-! ### classes -/
theorem cls_of {C : Addr} (c : clsB K C = true) : Cls K C := by
  obtain ⟨c1, c⟩ := ba c
  obtain ⟨c2, c⟩ := ba c
  obtain ⟨c3, c4⟩ := ba c
  exact ⟨c1, c2, c3, eqO_ok c4⟩
theorem meth_of {C f : Addr} {m : Str} (c : methB K C m f = true) : Meth K C m f := by
  obtain ⟨c1, c⟩ := ba c
  obtain ⟨c2, c3⟩ := ba c
  exact ⟨eqO_ok c1, c2, c3⟩
theorem mk_of {C f : Addr} (c : mkB K C f = true) : Mk K C f := by
  obtain ⟨c1, c⟩ := ba c
  obtain ⟨c2, c⟩ := ba c
  obtain ⟨c3, c4⟩ := ba c
  exact ⟨c1, eqO_ok c2, c3, c4⟩
theorem noat_of {C : Addr} {f : Str} (c : noatB K C f = true) : NoAttr K C f := eqO_ok c
/-- the type of an instance of C -/
theorem ty_of {C : Addr} (T : Ctx K mg) (c : clsB K C = true) (t : tyB K C = true) {H : Hp} {a dx : Addr} {fs : List (Str × V)} (e : H a = some (.ins C dx fs)) : TyX K H (.ref a) (.ref C) := by
  obtain ⟨t1, t2⟩ := ba t
  obtain ⟨_, s⟩ := ba T.a12
  obtain ⟨s1, s2⟩ := ba s
  exact .base (.ins e (cls_of c) (eqO_ok t1) (eqO_ok s1) (eqB_ok s2) (eqB_ok t2))
theorem isi_of {C : Addr} (c : isiB K C = true) {t : String} {b : Bool} (h : (t, b) ∈ isiL) : PySem.W.kitOne K (.ref C) (.type t) = some b := eqB_ok (List.all_eq_true.mp c (t, b) h)
/-- a class of papers -/
structure Pap (K : PySem.W.Frag) (C : Addr) (x : Str) (den : Bool) (attrs : List Str) : Prop where
  cl : clsB K C = true
  ty : tyB K C = true
  isi : isiB K C = true
  sub : PySem.W.kitOne K (.ref C) (.ref 274) = some true
  nm : nameB K C x = true
  noat : ∀ f ∈ ("word" : Str) :: "parts" :: attrs, NoAttr K C f
  eq : Meth K C "__eq__" 264
  bo : Meth K C "__bool__" (boolAt den)
theorem pap_of {C : Addr} {x : Str} {den : Bool} {attrs : List Str} (c : papB K C x den attrs = true) : Pap K C x den attrs := by
  obtain ⟨c1, c⟩ := ba c
  obtain ⟨c2, c⟩ := ba c
  obtain ⟨c3, c⟩ := ba c
  obtain ⟨c4, c⟩ := ba c
  obtain ⟨c5, c⟩ := ba c
  obtain ⟨c6, c⟩ := ba c
  obtain ⟨c7, c8⟩ := ba c
  exact ⟨c1, c2, c3, eqB_ok c4, c5, fun f hf => noat_of (List.all_eq_true.mp c6 f hf), meth_of c7, meth_of c8⟩
theorem sup_of {C D f2 : Addr} (T : Ctx K mg) (c : supB K C D f2 = true) : SupK K C D f2 := by
  obtain ⟨c1, c⟩ := ba c
  obtain ⟨c2, c⟩ := ba c
  obtain ⟨c3, c⟩ := ba c
  obtain ⟨c4, c5⟩ := ba c
  exact ⟨eqB_ok c1, eqO_ok c2, c3, of_decide_eq_true c4, c5, eqO_ok (ba T.a12).1⟩
/-- an own class of errors, whole -/
structure XC (K : PySem.W.Frag) (C D f : Addr) (fs : List Str) : Prop where
  ox : OexC K C
  ini : PySem.W.findIn K (.ref C) "__init__" = some (some (.ref f))
  fty : PySem.W.typeIn K (.ref f) = some (.type "function")
  sx : SupX K C D
  no : ∀ g ∈ fs, PySem.W.findIn K (.ref C) g = some none
  ec : ExcC K C
  xf : XfC K C
  exm : PySem.W.exmOne K (.ref C) (.ref 31) = some true
  kit : ∀ a ∈ xcs, PySem.W.kitOne K (.ref C) (.ref a) = some (decide (a = C))
theorem tail_refs : ∀ bm : List Value, PySem.W.excTail veBase bm = true → PySem.HandSPX.refsVE bm = true := by
  intro bm
  induction bm with
  | nil =>
    intro h
    rcases PySem.W.excTail_cases _ h with ⟨c, r, e, _⟩ | e <;> cases e
  | cons v r ih =>
    intro h
    rcases PySem.W.excTail_cases _ h with ⟨c, r', e, h2⟩ | e
    · cases e
      show PySem.HandSPX.refsVE (.ref c :: r) = true
      unfold PySem.HandSPX.refsVE
      exact ih h2
    · rw [e]
      rfl
theorem xc_of {C D f : Addr} {fs : List Str} (T : Ctx K mg) (c : xcB K C D f fs = true) : XC K C D f fs := by
  obtain ⟨c1, c⟩ := ba c
  obtain ⟨c2, c⟩ := ba c
  obtain ⟨c3, c⟩ := ba c
  obtain ⟨c4, c⟩ := ba c
  obtain ⟨c5, c⟩ := ba c
  obtain ⟨c6, c⟩ := ba c
  obtain ⟨c7, c⟩ := ba c
  obtain ⟨c8, c⟩ := ba c
  obtain ⟨c9, c⟩ := ba c
  obtain ⟨c10, c⟩ := ba c
  obtain ⟨c11, c⟩ := ba c
  obtain ⟨c12, c⟩ := ba c
  obtain ⟨c13, c⟩ := ba c
  obtain ⟨c14, c⟩ := ba c
  obtain ⟨c15, c⟩ := ba c
  obtain ⟨c16, c⟩ := ba c
  obtain ⟨c17, c⟩ := ba c
  obtain ⟨c18, c19⟩ := ba c
  obtain ⟨s1, s2⟩ := ba T.a12
  obtain ⟨s2, s3⟩ := ba s2
  refine ⟨⟨?_, eqO_ok c3, of_decide_eq_true c4, of_decide_eq_true c5, c6⟩, eqO_ok c7, of_decide_eq_true c8, ⟨eqB_ok c9, eqO_ok c10, c11, eqO_ok s1, eqB_ok c12⟩, fun g hg => eqO_ok (List.all_eq_true.mp c13 g hg),
    ⟨eqO_ok c14, eqO_ok c15, of_decide_eq_true c4, c2, eqO_ok c16, eqO_ok s2, eqB_ok s3, eqB_ok c17⟩, ⟨eqO_ok c14, eqO_ok c15, of_decide_eq_true c4, c2⟩, eqB_ok c18, fun a ha => eqB_ok (List.all_eq_true.mp c19 a ha)⟩
  obtain ⟨cdh, hch, hdh⟩ := PySem.W.any_some c2
  unfold PySem.W.clsIn at hch
  unfold PySem.W.excInitIn at c1
  split at c1
  · rename_i dd cd sl ho
    rw [ho] at hch
    cases hch
    split at c1
    · rename_i C' bm k0 k1 k2 k3 n k5 hm hs
      simp only [Bool.and_eq_true, beq_iff_eq, Bool.not_eq_true'] at c1
      obtain ⟨⟨⟨rfl, rfl⟩, hdel⟩, ht⟩ := c1
      obtain ⟨nm, bs, mro, ns, qn, hd, sn, sub, ab, col, del⟩ := cdh
      dsimp only at hm hdel hdh
      subst hm hdel hdh
      have hsl : sl = #[k0, k1, k2, k3, some (.builtin "ValueError.__new__"), k5] := by
        obtain ⟨l⟩ := sl
        simp only at hs
        rw [hs]
      subst hsl
      exact ⟨nm, qn, ns, bs, bm, sn, sub, ab, col, dd, k0, k1, k2, k3, k5, ho, tail_refs bm ht⟩
    · cases c1
  · cases c1
theorem Ctx.xval (T : Ctx K mg) : XC K 161 53 50 ["part"] := xc_of T (ba T.xb).1
theorem Ctx.xtxt (T : Ctx K mg) : XC K 182 182 179 ["line", "word"] := xc_of T (ba (ba T.xb).2).1
theorem Ctx.ne (T : Ctx K mg) : ∀ C ∈ (274 :: 295 :: pcs.map (·.at_)), PySem.W.findIn K (.ref C) "__ne__" = some (some (.builtin "object.__ne__")) := fun C hC => eqO_ok (List.all_eq_true.mp (ba (ba T.xb).2).2 C hC)
end
end K91
set_option Elab.async false
set_option linter.all false
set_option maxRecDepth 100000
set_option maxHeartbeats 0
/-! K91, H: the head (printed by gen_k91h.py). -/
noncomputable section
namespace K91
open PySem PySem.Spec PyProof.Rows L2
def asL : List Addr := [3, 2, 274, 273, 295, 294, 31, 30, 53, 52, 65, 64, 77, 76, 89, 88, 101, 100, 113, 112] ++
  [125, 124, 137, 136, 149, 148, 161, 160, 182, 181, 203, 202, 215, 214, 236, 235, 349, 348, 370, 369] ++
  [391, 390, 412, 411, 433, 432, 454, 453, 475, 474, 496, 495, 517, 516, 538, 537, 559, 558, 580, 579] ++
  [601, 600, 622, 621, 643, 642, 664, 663, 685, 684, 706, 705, 727, 726, 748, 747, 769, 768, 790, 789] ++
  [811, 810, 832, 831, 853, 852, 874, 873, 895, 894, 916, 915, 1001, 1000, 0, 4, 6, 15, 16, 17] ++
  [18, 19, 20, 21, 29, 32, 38, 44, 45, 46, 47, 48, 49, 50, 51, 63, 75, 87, 99, 111] ++
  [123, 135, 147, 159, 167, 173, 174, 175, 176, 177, 178, 179, 180, 188, 194, 195, 196, 197, 198, 199] ++
  [200, 201, 213, 221, 227, 228, 229, 230, 231, 232, 233, 234, 239, 240, 241, 242, 243, 251, 252, 253] ++
  [254, 255, 256, 257, 258, 259, 260, 261, 262, 263, 264, 265, 266, 267, 268, 269, 270, 271, 272, 275] ++
  [276, 286, 287, 288, 289, 290, 291, 292, 293, 298, 299, 300, 301, 302, 303, 304, 305, 306, 307, 308] ++
  [309, 310, 311, 312, 313, 314, 315, 316, 317, 318, 319, 320, 321, 322, 323, 324, 325, 326, 327, 328] ++
  [329, 330, 334, 340, 341, 342, 343, 344, 345, 346, 347, 355, 361, 362, 363, 364, 365, 366, 367, 368] ++
  [376, 382, 383, 384, 385, 386, 387, 388, 389, 397, 403, 404, 405, 406, 407, 408, 409, 410, 418, 424] ++
  [425, 426, 427, 428, 429, 430, 431, 439, 445, 446, 447, 448, 449, 450, 451, 452, 460, 466, 467, 468] ++
  [469, 470, 471, 472, 473, 481, 487, 488, 489, 490, 491, 492, 493, 494, 502, 508, 509, 510, 511, 512] ++
  [513, 514, 515, 523, 529, 530, 531, 532, 533, 534, 535, 536, 544, 550, 551, 552, 553, 554, 555, 556] ++
  [557, 565, 571, 572, 573, 574, 575, 576, 577, 578, 586, 592, 593, 594, 595, 596, 597, 598, 599, 607] ++
  [613, 614, 615, 616, 617, 618, 619, 620, 628, 634, 635, 636, 637, 638, 639, 640, 641, 649, 655, 656] ++
  [657, 658, 659, 660, 661, 662, 670, 676, 677, 678, 679, 680, 681, 682, 683, 691, 697, 698, 699, 700] ++
  [701, 702, 703, 704, 712, 718, 719, 720, 721, 722, 723, 724, 725, 733, 739, 740, 741, 742, 743, 744] ++
  [745, 746, 754, 760, 761, 762, 763, 764, 765, 766, 767, 775, 781, 782, 783, 784, 785, 786, 787, 788] ++
  [796, 802, 803, 804, 805, 806, 807, 808, 809, 817, 823, 824, 825, 826, 827, 828, 829, 830, 838, 844] ++
  [845, 846, 847, 848, 849, 850, 851, 859, 865, 866, 867, 868, 869, 870, 871, 872, 880, 886, 887, 888] ++
  [889, 890, 891, 892, 893, 901, 907, 908, 909, 910, 911, 912, 913, 914, 919, 920, 921, 922, 923, 924] ++
  [925, 926, 927, 928, 929, 930, 931, 932, 933, 934, 935, 936, 937, 938, 939, 940, 941, 942, 943, 944] ++
  [945, 946, 947, 948, 949, 950, 951, 952, 953, 954, 955, 956, 957, 958, 959, 960, 961, 962, 963, 971] ++
  [972, 973, 974, 975, 976, 977, 978, 979, 980, 981, 982, 983, 984, 985, 986, 987, 988, 989, 990, 991] ++
  [992, 993, 994, 995, 996, 997, 998, 999, 1002, 1003, 1006, 1007, 1008, 1009, 1010, 1011, 1012, 1013, 1014, 1015] ++
  [1016, 1017, 1018, 1019, 1020, 1021, 1022, 1023, 1024, 1025, 1026, 1027, 1028, 1029, 1030, 1031, 1032, 1033, 1034, 1035] ++
  [1036, 1037, 1038, 1039, 1040, 1041, 1042, 1043, 1044, 1045, 1046, 1047, 1048, 1049, 1050, 1051, 1052, 1053, 1054, 1055] ++
  [1056, 1057, 1058, 1059, 1060, 1061, 1062, 1063, 1064, 1065, 1066, 1067, 1068, 1069, 1070, 1071, 1072, 1073, 1074, 1075] ++
  [1076, 1077, 1078, 1079, 1080, 1081, 1082, 1083, 1084, 1085, 1086, 1087, 1088, 1089, 1090, 1091, 1092, 1093, 1094, 1095] ++
  [1096, 1097, 1098, 1099, 1100, 1101, 1102, 1103, 1104, 1105, 1106, 1108, 1109, 1110, 1111, 1112]
/-- law's code object and its table -/
abbrev cLaw : Addr := 1111
abbrev tLaw : Addr := 1107
def emB (o : Option Obj) : Bool := match o with
  | some o => He.emptyTab o
  | none => false
abbrev AlY : Type := Bool × List FnV
def obsY (g : Addr → Option Obj) : AlY := (exB (He.frG g asL) && (allB (He.frG g asL) && (emB (g tLaw) && (PySem.W.codeHdIn (He.frG g asL) cLaw tLaw && !((He.frG g asL).lookup tLaw).isSome))), fnRows.map fun r => fnV (He.frG g asL) r.at_)
def valY : AlY := (true, fnRows.map FnRow.val)
structure SaysY (K : PySem.W.Frag) (h : Heap) : Prop where
  xb : exB K = true
  fx : allB K = true
  fn : fnRows.map (fun r => fnV K r.at_) = fnRows.map FnRow.val
  hd : PySem.W.codeHdIn K cLaw tLaw = true
  out : K.lookup tLaw = none
  empty : h.get? tLaw = some { cls := .none, data := .fields #[] }
theorem saysY_of {h : Heap} (e : obsY h.get? = valY) : SaysY (He.frG h.get? asL) h := by
  have e1 : (exB (He.frG h.get? asL) && (allB (He.frG h.get? asL) && (emB (h.get? tLaw) && (PySem.W.codeHdIn (He.frG h.get? asL) cLaw tLaw && !((He.frG h.get? asL).lookup tLaw).isSome)))) = true := congrArg (fun z : AlY => z.1) e
  have e2 : fnRows.map (fun r => fnV (He.frG h.get? asL) r.at_) = fnRows.map FnRow.val := congrArg (fun z : AlY => z.2) e
  obtain ⟨c0, c⟩ := ba e1
  obtain ⟨c1, c⟩ := ba c
  obtain ⟨c2, c⟩ := ba c
  obtain ⟨c3, c4⟩ := ba c
  refine ⟨c0, c1, e2, c3, ?_, ?_⟩
  · cases q : (He.frG h.get? asL).lookup tLaw with
    | none => rfl
    | some o => rw [q] at c4; cases c4
  · unfold emB at c2
    cases q : h.get? tLaw with
    | none => rw [q] at c2; cases c2
    | some o =>
      rw [q] at c2
      rw [He.emptyTab_eq c2]
def hookY : PySem.W.Hook where
  α := AlY
  obs := fun s => obsY s.heap.get?
  val := fun _ => valY
  says := fun _ h => ∃ K : PySem.W.Frag, K.In h ∧ SaysY K h
  of := fun _ _ e => ⟨_, He.frG_in, saysY_of e⟩
  keeps := fun _ _ _ ⟨K, hK, c⟩ k => ⟨K, PySem.W.Frag.In.keeps hK k, ⟨c.xb, c.fx, c.fn, c.hd, c.out, k _ _ c.empty⟩⟩
abbrev R : PySem.W.OpenRow := PySem.W.OpenLaw.row PySem.Challenge.rw_nohalfseen_k91_papers_as_texts
def ob (s : PySem.W.SharedT) : AlY := obsY (HandSHeadRun.getT s)
theorem ob_eq (s : PySem.W.SharedT) : ob s = hookY.obs s.abs := by
  have e : HandSHeadRun.getT s = s.abs.heap.get? := funext (HandSHeadRun.getT_eq s)
  unfold ob
  rw [e]
  rfl
def hookZ : PySem.W.Hook where
  α := List FnV
  obs := fun s => fnRows.map fun r => fnV (He.frG s.heap.get? asL) r.at_
  val := fun _ => fnRows.map FnRow.val
  says := fun _ _ => True
  of := fun _ _ _ => True.intro
  keeps := fun _ _ _ _ _ => True.intro
def obZ (s : PySem.W.SharedT) : List FnV := fnRows.map fun r => fnV (He.frG (HandSHeadRun.getT s) asL) r.at_
abbrev qV : Program := PySem.W.view R.prog [102]
def loose : List Str := [("is_integer" : Str), ("RunError" : Str), ("PartError" : Str), ("BadWorld" : Str), ("BadDeed" : Str), ("BadOther" : Str), ("BadPlan" : Str), ("BadProgram" : Str), ("BadRun" : Str), ("BadLot" : Str), ("BadNumber" : Str), ("BadValue" : Str), ("BadText" : Str), ("BadCommand" : Str), ("Nothing" : Str), ("TooMany" : Str), ("kept" : Str), ("Paper" : Str), ("Denial" : Str), ("NOTHING" : Str)] ++
  [("OPEN" : Str), ("CLOSE" : Str), ("MARK" : Str), ("LETTERS" : Str), ("MOST_FIGURES" : Str), ("counts" : Str), ("is_told_paper" : Str), ("word_of" : Str), ("words_of" : Str), ("paper_text" : Str), ("Right" : Str), ("Wrong" : Str), ("Round" : Str), ("Beside" : Str), ("Clash" : Str), ("Plan" : Str), ("Spoil" : Str), ("Within" : Str), ("Crowd" : Str), ("Keeps" : Str)] ++
  [("Forgets" : Str), ("Enough" : Str), ("Fits" : Str), ("Unfit" : Str), ("Known" : Str), ("Alike" : Str), ("Sayable" : Str), ("Barred" : Str), ("Seemly" : Str), ("Unseemly" : Str), ("Order" : Str), ("Unordered" : Str), ("Matching" : Str), ("Apart" : Str), ("Shorter" : Str), ("Soonest" : Str), ("Delay" : Str), ("Turning" : Str), ("made_one" : Str), ("made_two" : Str)] ++
  [("made_three" : Str), ("made_paper" : Str), ("is_written" : Str), ("is_plain" : Str), ("value_of" : Str), ("Opened" : Str), ("word_at" : Str), ("opened_at" : Str), ("read_paper" : Str), ("_law_pen" : Str), ("_law_draw" : Str), ("_law_pick" : Str), ("_law_heard" : Str), ("_law_tx_counts" : Str), ("_law_tx_plain_words" : Str), ("_law_tx_is_leaf" : Str), ("_law_tx_paper_bad" : Str), ("_law_paper_one" : Str), ("_law_paper_of" : Str), ("_law_tx_thing" : Str)] ++
  [("_law_tx_drawn_paper" : Str), ("_law_bent_words" : Str)]
abbrev oEnd (w : World) (os : OsState) := HandSHeadRun.endF (HandSHeadRun.stepQ (HandSHeadRun.denQ HandSHeadRun.tabQ) R.prog w) 20000 R.prog w os
def kOf (s : PySem.W.SharedT) : PySem.W.Frag := He.frG (HandSHeadRun.getT s) asL
/-! the facts in parts: each part is a run of the top of its own (one run of all needs too much memory) -/
def g1 (K : PySem.W.Frag) : Bool := (gloL.all fun q => eqO (PySem.W.nsIn K mainGlobals q.1) (some (some (.ref q.2)))) && ((freeL.all fun x => eqO (PySem.W.nsIn K mainGlobals x) (some none)) && (strL.all (strB K) && intB K "MOST_FIGURES" 40))
def g2 (K : PySem.W.Frag) : Bool := (fnRows.take 34).all (fun r => r.ok K)
def g3 (K : PySem.W.Frag) : Bool := (fnRows.drop 34).all (fun r => r.ok K)
def g4 (K : PySem.W.Frag) : Bool := pcs.all (pcB K)
def g6 (K : PySem.W.Frag) : Bool := papB K 274 "Paper" false [] && (mkB K 274 257 && (papB K 295 "Denial" true [] && (mkB K 295 257 && (opB K && (staB K && (kiB K && excL.all (excB K)))))))
def g7 (s : PySem.W.SharedT) : Bool := emB (HandSHeadRun.getT s tLaw) && (PySem.W.codeHdIn (He.frG (HandSHeadRun.getT s) asL) cLaw tLaw && !((He.frG (HandSHeadRun.getT s) asL).lookup tLaw).isSome)
theorem r1 (w : World) (os : OsState) : ((oEnd w os).map fun s => g1 (kOf s) && (g6 (kOf s) && (g7 s && exB (kOf s)))) = some true := by
  kernel_rfl
theorem r2 (w : World) (os : OsState) : ((oEnd w os).map fun s => g2 (kOf s)) = some true := by
  kernel_rfl
theorem r3 (w : World) (os : OsState) : ((oEnd w os).map fun s => g3 (kOf s)) = some true := by
  kernel_rfl
theorem r4 (w : World) (os : OsState) : ((oEnd w os).map fun s => g4 (kOf s)) = some true := by
  kernel_rfl
theorem halves {α : Type} {p : α → Bool} {l : List α} (n : Nat) (h1 : (l.take n).all p = true) (h2 : (l.drop n).all p = true) : l.all p = true := by
  rw [← List.take_append_drop n l, List.all_append, h1, h2]
  rfl
theorem allB_of {K : PySem.W.Frag} (h1 : g1 K = true) (h2 : g2 K = true) (h3 : g3 K = true) (h4 : g4 K = true) (h6 : g6 K = true) : allB K = true := by
  obtain ⟨a1, h1⟩ := ba h1
  obtain ⟨a2, h1⟩ := ba h1
  obtain ⟨a3, a4⟩ := ba h1
  have a5 : fnRows.all (fun r => r.ok K) = true := halves 34 h2 h3
  exact Bool.and_eq_true_iff.mpr ⟨a1, Bool.and_eq_true_iff.mpr ⟨a2, Bool.and_eq_true_iff.mpr ⟨a3, Bool.and_eq_true_iff.mpr ⟨a4, Bool.and_eq_true_iff.mpr ⟨a5, Bool.and_eq_true_iff.mpr ⟨h4, h6⟩⟩⟩⟩⟩⟩
theorem glue {S : Type} (o : Option S) (a b c d e : S → Bool) (h1 : o.map a = some true) (h2 : o.map b = some true) (h3 : o.map c = some true) (h4 : o.map d = some true) (he : ∀ s, a s = true → b s = true → c s = true → d s = true → e s = true) : o.map e = some true := by
  cases o with
  | none => cases h1
  | some s => exact congrArg some (he s (Option.some.inj h1) (Option.some.inj h2) (Option.some.inj h3) (Option.some.inj h4))
theorem run1 (w : World) (os : OsState) : ((oEnd w os).map fun s => (ob s).1) = some true :=
  glue _ _ _ _ _ _ (r1 w os) (r2 w os) (r3 w os) (r4 w os) fun s z1 z2 z3 z4 => by
    obtain ⟨k1, z1⟩ := ba z1
    obtain ⟨k6, z1⟩ := ba z1
    obtain ⟨k7, kx⟩ := ba z1
    exact Bool.and_eq_true_iff.mpr ⟨kx, Bool.and_eq_true_iff.mpr ⟨allB_of k1 z2 z3 z4 k6, k7⟩⟩
def hookU : PySem.W.Hook where
  α := Unit
  obs := fun s => ()
  val := fun _ => ()
  says := fun _ _ => True
  of := fun _ _ _ => True.intro
  keeps := fun _ _ _ _ _ => True.intro
theorem runU (w : World) : HandSHeadRun.RunEq R qV hookU (fun _ => ()) 20000 loose w := by
  intro os
  kernel_rfl
theorem runV (w : World) (os : OsState) : ((oEnd w os).map fun s => obZ s) = some (fnRows.map FnRow.val) := by
  kernel_rfl
theorem comb2 {S A B C : Type} (o : Option S) (f1 : S → A) (f2 : S → B) (f3 : S → C) (a : A) (b : B) (c : C) (h1 : o.map (fun s => (f1 s, f2 s, ())) = some (a, b, ())) (h2 : o.map f3 = some c) : o.map (fun s => (f1 s, f2 s, f3 s)) = some (a, b, c) := by
  cases o with
  | none => cases h2
  | some s =>
    have z1 : (f1 s, f2 s, ()) = (a, b, ()) := Option.some.inj h1
    have z2 : f3 s = c := Option.some.inj h2
    simp only [Prod.mk.injEq] at z1
    obtain ⟨a1, a2, _⟩ := z1
    show some (f1 s, f2 s, f3 s) = some (a, b, c)
    rw [a1, a2, z2]
theorem run2 (w : World) : HandSHeadRun.RunEq R qV hookZ obZ 20000 loose w := fun os => comb2 _ _ _ obZ _ _ _ (runU w os) (runV w os)
theorem comb {S A B C : Type} (o : Option S) (ob : S → Bool × C) (f1 : S → A) (f2 : S → B) (f3 : S → C) (a : A) (b : B) (c : C) (h1 : o.map (fun s => (ob s).1) = some true) (h2 : o.map (fun s => (f1 s, f2 s, f3 s)) = some (a, b, c)) (hf : ∀ s, f3 s = (ob s).2) :
    o.map (fun s => (f1 s, f2 s, ob s)) = some (a, b, (true, c)) := by
  cases o with
  | none => cases h1
  | some s =>
    have z1 : (ob s).1 = true := Option.some.inj h1
    have z2 : (f1 s, f2 s, f3 s) = (a, b, c) := Option.some.inj h2
    have z3 := hf s
    simp only [Prod.mk.injEq] at z2
    obtain ⟨a1, a2, a3⟩ := z2
    have z4 : ob s = (true, c) := Prod.ext z1 (by rw [← z3, a3])
    show some (f1 s, f2 s, ob s) = some (a, b, (true, c))
    rw [a1, a2, z4]
theorem run (w : World) : HandSHeadRun.RunEq R qV hookY ob 20000 loose w := fun os => comb _ ob _ _ obZ _ _ _ (run1 w os) (run2 w os) fun _ => rfl
end K91
end
set_option Elab.async false
set_option linter.all false
set_option maxRecDepth 100000
/-! K91, A: data, their words, the machine that reads them, the law's own machine, and that they agree. No program in sight. -/
namespace K91
open PySem TL

/-- what a paper's text tells -/
inductive D where
  | non
  | int (i : Int)
  | str (s : Str)
  | tup (ds : List D)
  | pap (w : Str) (ds : List D)
  /-- what cannot be told: a bool, an empty dict -/
  | bl (b : Bool)
  | dct

def tbl : List (Str × Nat) := [("beside", 1), ("clash", 2), ("within", 3), ("right", 1), ("wrong", 2), ("round", 3), ("crowd", 1), ("enough", 2), ("fits", 2), ("unfit", 1), ("keeps", 3), ("forgets", 1), ("known", 2), ("alike", 3),
  ("sayable", 1), ("barred", 2), ("order", 3), ("unordered", 3), ("plan", 2), ("spoil", 2), ("matching", 1), ("apart", 2), ("shorter", 4), ("soonest", 3), ("delay", 3), ("turning", 1), ("seemly", 4), ("unseemly", 1)]
def cnt (w : Str) : Option Nat := tbl.lookup w
def wO : Str := "("
def wC : Str := ")"
def wN : Str := "none"
def wE : Str := "="

mutual
def D.words : D → List Str
  | .non => [wN]
  | .int i => [Str.ofString (toString i)]
  | .str s => [wE ++ s]
  | .tup ds => wO :: (wordsL ds ++ [wC])
  | .pap w ds => w :: wO :: (wordsL ds ++ [wC])
  | .bl _ => []
  | .dct => []
def wordsL : List D → List Str
  | [] => []
  | d :: ds => d.words ++ wordsL ds
end
theorem wordsL_append : ∀ a b : List D, wordsL (a ++ b) = wordsL a ++ wordsL b
  | [], b => rfl
  | d :: a, b => by
    show d.words ++ wordsL (a ++ b) = d.words ++ wordsL a ++ wordsL b
    rw [wordsL_append a b, List.append_assoc]

/-! ### leaves -/
def isL (c : Nat) : Bool := decide (97 ≤ c) && decide (c ≤ 122)
def isF (c : Nat) : Bool := decide (48 ≤ c) && decide (c ≤ 57)
/-- the figures of a written number -/
def figs : List Nat → List Nat
  | 45 :: r => r
  | l => l
/-- a written integer, by its signs -/
def writtenL (l : List Nat) : Bool := decide (1 ≤ (figs l).length) && decide ((figs l).length ≤ 40) && (figs l).all isF && (decide (l = [48]) || !decide ((figs l).head? = some 48))
def wordL : List Nat → Bool
  | 61 :: r => r.all isL
  | _ => false
def isPlain (w : Str) : Bool := decide (w = wN) || (writtenL (tl w) || wordL (tl w))
/-- the value of a written integer -/
def numOf (l : List Nat) : Int := match l with
  | 45 :: r => -((NumText.digitsVal r : Nat) : Int)
  | l => ((NumText.digitsVal l : Nat) : Int)
def valueOf (w : Str) : D := if w = wN then .non else match tl w with
  | 61 :: r => .str ⟨r.toArray⟩
  | l => .int (numOf l)

/-! ### what can be told -/
def okI (i : Int) : Bool := decide ((numL i.natAbs).length ≤ 40)
def okS (s : Str) : Bool := (tl s).all isL
mutual
def D.ok : D → Bool
  | .non => true
  | .int i => okI i
  | .str s => okS s
  | .tup ds => okD ds
  | .pap w ds => decide (cnt w = some ds.length) && okD ds
  | .bl _ => false
  | .dct => false
def okD : List D → Bool
  | [] => true
  | d :: ds => d.ok && okD ds
end
theorem okD_append : ∀ a b : List D, okD (a ++ b) = (okD a && okD b)
  | [], b => by simp [okD]
  | d :: a, b => by
    show (d.ok && okD (a ++ b)) = (d.ok && okD a && okD b)
    rw [okD_append a b, Bool.and_assoc]

/-! ### digits -/
theorem toString_nat (n : Nat) : tl (Str.ofString (toString ((n : Nat) : Int))) = numL n := tl_num n
theorem toString_neg (n : Nat) : tl (Str.ofString (toString (Int.negSucc n))) = 45 :: numL (n + 1) := by
  have e : toString (Int.negSucc n) = "-" ++ toString (n + 1) := rfl
  have e2 : (toString (n + 1)) = toString (((n + 1 : Nat)) : Int) := rfl
  have e3 : tl (Str.ofString (toString (((n + 1 : Nat)) : Int))) = numL (n + 1) := toString_nat (n + 1)
  rw [tl_ofString] at e3
  rw [e, tl_ofString, String.toList_append, List.map_append, e2, e3]
  rfl
theorem tl_int (i : Int) : tl (Str.ofString (toString i)) = if i < 0 then 45 :: numL i.natAbs else numL i.natAbs := by
  cases i with
  | ofNat n =>
    have h : ¬ (Int.ofNat n < 0) := Int.not_lt.mpr (Int.natCast_nonneg n)
    rw [if_neg h]
    exact toString_nat n
  | negSucc n =>
    rw [if_pos (Int.negSucc_lt_zero n)]
    exact toString_neg n
/-- no needless nought -/
theorem numL_head (n : Nat) : (numL n).head? = some 48 → n = 0 := by
  induction n using Nat.strongRecOn with
  | _ n ih =>
    intro h
    by_cases c : n < 10
    · rw [numL_lt c] at h
      have : 48 + n = 48 := by simpa using h
      omega
    · rw [numL_step (by omega)] at h
      have ne := numL_ne (n / 10)
      have h2 : (numL (n / 10)).head? = some 48 := by
        cases q : numL (n / 10) with
        | nil => exact absurd q ne
        | cons a r =>
          rw [q] at h
          simpa using h
      have := ih (n / 10) (by omega) h2
      omega
theorem isF_num (n : Nat) : (numL n).all isF = true := by
  rw [List.all_eq_true]
  intro c hc
  have h := numL_digits n c hc
  unfold isF
  simp only [Bool.and_eq_true, decide_eq_true_eq]
  exact h
/-- digits without a needless nought are those of their value -/
theorem num_back : ∀ (n : Nat) (l : List Nat), l.length = n → l ≠ [] → NumText.AllDigits l → (l.head? = some 48 → l = [48]) → numL (NumText.digitsVal l) = l := by
  intro n
  induction n with
  | zero =>
    intro l h ne _ _
    exact absurd (List.length_eq_zero_iff.mp h) ne
  | succ n ih =>
    intro l h ne hd hz
    obtain ⟨r, c, rfl⟩ : ∃ r c, l = r ++ [c] := ⟨l.dropLast, l.getLast ne, (List.dropLast_concat_getLast ne).symm⟩
    have hc : 48 ≤ c ∧ c ≤ 57 := hd c (by simp)
    have hv : NumText.digitsVal (r ++ [c]) = NumText.digitsVal r * 10 + (c - 48) := by
      unfold NumText.digitsVal
      rw [List.foldl_append]
      rfl
    have hr : NumText.AllDigits r := fun x hx => hd x (List.mem_append_left _ hx)
    have hl : r.length = n := by simpa using h
    cases r with
    | nil =>
      rw [hv]
      have e : NumText.digitsVal ([] : List Nat) * 10 + (c - 48) = c - 48 := by
        show 0 * 10 + (c - 48) = _
        omega
      rw [e, numL_lt (by omega)]
      show [48 + (c - 48)] = [] ++ [c]
      rw [show 48 + (c - 48) = c by omega]
      rfl
    | cons a r =>
      have hz2 : (a :: r).head? = some 48 → (a :: r) = [48] := fun q => by
        have q2 : ((a :: r) ++ [c]).head? = some 48 := by simpa using q
        have := hz q2
        have := congrArg List.length this
        simp at this
      have i := ih (a :: r) hl (by simp) hr hz2
      have pos : NumText.digitsVal (a :: r) ≠ 0 := fun q => by
        rw [q] at i
        have e0 : numL 0 = [48] := numL_lt (by decide)
        rw [e0] at i
        have q2 : ((a :: r) ++ [c]).head? = some 48 := by
          rw [← i]
          rfl
        have := congrArg List.length (hz q2)
        simp at this
      rw [hv, numL_step (by omega)]
      have e1 : (NumText.digitsVal (a :: r) * 10 + (c - 48)) / 10 = NumText.digitsVal (a :: r) := by omega
      have e2 : (NumText.digitsVal (a :: r) * 10 + (c - 48)) % 10 = c - 48 := by omega
      rw [e1, e2, i, show 48 + (c - 48) = c by omega]

theorem allF {l : List Nat} (h : l.all isF = true) : NumText.AllDigits l := fun c hc => by
  have z := List.all_eq_true.mp h c hc
  unfold isF at z
  simp only [Bool.and_eq_true, decide_eq_true_eq] at z
  exact z

/-- a written integer is that of its value -/
theorem written_back {w : Str} (h : writtenL (tl w) = true) : Str.ofString (toString (numOf (tl w))) = w ∧ okI (numOf (tl w)) = true := by
  have e0 : numL 0 = [48] := numL_lt (by decide)
  unfold writtenL at h
  simp only [Bool.and_eq_true, Bool.or_eq_true, decide_eq_true_eq, Bool.not_eq_true', decide_eq_false_iff_not] at h
  obtain ⟨⟨⟨h1, h2⟩, h3⟩, h4⟩ := h
  have fin : ∀ l : List Nat, tl w = l → tl (Str.ofString (toString (numOf l))) = l → Str.ofString (toString (numOf (tl w))) = w := fun l e q => ext_tl (by rw [e, q])
  cases e : tl w with
  | nil =>
    rw [e] at h1
    exact absurd h1 (by decide)
  | cons a r =>
    rw [e] at h1 h2 h3 h4
    by_cases ha : a = 45
    · subst ha
      have h1 : 1 ≤ r.length := h1
      have h2 : r.length ≤ 40 := h2
      have h3 : r.all isF = true := h3
      have h4 : ¬ r.head? = some 48 := by
        rcases h4 with h4 | h4
        · cases h4
        · exact h4
      have ne : r ≠ [] := fun q => by rw [q] at h1; exact absurd h1 (by decide)
      have b := num_back r.length r rfl ne (allF h3) fun q => absurd q h4
      have pos : NumText.digitsVal r ≠ 0 := fun q => by
        rw [q, e0] at b
        rw [← b] at h4
        exact h4 rfl
      have en : numOf (45 :: r) = -((NumText.digitsVal r : Nat) : Int) := rfl
      have ea : (-((NumText.digitsVal r : Nat) : Int)).natAbs = NumText.digitsVal r := by omega
      refine ⟨ext_tl ?_, ?_⟩
      · rw [en, tl_int, if_pos (by omega), ea, b]
        exact e.symm
      · unfold okI
        rw [en, ea, b]
        exact decide_eq_true h2
    · have ef : figs (a :: r) = a :: r := by
        unfold figs
        split
        · rename_i q
          cases q
          exact absurd rfl ha
        · rfl
      rw [ef] at h1 h2 h3 h4
      have hz : (a :: r).head? = some 48 → (a :: r) = [48] := fun q => by
        rcases h4 with h4 | h4
        · exact h4
        · exact absurd q h4
      have b := num_back (a :: r).length (a :: r) rfl (by simp) (allF h3) hz
      have en : numOf (a :: r) = ((NumText.digitsVal (a :: r) : Nat) : Int) := by
        unfold numOf
        split
        · rename_i q
          cases q
          exact absurd rfl ha
        · rfl
      have ea : (((NumText.digitsVal (a :: r) : Nat) : Int)).natAbs = NumText.digitsVal (a :: r) := by omega
      refine ⟨ext_tl ?_, ?_⟩
      · rw [en, tl_int, if_neg (by omega), ea, b]
        exact e.symm
      · unfold okI
        rw [en, ea, b]
        exact decide_eq_true h2
theorem written_int {i : Int} (h : okI i = true) : writtenL (tl (Str.ofString (toString i))) = true ∧ numOf (tl (Str.ofString (toString i))) = i := by
  have hl : (numL i.natAbs).length ≤ 40 := of_decide_eq_true h
  have ne := numL_ne i.natAbs
  have h1 : 1 ≤ (numL i.natAbs).length := by
    cases q : numL i.natAbs with
    | nil => exact absurd q ne
    | cons a r => simp
  rw [tl_int]
  by_cases c : i < 0
  · rw [if_pos c]
    refine ⟨?_, ?_⟩
    · unfold writtenL
      simp only [Bool.and_eq_true, Bool.or_eq_true, decide_eq_true_eq, Bool.not_eq_true', decide_eq_false_iff_not]
      refine ⟨⟨⟨h1, hl⟩, isF_num _⟩, Or.inr fun q => ?_⟩
      have := numL_head _ q
      omega
    · show -((NumText.digitsVal (numL i.natAbs) : Nat) : Int) = i
      rw [numL_val]
      omega
  · rw [if_neg c]
    have nh : ∀ r, numL i.natAbs ≠ 45 :: r := fun r q => by
      have := numL_digits i.natAbs 45 (by rw [q]; simp)
      omega
    have ef : figs (numL i.natAbs) = numL i.natAbs := by
      unfold figs
      split
      · rename_i q
        exact absurd q (nh _)
      · rfl
    refine ⟨?_, ?_⟩
    · unfold writtenL
      rw [ef]
      simp only [Bool.and_eq_true, Bool.or_eq_true, decide_eq_true_eq, Bool.not_eq_true', decide_eq_false_iff_not]
      refine ⟨⟨⟨h1, hl⟩, isF_num _⟩, ?_⟩
      by_cases q : (numL i.natAbs).head? = some 48
      · left
        rw [numL_head _ q]
        exact numL_lt (by decide)
      · exact Or.inr q
    · have en : numOf (numL i.natAbs) = ((NumText.digitsVal (numL i.natAbs) : Nat) : Int) := by
        unfold numOf
        split
        · rename_i q
          exact absurd q (nh _)
        · rfl
      rw [en, numL_val]
      omega

theorem tl_wN : tl wN = [110, 111, 110, 101] := by decide +kernel
theorem tl_wE : tl wE = [61] := by decide +kernel
theorem tl_wO : tl wO = [40] := by decide +kernel
theorem tl_wC : tl wC = [41] := by decide +kernel
theorem plain_value {w : Str} (h : isPlain w = true) : (valueOf w).words = [w] ∧ (valueOf w).ok = true := by
  unfold isPlain at h
  unfold valueOf
  by_cases c : w = wN
  · rw [if_pos c, c]
    exact ⟨rfl, rfl⟩
  · rw [if_neg c]
    simp only [Bool.or_eq_true, decide_eq_true_eq] at h
    rcases h with h | h | h
    · exact absurd h c
    · have n61 : ∀ r, tl w ≠ 61 :: r := fun r q => by
        rw [q] at h
        unfold writtenL at h
        simp only [Bool.and_eq_true] at h
        have h3 : (figs (61 :: r)).all isF = true := h.1.2
        have z := List.all_eq_true.mp h3 61 (by show 61 ∈ 61 :: r; simp)
        exact absurd z (by decide)
      have e : (match tl w with
        | 61 :: r => D.str ⟨r.toArray⟩
        | l => D.int (numOf l)) = D.int (numOf (tl w)) := by
        split
        · rename_i q
          exact absurd q (n61 _)
        · rfl
      rw [e]
      obtain ⟨b1, b2⟩ := written_back h
      exact ⟨by show [Str.ofString (toString (numOf (tl w)))] = [w]; rw [b1], b2⟩
    · unfold wordL at h
      split at h
      · rename_i r q
        refine ⟨?_, ?_⟩
        · show [wE ++ (⟨r.toArray⟩ : Str)] = [w]
          have : wE ++ (⟨r.toArray⟩ : Str) = w := ext_tl (by rw [tl_append, tl_wE, q]; rfl)
          rw [this]
        · show (tl ⟨r.toArray⟩).all isL = true
          exact h
      · cases h
end K91
set_option Elab.async false
set_option linter.all false
set_option maxRecDepth 100000
/-! K91, B: the reading machine, the law's machine, their agreement; what is written is read. -/
namespace K91
open PySem TL

/-! ### reading -/
structure Fr where
  o : Option Str
  ds : List D
def cap (o : Option Str) : Option Nat := match o with
  | none => none
  | some w => some ((cnt w).getD 0)
def roomN (c : Option Nat) (k : Nat) : Bool := match c with
  | none => true
  | some n => decide (k < n)
def wholeN (c : Option Nat) (k : Nat) : Bool := match c with
  | none => true
  | some n => decide (k = n)
def Fr.room (f : Fr) : Bool := roomN (cap f.o) f.ds.length
def Fr.whole (f : Fr) : Bool := wholeN (cap f.o) f.ds.length
def Fr.told (f : Fr) : D := match f.o with
  | none => .tup f.ds
  | some w => .pap w f.ds
inductive Op where
  | bad (at_ : Nat)
  | nope
  | opened (o : Option Str) (at_ : Nat)
def openAt (ws : List Str) (i : Nat) (first : Bool) : Op := match ws[i]? with
  | none => .bad i
  | some w => if (cnt w).isSome = true then (match ws[i + 1]? with
      | none => .bad (i + 1)
      | some x => if x = wO then .opened (some w) (i + 2) else .bad (i + 1))
    else if w = wO ∧ first = false then .opened none (i + 1) else .nope
theorem openAt_named {ws : List Str} {i : Nat} {w : Str} {b : Bool} (hx : ws[i]? = some w) (hn : (cnt w).isSome = true) : openAt ws i b = (match ws[i + 1]? with
      | none => .bad (i + 1)
      | some x => if x = wO then .opened (some w) (i + 2) else .bad (i + 1)) := by
  unfold openAt
  rw [hx]
  show (if _ then _ else _) = _
  rw [if_pos hn]
theorem openAt_else {ws : List Str} {i : Nat} {w : Str} {b : Bool} (hx : ws[i]? = some w) (hn : ¬ (cnt w).isSome = true) : openAt ws i b = if w = wO ∧ b = false then .opened none (i + 1) else .nope := by
  unfold openAt
  rw [hx]
  show (if _ then _ else _) = _
  rw [if_neg hn]
inductive Rs where
  | bad (i : Nat)
  | fin (d : D) (i : Nat)
  | go (st : List Fr) (i : Nat)
def onOpen (top : Fr) (rest : List Fr) (i : Nat) (w : Str) : Op → Rs
  | .bad k => .bad k
  | .opened o b => .go (⟨o, []⟩ :: top :: rest) b
  | .nope => if isPlain w = true then .go (⟨top.o, top.ds ++ [valueOf w]⟩ :: rest) (i + 1) else .bad i
/-- one turn of read_paper's loop, the top first -/
def stepR (ws : List Str) (top : Fr) (rest : List Fr) (i : Nat) : Rs := match ws[i]? with
  | none => .bad i
  | some w => if w = wC ∧ top.whole = true then (match rest with
      | [] => .fin top.told (i + 1)
      | f :: r => .go (⟨f.o, f.ds ++ [top.told]⟩ :: r) (i + 1))
    else if top.room = false then .bad i
    else onOpen top rest i w (openAt ws i false)
def runR (ws : List Str) : Nat → List Fr → Nat → Rs
  | 0, st, i => .go st i
  | _ + 1, [], i => .bad i
  | n + 1, top :: rest, i => match stepR ws top rest i with
    | .go st' i' => runR ws n st' i'
    | r => r
inductive Rd where
  | bad (i : Nat)
  | ok (d : D)
def ofRun (ws : List Str) : Rs → Rd
  | .bad k => .bad k
  | .go _ k => .bad k
  | .fin d k => if k < ws.length then .bad k else .ok d
def onFirst (ws : List Str) : Op → Rd
  | .bad k => .bad k
  | .nope => .bad 0
  | .opened o b => ofRun ws (runR ws (ws.length + 1) [⟨o, []⟩] b)
def readW (ws : List Str) : Rd := onFirst ws (openAt ws 0 true)

/-! ### the law's machine -/
abbrev LF := Option Nat × Nat
inductive Ls where
  | ret (r : Option Nat)
  | go (line : List LF) (i : Nat)
def stepB (ws : List Str) (line : List LF) (i : Nat) : Ls := match line, ws[i]? with
  | [], none => if i > 0 then .ret none else .ret (some i)
  | [], some w => if i > 0 then .ret (some i) else
      if (cnt w).isSome = true then (if ws[i + 1]? = some wO then .go [(cnt w, 0)] (i + 2) else .ret (some (i + 1))) else .ret (some i)
  | _ :: _, none => .ret (some i)
  | (c, k) :: rest, some w =>
      if (cnt w).isSome = true ∧ roomN c k = true then (if ws[i + 1]? = some wO then .go ((cnt w, 0) :: (c, k) :: rest) (i + 2) else .ret (some (i + 1)))
      else if w = wC ∧ wholeN c k = true then .go (match rest with
        | [] => []
        | (c', k') :: r => (c', k' + 1) :: r) (i + 1)
      else if roomN c k = true ∧ w = wO then .go ((none, 0) :: (c, k) :: rest) (i + 1)
      else if roomN c k = true ∧ isPlain w = true then .go ((c, k + 1) :: rest) (i + 1)
      else .ret (some i)
def runB (ws : List Str) : Nat → List LF → Nat → Option Nat
  | 0, _, i => some i
  | n + 1, line, i => match stepB ws line i with
    | .ret r => r
    | .go l k => runB ws n l k
def badW (ws : List Str) : Option Nat := runB ws (ws.length + 1) [] 0

/-! ### both machines go alike -/
def absF (f : Fr) : LF := (cap f.o, f.ds.length)
def Fr.okF (f : Fr) : Prop := (∀ w, f.o = some w → (cnt w).isSome = true) ∧ okD f.ds = true
def opens (o : Option Str) : List Str := match o with
  | none => [wO]
  | some w => [w, wO]
/-- the words that a stack has taken, the top first -/
def stW : List Fr → List Str
  | [] => []
  | f :: r => stW r ++ (opens f.o ++ wordsL f.ds)
theorem cnt_wC : cnt wC = none := by decide +kernel
theorem cnt_wO : cnt wO = none := by decide +kernel
theorem wO_ne_wC : ¬ wO = wC := by decide +kernel
theorem cap_some {w : Str} (h : (cnt w).isSome = true) : cap (some w) = cnt w := by
  cases q : cnt w with
  | none => rw [q] at h; cases h
  | some n =>
    show some ((cnt w).getD 0) = some n
    rw [q]
    rfl
theorem take_get {α : Type} {l : List α} {i : Nat} {x : α} (h : l[i]? = some x) : l.take (i + 1) = l.take i ++ [x] := by
  rw [List.take_succ, h]
  rfl
theorem words_told (f : Fr) : (Fr.told f).words = opens f.o ++ wordsL f.ds ++ [wC] := by
  unfold Fr.told opens
  split <;> simp [D.words]
theorem ok_told {f : Fr} (h : f.okF) (hw : f.whole = true) : (Fr.told f).ok = true := by
  unfold Fr.told
  cases q : f.o with
  | none => exact h.2
  | some w =>
    show (decide (cnt w = some f.ds.length) && okD f.ds) = true
    have h1 := h.1 w q
    unfold Fr.whole wholeN at hw
    rw [q, cap_some h1] at hw
    cases z : cnt w with
    | none => rw [z] at h1; cases h1
    | some n =>
      rw [z] at hw
      have e : f.ds.length = n := of_decide_eq_true hw
      rw [h.2, e]
      simp
theorem wordsL_one (d : D) : wordsL [d] = d.words := by simp [wordsL]
theorem okD_one (d : D) : okD [d] = d.ok := by simp [okD]
theorem get_lt {α : Type} {l : List α} {i : Nat} {x : α} (h : l[i]? = some x) : i < l.length := (List.getElem?_eq_some_iff.mp h).1

inductive SA (ws : List Str) (i : Nat) : Rs → Ls → Prop where
  | bad (k : Nat) : SA ws i (.bad k) (.ret (some k))
  | fin (d : D) (h : d.words = ws.take (i + 1)) (ho : d.ok = true) (hfin : i < ws.length) : SA ws i (.fin d (i + 1)) (.go [] (i + 1))
  | go (st : List Fr) (k : Nat) (hne : st ≠ []) (hok : ∀ f ∈ st, f.okF) (hw : stW st = ws.take k) (h1 : i < k) (h2 : k ≤ ws.length) : SA ws i (.go st k) (.go (st.map absF) k)
theorem step_agree (ws : List Str) (top : Fr) (rest : List Fr) (i : Nat) (hok : ∀ f ∈ top :: rest, f.okF) (hw : stW (top :: rest) = ws.take i) : SA ws i (stepR ws top rest i) (stepB ws ((top :: rest).map absF) i) := by
  have hT := hok top List.mem_cons_self
  have hR : ∀ f ∈ rest, f.okF := fun f hf => hok f (List.mem_cons_of_mem _ hf)
  have eB : (top :: rest).map absF = (cap top.o, top.ds.length) :: rest.map absF := rfl
  rw [eB]
  cases hx : ws[i]? with
  | none =>
    simp only [stepR, stepB, hx]
    exact .bad i
  | some w =>
    have hlt := get_lt hx
    have tk := take_get hx
    simp only [stepR, stepB, hx]
    by_cases hc : w = wC ∧ top.whole = true
    · obtain ⟨rfl, hwh⟩ := hc
      have nb : ¬ ((cnt wC).isSome = true ∧ roomN (cap top.o) top.ds.length = true) := fun q => by rw [cnt_wC] at q; exact absurd q.1 (by decide)
      have hw2 : wholeN (cap top.o) top.ds.length = true := hwh
      have wT := words_told top
      have oT := ok_told hT hwh
      have stw : stW rest ++ top.told.words = ws.take (i + 1) := by
        rw [wT, tk, ← hw]
        show stW rest ++ (opens top.o ++ wordsL top.ds ++ [wC]) = stW rest ++ (opens top.o ++ wordsL top.ds) ++ [wC]
        simp [List.append_assoc]
      rw [if_pos ⟨rfl, hwh⟩, if_neg nb, if_pos ⟨rfl, hw2⟩]
      cases rest with
      | nil => exact .fin _ stw oT hlt
      | cons f r =>
        have e : (match (f :: r).map absF with
          | [] => ([] : List LF)
          | (c', k') :: r => (c', k' + 1) :: r) = (((⟨f.o, f.ds ++ [top.told]⟩ : Fr) :: r).map absF) := by
          show (cap f.o, f.ds.length + 1) :: r.map absF = (cap f.o, (f.ds ++ [top.told]).length) :: r.map absF
          simp
        rw [e]
        have hf := hR f List.mem_cons_self
        refine .go _ _ (by simp) (fun g hg => ?_) ?_ (Nat.lt_succ_self i) hlt
        · rcases List.mem_cons.mp hg with rfl | hg
          · refine ⟨hf.1, ?_⟩
            show okD (f.ds ++ [top.told]) = true
            rw [okD_append, okD_one, hf.2, oT]
            rfl
          · exact hR g (List.mem_cons_of_mem _ hg)
        · rw [← stw]
          show stW r ++ (opens f.o ++ wordsL (f.ds ++ [top.told])) = (stW r ++ (opens f.o ++ wordsL f.ds)) ++ top.told.words
          rw [wordsL_append, wordsL_one]
          simp [List.append_assoc]
    · have hc2 : ¬ (w = wC ∧ wholeN (cap top.o) top.ds.length = true) := hc
      rw [if_neg hc]
      cases hr : top.room with
      | false =>
        have hr2 : roomN (cap top.o) top.ds.length = false := hr
        have hn2 : ¬ roomN (cap top.o) top.ds.length = true := by rw [hr2]; decide
        rw [if_pos rfl, if_neg (fun q => hn2 q.2), if_neg hc2, if_neg (fun q => hn2 q.1), if_neg (fun q => hn2 q.1)]
        exact .bad i
      | true =>
        have hr2 : roomN (cap top.o) top.ds.length = true := hr
        rw [if_neg Bool.noConfusion]
        have bump : ∀ (o : Option Str) (l : List Str), (∀ w, o = some w → (cnt w).isSome = true) → opens o = l → l.length + i ≤ ws.length → ws.take (i + l.length) = ws.take i ++ l → 0 < l.length →
            SA ws i (.go ((⟨o, []⟩ : Fr) :: top :: rest) (i + l.length)) (.go ((((⟨o, []⟩ : Fr) :: top :: rest) : List Fr).map absF) (i + l.length)) := fun o l h1 h2 h3 h4 h5 => by
          refine .go _ _ (by simp) (fun g hg => ?_) ?_ (by omega) (by omega)
          · rcases List.mem_cons.mp hg with rfl | hg
            · exact ⟨h1, rfl⟩
            · exact hok g hg
          · rw [h4, ← hw, ← h2]
            show stW (top :: rest) ++ (opens o ++ wordsL []) = _
            simp [wordsL]
        by_cases hn : (cnt w).isSome = true
        · rw [if_pos (show (cnt w).isSome = true ∧ roomN (cap top.o) top.ds.length = true from ⟨hn, hr2⟩)]
          rw [openAt_named hx hn]
          cases hy : ws[i + 1]? with
          | none =>
            rw [if_neg (show ¬ ((none : Option Str) = some wO) from fun q => by cases q)]
            exact .bad (i + 1)
          | some y =>
            by_cases hz : y = wO
            · subst hz
              rw [if_pos (show (some wO : Option Str) = some wO from rfl)]
              show SA ws i (onOpen top rest i w (if wO = wO then Op.opened (some w) (i + 2) else Op.bad (i + 1))) _
              rw [if_pos (show wO = wO from rfl)]
              have z := bump (some w) [w, wO] (fun v q => by cases q; exact hn) rfl (by have := get_lt hy; simp; omega) (by rw [show i + [w, wO].length = i + 1 + 1 from rfl, take_get hy, tk]; simp) (by simp)
              have e : (cnt w, 0) = absF ⟨some w, []⟩ := by
                unfold absF
                rw [cap_some hn]
                rfl
              rw [e]
              exact z
            · rw [if_neg (show ¬ ((some y : Option Str) = some wO) from fun q => hz (Option.some.inj q))]
              show SA ws i (onOpen top rest i w (if y = wO then Op.opened (some w) (i + 2) else Op.bad (i + 1))) _
              rw [if_neg hz]
              exact .bad (i + 1)
        · rw [if_neg (show ¬ ((cnt w).isSome = true ∧ roomN (cap top.o) top.ds.length = true) from fun q => hn q.1), if_neg hc2]
          rw [openAt_else hx hn]
          by_cases ho : w = wO
          · subst ho
            rw [if_pos (show wO = wO ∧ false = false from ⟨rfl, rfl⟩), if_pos (show roomN (cap top.o) top.ds.length = true ∧ wO = wO from ⟨hr2, rfl⟩)]
            exact bump none [wO] (fun v q => by cases q) rfl (by simp; omega) tk (by simp)
          · rw [if_neg (show ¬ (w = wO ∧ false = false) from fun q => ho q.1), if_neg (show ¬ (roomN (cap top.o) top.ds.length = true ∧ w = wO) from fun q => ho q.2)]
            cases hp : isPlain w with
            | false =>
              rw [if_neg (show ¬ (roomN (cap top.o) top.ds.length = true ∧ false = true) from fun q => Bool.noConfusion q.2)]
              show SA ws i (if isPlain w = true then _ else _) _
              rw [hp, if_neg Bool.noConfusion]
              exact .bad i
            | true =>
              rw [if_pos (show roomN (cap top.o) top.ds.length = true ∧ true = true from ⟨hr2, rfl⟩)]
              show SA ws i (if isPlain w = true then _ else _) _
              rw [hp, if_pos rfl]
              obtain ⟨v1, v2⟩ := plain_value hp
              have e : (cap top.o, top.ds.length + 1) :: rest.map absF = ((⟨top.o, top.ds ++ [valueOf w]⟩ : Fr) :: rest).map absF := by
                show _ = (cap top.o, (top.ds ++ [valueOf w]).length) :: rest.map absF
                simp
              rw [e]
              refine .go _ _ (by simp) (fun g hg => ?_) ?_ (Nat.lt_succ_self i) hlt
              · rcases List.mem_cons.mp hg with rfl | hg
                · refine ⟨hT.1, ?_⟩
                  show okD (top.ds ++ [valueOf w]) = true
                  rw [okD_append, okD_one, hT.2, v2]
                  rfl
                · exact hR g hg
              · rw [tk, ← hw]
                show stW rest ++ (opens top.o ++ wordsL (top.ds ++ [valueOf w])) = stW rest ++ (opens top.o ++ wordsL top.ds) ++ [w]
                rw [wordsL_append, wordsL_one, v1]
                simp [List.append_assoc]

/-- what a run's end says of the law's machine -/
theorem agree (ws : List Str) : ∀ (n : Nat) (st : List Fr) (i m : Nat), st ≠ [] → (∀ f ∈ st, f.okF) → stW st = ws.take i → i ≤ ws.length → ws.length < n + i → ws.length < m + i →
    match runR ws n st i with
    | .bad k => runB ws m (st.map absF) i = some k
    | .fin d k => (runB ws m (st.map absF) i = if k < ws.length then some k else none) ∧ d.words = ws.take k ∧ d.ok = true
    | .go _ _ => False := by
  intro n
  induction n with
  | zero =>
    intro st i m _ _ _ h1 h2 _
    omega
  | succ n ih =>
    intro st i m hne hok hw hi hn hm
    cases st with
    | nil => exact absurd rfl hne
    | cons top rest =>
      obtain ⟨m, rfl⟩ : ∃ m', m = m' + 1 := ⟨m - 1, by omega⟩
      have s := step_agree ws top rest i hok hw
      have eR : runR ws (n + 1) (top :: rest) i = (match stepR ws top rest i with
        | .go st' i' => runR ws n st' i'
        | r => r) := rfl
      have eB : runB ws (m + 1) ((top :: rest).map absF) i = (match stepB ws ((top :: rest).map absF) i with
        | .ret r => r
        | .go l k => runB ws m l k) := rfl
      rw [eR, eB]
      generalize stepR ws top rest i = r at s ⊢
      generalize stepB ws ((top :: rest).map absF) i = b at s ⊢
      cases s with
      | bad k => rfl
      | fin d h ho hfin =>
        refine ⟨?_, h, ho⟩
        obtain ⟨m, rfl⟩ : ∃ m', m = m' + 1 := ⟨m - 1, by omega⟩
        show (match stepB ws [] (i + 1) with
          | .ret r => r
          | .go l k => runB ws m l k) = _
        cases hy : ws[i + 1]? with
        | none =>
          simp only [stepB, hy]
          rw [if_pos (Nat.succ_pos i), if_neg (fun q => by rw [List.getElem?_eq_none_iff] at hy; omega)]
        | some y =>
          simp only [stepB, hy]
          rw [if_pos (Nat.succ_pos i), if_pos (get_lt hy)]
      | go st k h1 h2 h3 h4 h5 => exact ih st k m h1 h2 h3 h5 (by omega) (by omega)

/-- THE READING, and what the law says of it -/
theorem read_agree {ws : List Str} : match readW ws with
    | .bad k => badW ws = some k
    | .ok d => badW ws = none ∧ d.words = ws ∧ d.ok = true := by
  have eB : badW ws = (match stepB ws [] 0 with
    | .ret r => r
    | .go l k => runB ws ws.length l k) := rfl
  rw [eB]
  cases hx : ws[0]? with
  | none =>
    have e1 : openAt ws 0 true = .bad 0 := by
      unfold openAt
      rw [hx]
    have e2 : stepB ws [] 0 = .ret (some 0) := by
      unfold stepB
      rw [hx]
      rfl
    unfold readW
    rw [e1, e2]
    rfl
  | some w =>
    have hlt := get_lt hx
    have tk := take_get hx
    by_cases hn : (cnt w).isSome = true
    · have e2 : stepB ws [] 0 = if ws[0 + 1]? = some wO then .go [(cnt w, 0)] (0 + 2) else .ret (some (0 + 1)) := by
        unfold stepB
        rw [hx]
        show (if 0 > 0 then _ else _) = _
        rw [if_neg (Nat.lt_irrefl 0), if_pos hn]
      unfold readW
      rw [e2, openAt_named hx hn]
      cases hy : ws[0 + 1]? with
      | none =>
        rw [if_neg (show ¬ ((none : Option Str) = some wO) from fun q => by cases q)]
        rfl
      | some y =>
        by_cases hz : y = wO
        · subst hz
          rw [if_pos (show (some wO : Option Str) = some wO from rfl)]
          show (match onFirst ws (if wO = wO then Op.opened (some w) (0 + 2) else Op.bad (0 + 1)) with
            | .bad k => runB ws ws.length [(cnt w, 0)] (0 + 2) = some k
            | .ok d => runB ws ws.length [(cnt w, 0)] (0 + 2) = none ∧ d.words = ws ∧ d.ok = true)
          rw [if_pos (show wO = wO from rfl)]
          have e : [(cnt w, 0)] = ([(⟨some w, []⟩ : Fr)] : List Fr).map absF := by
            show _ = [(cap (some w), 0)]
            rw [cap_some hn]
          rw [e]
          have hle := get_lt hy
          have a := agree ws (ws.length + 1) [⟨some w, []⟩] (0 + 2) ws.length (by simp) (fun f hf => by
              rw [List.mem_singleton.mp hf]
              exact ⟨fun v q => by cases q; exact hn, rfl⟩) (by
              show [] ++ ([w, wO] ++ wordsL []) = ws.take (0 + 1 + 1)
              rw [take_get hy, tk]
              simp [wordsL]) (by omega) (by omega) (by omega)
          show (match ofRun ws (runR ws (ws.length + 1) [⟨some w, []⟩] (0 + 2)) with
            | .bad k => runB ws ws.length (([(⟨some w, []⟩ : Fr)] : List Fr).map absF) (0 + 2) = some k
            | .ok d => runB ws ws.length (([(⟨some w, []⟩ : Fr)] : List Fr).map absF) (0 + 2) = none ∧ d.words = ws ∧ d.ok = true)
          generalize runR ws (ws.length + 1) [⟨some w, []⟩] (0 + 2) = rr at a ⊢
          cases rr with
          | bad k => exact a
          | go st k => exact a.elim
          | fin d k =>
            obtain ⟨a1, a2, a3⟩ := a
            have eo : ofRun ws (.fin d k) = if k < ws.length then .bad k else .ok d := rfl
            rw [eo]
            by_cases hk : k < ws.length
            · rw [if_pos hk] at a1 ⊢
              exact a1
            · rw [if_neg hk] at a1 ⊢
              exact ⟨a1, by rw [a2, List.take_of_length_le (by omega)], a3⟩
        · rw [if_neg (show ¬ ((some y : Option Str) = some wO) from fun q => hz (Option.some.inj q))]
          show (match onFirst ws (if y = wO then Op.opened (some w) (0 + 2) else Op.bad (0 + 1)) with
            | .bad k => some (0 + 1) = some k
            | .ok d => some (0 + 1) = none ∧ d.words = ws ∧ d.ok = true)
          rw [if_neg hz]
          rfl
    · have e2 : stepB ws [] 0 = .ret (some 0) := by
        unfold stepB
        rw [hx]
        show (if 0 > 0 then _ else _) = _
        rw [if_neg (Nat.lt_irrefl 0), if_neg hn]
      have e1 : openAt ws 0 true = .nope := by
        rw [openAt_else hx hn, if_neg (fun q => by cases q.2)]
      unfold readW
      rw [e1, e2]
      rfl

/-! ### what is written is read -/
def AtW (ws l : List Str) (i : Nat) : Prop := ∀ k x, l[k]? = some x → ws[i + k]? = some x
theorem AtW.app {ws a b : List Str} {i : Nat} (h : AtW ws (a ++ b) i) : AtW ws a i ∧ AtW ws b (i + a.length) :=
  ⟨fun k x e => h k x (by rw [List.getElem?_append_left (get_lt e)]; exact e), fun k x e => by
    have z := h (a.length + k) x (by rw [List.getElem?_append_right (Nat.le_add_right _ _), Nat.add_sub_cancel_left]; exact e)
    rw [Nat.add_assoc]
    exact z⟩
theorem AtW.hd {ws l : List Str} {x : Str} {i : Nat} (h : AtW ws (x :: l) i) : ws[i]? = some x ∧ AtW ws l (i + 1) :=
  ⟨h 0 x rfl, fun k y e => by
    have z := h (k + 1) y (by simpa using e)
    rw [show i + 1 + k = i + (k + 1) by omega]
    exact z⟩
theorem plain_int {i : Int} (h : okI i = true) : isPlain (Str.ofString (toString i)) = true ∧ valueOf (Str.ofString (toString i)) = .int i ∧ cnt (Str.ofString (toString i)) = none ∧ ¬ Str.ofString (toString i) = wO ∧ ¬ Str.ofString (toString i) = wC := by
  obtain ⟨h1, h2⟩ := written_int h
  have all : ∀ c ∈ tl (Str.ofString (toString i)), c = 45 ∨ (48 ≤ c ∧ c ≤ 57) := fun c hc => by
    rw [tl_int] at hc
    split at hc
    · rcases List.mem_cons.mp hc with e | e
      · exact Or.inl e
      · exact Or.inr (numL_digits _ c e)
    · exact Or.inr (numL_digits _ c hc)
  have ne : tl (Str.ofString (toString i)) ≠ [] := fun q => by
    rw [q] at h1
    exact absurd h1 (by decide)
  have no : ∀ (w : Str) (c : Nat), (tl w).head? = some c → ¬ (c = 45 ∨ (48 ≤ c ∧ c ≤ 57)) → ¬ Str.ofString (toString i) = w := fun w c hw hc q => by
    rw [← q] at hw
    exact hc (all c (List.mem_of_mem_head? hw))
  have nN := no wN 110 (by rw [tl_wN]; rfl) (by omega)
  have nT : ∀ q ∈ tbl, ¬ Str.ofString (toString i) = q.1 := by
    have z : ∀ q ∈ tbl, ∃ c, (tl q.1).head? = some c ∧ ¬ (c = 45 ∨ (48 ≤ c ∧ c ≤ 57)) := by
      have z2 : (tbl.all fun q => match (tl q.1).head? with
        | some c => !(decide (c = 45) || (decide (48 ≤ c) && decide (c ≤ 57)))
        | none => false) = true := by decide +kernel
      intro q hq
      have z3 := List.all_eq_true.mp z2 q hq
      cases e : (tl q.1).head? with
      | none => rw [e] at z3; cases z3
      | some c =>
        rw [e] at z3
        refine ⟨c, rfl, fun y => ?_⟩
        simp only [Bool.not_eq_true', Bool.or_eq_false_iff, Bool.and_eq_false_iff, decide_eq_false_iff_not] at z3
        omega
    intro q hq
    obtain ⟨c, c1, c2⟩ := z q hq
    exact no q.1 c c1 c2
  refine ⟨?_, ?_, ?_, no wO 40 (by rw [tl_wO]; rfl) (by omega), no wC 41 (by rw [tl_wC]; rfl) (by omega)⟩
  · unfold isPlain
    rw [h1]
    simp
  · unfold valueOf
    rw [if_neg nN]
    split
    · rename_i r q
      have := all 61 (by rw [q]; simp)
      omega
    · rw [h2]
  · unfold cnt
    rw [List.lookup_eq_none_iff]
    intro q hq
    have := nT q hq
    simp only [beq_iff_eq, bne_iff_ne, ne_eq]
    first | exact this | (simp; exact this)
theorem plain_str {s : Str} (h : okS s = true) : isPlain (wE ++ s) = true ∧ valueOf (wE ++ s) = .str s ∧ cnt (wE ++ s) = none ∧ ¬ (wE ++ s) = wO ∧ ¬ (wE ++ s) = wC := by
  have e : tl (wE ++ s) = 61 :: tl s := by rw [tl_append, tl_wE]; rfl
  have no : ∀ (w : Str), (tl w).head? ≠ some 61 → ¬ (wE ++ s) = w := fun w hw q => by
    rw [← q, e] at hw
    exact hw rfl
  have nN := no wN (by rw [tl_wN]; decide)
  refine ⟨?_, ?_, ?_, no wO (by rw [tl_wO]; decide), no wC (by rw [tl_wC]; decide)⟩
  · unfold isPlain wordL
    rw [e]
    have h2 : (tl s).all isL = true := h
    show (decide _ || (_ || (tl s).all isL)) = true
    rw [h2]
    simp
  · unfold valueOf
    rw [if_neg nN, e]
    show D.str ⟨(tl s).toArray⟩ = _
    rw [mk_tl]
  · unfold cnt
    rw [List.lookup_eq_none_iff]
    intro q hq
    have z2 : (tbl.all fun q => decide ((tl q.1).head? ≠ some 61)) = true := by decide +kernel
    have := no q.1 (of_decide_eq_true (List.all_eq_true.mp z2 q hq))
    simp only [beq_iff_eq, bne_iff_ne, ne_eq]
    first | exact this | (simp; exact this)
theorem plain_non : isPlain wN = true ∧ valueOf wN = .non ∧ cnt wN = none ∧ ¬ wN = wO ∧ ¬ wN = wC := by
  refine ⟨?_, ?_, by decide +kernel, by decide +kernel, by decide +kernel⟩
  · unfold isPlain
    simp
  · unfold valueOf
    rw [if_pos rfl]

/-! the machine goes over the words of a thing -/
theorem run_app (ws : List Str) {top : Fr} {rest st' : List Fr} {i i' n : Nat} (h : stepR ws top rest i = .go st' i') : runR ws (n + 1) (top :: rest) i = runR ws n st' i' := by
  show (match stepR ws top rest i with
    | .go st' i' => runR ws n st' i'
    | r => r) = _
  rw [h]
/-- from here the machine comes there, whatever fuel is left, within so many steps -/
def Goes (ws : List Str) (st : List Fr) (i : Nat) (st' : List Fr) (i' : Nat) : Prop := ∃ k, k ≤ i' - i ∧ i ≤ i' ∧ ∀ n, runR ws (n + k) st i = runR ws n st' i'
theorem Goes.refl {ws : List Str} {st : List Fr} {i : Nat} : Goes ws st i st i := ⟨0, Nat.zero_le _, Nat.le_refl _, fun _ => rfl⟩
theorem Goes.trans {ws : List Str} {a b c : List Fr} {i j k : Nat} (h : Goes ws a i b j) (g : Goes ws b j c k) : Goes ws a i c k := by
  obtain ⟨x, hx, h1, h2⟩ := h
  obtain ⟨y, hy, g1, g2⟩ := g
  refine ⟨y + x, by omega, by omega, fun n => ?_⟩
  rw [← Nat.add_assoc, h2, g2]
theorem Goes.one {ws : List Str} {top : Fr} {rest st' : List Fr} {i i' : Nat} (h : stepR ws top rest i = .go st' i') (hi : i < i') : Goes ws (top :: rest) i st' i' :=
  ⟨1, by omega, by omega, fun n => run_app ws h⟩
theorem step_leaf {ws : List Str} {top : Fr} {rest : List Fr} {i : Nat} {w : Str} (hx : ws[i]? = some w) (hr : top.room = true) (h1 : isPlain w = true) (h3 : cnt w = none) (h4 : ¬ w = wO) (h5 : ¬ w = wC) :
    stepR ws top rest i = .go (⟨top.o, top.ds ++ [valueOf w]⟩ :: rest) (i + 1) := by
  unfold stepR
  rw [hx]
  show (if w = wC ∧ top.whole = true then _ else _) = _
  rw [if_neg (fun q => h5 q.1), hr, if_neg Bool.noConfusion, openAt_else hx (by rw [h3]; decide), if_neg (fun q => h4 q.1)]
  show (if isPlain w = true then _ else _) = _
  rw [if_pos h1]
theorem step_row {ws : List Str} {top : Fr} {rest : List Fr} {i : Nat} (hx : ws[i]? = some wO) (hr : top.room = true) : stepR ws top rest i = .go (⟨none, []⟩ :: top :: rest) (i + 1) := by
  unfold stepR
  rw [hx]
  show (if wO = wC ∧ top.whole = true then _ else _) = _
  rw [if_neg (fun q => wO_ne_wC q.1), hr, if_neg Bool.noConfusion, openAt_else hx (by rw [cnt_wO]; decide), if_pos ⟨rfl, rfl⟩]
  rfl
theorem cnt_ne_wC {w : Str} (h : (cnt w).isSome = true) : ¬ w = wC := fun q => by
  rw [q, cnt_wC] at h
  cases h
theorem step_paper {ws : List Str} {top : Fr} {rest : List Fr} {i : Nat} {w : Str} (hx : ws[i]? = some w) (hy : ws[i + 1]? = some wO) (hn : (cnt w).isSome = true) (hr : top.room = true) : stepR ws top rest i = .go (⟨some w, []⟩ :: top :: rest) (i + 2) := by
  unfold stepR
  rw [hx]
  show (if w = wC ∧ top.whole = true then _ else _) = _
  rw [if_neg (fun q => cnt_ne_wC hn q.1), hr, if_neg Bool.noConfusion, openAt_named hx hn, hy]
  show onOpen top rest i w (if wO = wO then _ else _) = _
  rw [if_pos (show wO = wO from rfl)]
  rfl
theorem step_shut {ws : List Str} {top f : Fr} {r : List Fr} {i : Nat} (hx : ws[i]? = some wC) (hw : top.whole = true) : stepR ws top (f :: r) i = .go (⟨f.o, f.ds ++ [top.told]⟩ :: r) (i + 1) := by
  unfold stepR
  rw [hx]
  show (if wC = wC ∧ top.whole = true then _ else _) = _
  rw [if_pos ⟨rfl, hw⟩]
theorem step_end {ws : List Str} {top : Fr} {i : Nat} (hx : ws[i]? = some wC) (hw : top.whole = true) : stepR ws top [] i = .fin top.told (i + 1) := by
  unfold stepR
  rw [hx]
  show (if wC = wC ∧ top.whole = true then _ else _) = _
  rw [if_pos ⟨rfl, hw⟩]
/-- room for more: of a row always, of a paper while it lacks parts -/
def RoomFor (o : Option Str) (have_ more : Nat) : Prop := ∀ w, o = some w → cnt w = some (have_ + more)
theorem RoomFor.room {o : Option Str} {ds : List D} {m : Nat} (h : RoomFor o ds.length (m + 1)) : (⟨o, ds⟩ : Fr).room = true := by
  unfold Fr.room roomN cap
  cases o with
  | none => rfl
  | some w =>
    show decide (ds.length < (cnt w).getD 0) = true
    rw [h w rfl]
    show decide (ds.length < ds.length + (m + 1)) = true
    exact decide_eq_true (by omega)
theorem RoomFor.whole {o : Option Str} {ds : List D} (h : RoomFor o ds.length 0) : (⟨o, ds⟩ : Fr).whole = true := by
  unfold Fr.whole wholeN cap
  cases o with
  | none => rfl
  | some w =>
    show decide (ds.length = (cnt w).getD 0) = true
    rw [h w rfl]
    exact decide_eq_true rfl
mutual
theorem goes_d (ws : List Str) : ∀ (d : D) (o : Option Str) (ds : List D) (rest : List Fr) (i : Nat), d.ok = true → (⟨o, ds⟩ : Fr).room = true → AtW ws d.words i →
    Goes ws (⟨o, ds⟩ :: rest) i (⟨o, ds ++ [d]⟩ :: rest) (i + d.words.length)
  | .non, o, ds, rest, i, _, hr, ha => by
    obtain ⟨h1, h2, h3, h4, h5⟩ := plain_non
    have e := step_leaf (rest := rest) ha.hd.1 hr h1 h3 h4 h5
    rw [h2] at e
    exact .one e (Nat.lt_succ_self i)
  | .int k, o, ds, rest, i, hk, hr, ha => by
    obtain ⟨h1, h2, h3, h4, h5⟩ := plain_int hk
    have e := step_leaf (rest := rest) ha.hd.1 hr h1 h3 h4 h5
    rw [h2] at e
    exact .one e (Nat.lt_succ_self i)
  | .str k, o, ds, rest, i, hk, hr, ha => by
    obtain ⟨h1, h2, h3, h4, h5⟩ := plain_str hk
    have e := step_leaf (rest := rest) ha.hd.1 hr h1 h3 h4 h5
    rw [h2] at e
    exact .one e (Nat.lt_succ_self i)
  | .tup es, o, ds, rest, i, hk, hr, ha => by
    obtain ⟨a1, a2⟩ := ha.hd
    obtain ⟨a3, a4⟩ := a2.app
    have g1 := Goes.one (step_row (rest := rest) a1 hr) (Nat.lt_succ_self i)
    have g2 := goes_l ws es none [] (⟨o, ds⟩ :: rest) (i + 1) hk (fun w q => by cases q) a3
    have rw0 : RoomFor none ([] ++ es).length 0 := fun w q => by cases q
    have g3 := Goes.one (step_shut (f := ⟨o, ds⟩) (r := rest) a4.hd.1 rw0.whole) (Nat.lt_succ_self _)
    have g := (g1.trans g2).trans g3
    have el : i + (D.tup es).words.length = i + 1 + (wordsL es).length + 1 := by
      simp [D.words]
      omega
    rw [el]
    exact g
  | .bl _, o, ds, rest, i, hk, hr, ha => by cases hk
  | .dct, o, ds, rest, i, hk, hr, ha => by cases hk
  | .pap w es, o, ds, rest, i, hk, hr, ha => by
    have hk : (decide (cnt w = some es.length) && okD es) = true := hk
    simp only [Bool.and_eq_true, decide_eq_true_eq] at hk
    obtain ⟨hc, hk⟩ := hk
    have hn : (cnt w).isSome = true := by
      rw [hc]
      rfl
    obtain ⟨a1, a2⟩ := ha.hd
    obtain ⟨b1, b2⟩ := a2.hd
    obtain ⟨a3, a4⟩ := b2.app
    have g1 := Goes.one (step_paper (rest := rest) a1 b1 hn hr) (by omega : i < i + 2)
    have g2 := goes_l ws es (some w) [] (⟨o, ds⟩ :: rest) (i + 2) hk (fun v q => by
      cases q
      rw [hc]
      simp) a3
    have rw0 : RoomFor (some w) ([] ++ es).length 0 := fun v q => by
      cases q
      rw [hc]
      simp
    have g3 := Goes.one (step_shut (f := ⟨o, ds⟩) (r := rest) a4.hd.1 rw0.whole) (Nat.lt_succ_self _)
    have g := (g1.trans g2).trans g3
    have el : i + (D.pap w es).words.length = i + 2 + (wordsL es).length + 1 := by
      simp [D.words]
      omega
    rw [el]
    exact g
theorem goes_l (ws : List Str) : ∀ (es : List D) (o : Option Str) (ds : List D) (rest : List Fr) (i : Nat), okD es = true → RoomFor o ds.length es.length → AtW ws (wordsL es) i →
    Goes ws (⟨o, ds⟩ :: rest) i (⟨o, ds ++ es⟩ :: rest) (i + (wordsL es).length)
  | [], o, ds, rest, i, _, _, _ => by
    rw [List.append_nil]
    exact Goes.refl
  | d :: es, o, ds, rest, i, hk, hr, ha => by
    have hk : (d.ok && okD es) = true := hk
    simp only [Bool.and_eq_true] at hk
    obtain ⟨a1, a2⟩ := AtW.app (a := d.words) (b := wordsL es) ha
    have hr1 : RoomFor o ds.length (es.length + 1) := by simpa using hr
    have g1 := goes_d ws d o ds rest i hk.1 hr1.room a1
    have g2 := goes_l ws es o (ds ++ [d]) rest (i + d.words.length) hk.2 (fun w q => by
      rw [hr1 w q]
      simp
      omega) a2
    have g := g1.trans g2
    rw [List.append_assoc] at g
    have el : i + (wordsL (d :: es)).length = i + d.words.length + (wordsL es).length := by
      show i + (d.words ++ wordsL es).length = _
      rw [List.length_append]
      omega
    rw [el]
    exact g
end
/-- WHAT IS WRITTEN IS READ -/
theorem read_words {w : Str} {es : List D} (h : (D.pap w es).ok = true) : readW (D.pap w es).words = .ok (.pap w es) := by
  have hk : (decide (cnt w = some es.length) && okD es) = true := h
  simp only [Bool.and_eq_true, decide_eq_true_eq] at hk
  obtain ⟨hc, hk⟩ := hk
  have hn : (cnt w).isSome = true := by
    rw [hc]
    rfl
  have ha : AtW (D.pap w es).words (D.pap w es).words 0 := fun k x e => by simpa using e
  obtain ⟨a1, a2⟩ := ha.hd
  obtain ⟨b1, b2⟩ := a2.hd
  obtain ⟨a3, a4⟩ := b2.app
  have rw0 : RoomFor (some w) ([] ++ es).length 0 := fun v q => by
    cases q
    rw [hc]
    simp
  have eL : (D.pap w es).words.length = (wordsL es).length + 3 := by simp [D.words]
  obtain ⟨k, h1, _, h3⟩ := goes_l (D.pap w es).words es (some w) [] [] 2 hk (fun v q => by
      cases q
      rw [hc]
      simp) a3
  have eo : openAt (D.pap w es).words 0 true = .opened (some w) 2 := by
    rw [openAt_named a1 hn, b1]
    show (if wO = wO then _ else _) = _
    rw [if_pos (show wO = wO from rfl)]
  have ef : runR (D.pap w es).words ((D.pap w es).words.length + 1) [⟨some w, []⟩] 2 = .fin (.pap w es) (2 + (wordsL es).length + 1) := by
    obtain ⟨n, hn⟩ : ∃ n, (D.pap w es).words.length + 1 = n + 1 + k := ⟨(D.pap w es).words.length - k, by omega⟩
    rw [hn, h3 (n + 1)]
    show (match stepR (D.pap w es).words ⟨some w, [] ++ es⟩ [] (2 + (wordsL es).length) with
      | .go st' i' => runR (D.pap w es).words n st' i'
      | r => r) = _
    rw [step_end a4.hd.1 rw0.whole]
    rfl
  unfold readW
  rw [eo]
  show ofRun _ (runR _ _ [⟨some w, []⟩] 2) = _
  rw [ef]
  show (if _ then _ else _) = _
  rw [if_neg (by omega)]
end K91
set_option Elab.async false
set_option linter.all false
set_option maxRecDepth 100000
set_option maxHeartbeats 2000000
/-! K91, G: data on the heap; kept. -/
namespace K91
open PySem PySem.Spec PyProof.Rows L2

/-! ### the classes by their words -/
def pcAt (w : Str) : Option PC := pcs.find? fun c => decide (c.word = w)
def clsAt (w : Str) : Addr := match pcAt w with
  | some c => c.at_
  | none => if w = "paper" then 274 else 295
def attrsAt (w : Str) : List Str := match pcAt w with
  | some c => c.attrs
  | none => []
def denAt (w : Str) : Bool := match pcAt w with
  | some c => c.den
  | none => if w = "paper" then false else true
/-- a word of a class -/
def Kn (w : Str) (n : Nat) : Prop := (∃ c, pcAt w = some c ∧ n = c.attrs.length) ∨ w = "paper" ∨ w = "denial"
/-- the attributes of a paper, as they are stored -/
def fsOf (w : Str) (t : Addr) (vs : List V) : List (Str × V) := (("word" : Str), V.str w) :: (("parts" : Str), V.ref t) :: (attrsAt w).zip vs

/-! ### data on the heap -/
mutual
def Rep (H : Hp) : D → V → Prop
  | .non, v => v = .non
  | .int i, v => v = .int i
  | .str s, v => v = .str s
  | .bl b, v => v = .bl b
  | .dct, v => ∃ a, v = .ref a ∧ H a = some (.dK [])
  | .tup ds, v => ∃ a vs, v = .ref a ∧ H a = some (.tup vs) ∧ RepL H ds vs
  | .pap w ds, v => ∃ a dx t vs, v = .ref a ∧ H a = some (.ins (clsAt w) dx (fsOf w t vs)) ∧ H t = some (.tup vs) ∧ Kn w ds.length ∧ RepL H ds vs
def RepL (H : Hp) : List D → List V → Prop
  | [], vs => vs = []
  | d :: ds, vs => ∃ v r, vs = v :: r ∧ Rep H d v ∧ RepL H ds r
end
/-- what data are made of; such objects never change -/
def Solid : HO → Prop
  | .tup _ => True
  | .dK kvs => kvs = []
  | .ins C _ fs => ∃ w t vs, C = clsAt w ∧ fs = fsOf w t vs ∧ (attrsAt w).length ≤ vs.length
  | _ => False
/-- what data are made of stays -/
def Sol (H H' : Hp) : Prop := ∀ a o, H a = some o → Solid o → H' a = some o
theorem Sol.refl (H : Hp) : Sol H H := fun _ _ h _ => h
theorem Sol.trans {H H1 H2 : Hp} (a : Sol H H1) (b : Sol H1 H2) : Sol H H2 := fun x o h s => b x o (a x o h s) s
theorem Sol.of {H H' : Hp} (h : Same H H') : Sol H H' := fun a o e _ => h a o e
theorem Sol.mut {H : Hp} {m : Addr} {o o' : HO} (h : H m = some o) (n : ¬ Solid o) : Sol H (upd H m o') := fun a u e s => by
  have ne : a ≠ m := fun z => by
    subst z
    rw [h] at e
    cases e
    exact n s
  rw [upd_ne ne]
  exact e
theorem Sol.new {H : Hp} {p : Addr} {o : HO} (h : H p = none) : Sol H (upd H p o) := fun a u e _ => by
  rw [upd_ne (ne_of_none e h)]
  exact e
theorem same_new {H : Hp} {p : Addr} {o : HO} (h : H p = none) : Same H (upd H p o) := fun a u e => by
  rw [upd_ne (ne_of_none e h)]
  exact e
theorem lst_not {xs : List V} : ¬ Solid (.lst xs) := fun h => h
theorem RepL.len {H : Hp} : ∀ {ds : List D} {vs : List V}, RepL H ds vs → vs.length = ds.length
  | [], _, e => by
    have e : _ = [] := e
    rw [e]
    rfl
  | d :: ds, _, ⟨v, r, e, _, b⟩ => by
    rw [e, List.length_cons, List.length_cons, RepL.len b]
theorem Kn.le {w : Str} {n : Nat} (h : Kn w n) : (attrsAt w).length ≤ n := by
  unfold attrsAt
  rcases h with ⟨c, z, e⟩ | h | h
  · rw [z, e]
    exact Nat.le_refl _
  · rw [h, show pcAt "paper" = none by decide +kernel]
    exact Nat.zero_le _
  · rw [h, show pcAt "denial" = none by decide +kernel]
    exact Nat.zero_le _
mutual
theorem Rep.mono {H H' : Hp} (h : Sol H H') : ∀ (d : D) (v : V), Rep H d v → Rep H' d v
  | .non, _, e => e
  | .int _, _, e => e
  | .str _, _, e => e
  | .bl _, _, e => e
  | .dct, _, ⟨a, e1, e2⟩ => ⟨a, e1, h _ _ e2 rfl⟩
  | .tup ds, _, ⟨a, vs, e1, e2, r⟩ => ⟨a, vs, e1, h _ _ e2 True.intro, RepL.mono h ds vs r⟩
  | .pap w ds, _, ⟨a, dx, t, vs, e1, e2, e3, k, r⟩ => ⟨a, dx, t, vs, e1, h _ _ e2 ⟨w, t, vs, rfl, rfl, by rw [RepL.len r]; exact k.le⟩, h _ _ e3 True.intro, k, RepL.mono h ds vs r⟩
theorem RepL.mono {H H' : Hp} (h : Sol H H') : ∀ (ds : List D) (vs : List V), RepL H ds vs → RepL H' ds vs
  | [], _, e => e
  | d :: ds, _, ⟨v, r, e, a, b⟩ => ⟨v, r, e, Rep.mono h d v a, RepL.mono h ds r b⟩
end
theorem RepL.append {H : Hp} : ∀ {a b : List D} {vs us : List V}, RepL H a vs → RepL H b us → RepL H (a ++ b) (vs ++ us)
  | [], b, vs, us, h, g => by
    have e : vs = [] := h
    rw [e]
    exact g
  | d :: a, b, _, us, ⟨v, r, e, h1, h2⟩, g => ⟨v, r ++ us, by rw [e]; rfl, h1, RepL.append h2 g⟩
theorem RepL.get {H : Hp} : ∀ {ds : List D} {vs : List V} {i : Nat} {v : V}, RepL H ds vs → vs[i]? = some v → ∃ d, ds[i]? = some d ∧ Rep H d v
  | [], _, i, v, h, e => by
    have z : _ = [] := h
    rw [z] at e
    simp at e
  | d :: ds, _, 0, v, ⟨u, r, z, h1, h2⟩, e => by
    rw [z] at e
    have e : u = v := by simpa using e
    exact ⟨d, rfl, by rw [← e]; exact h1⟩
  | d :: ds, _, i + 1, v, ⟨u, r, z, h1, h2⟩, e => by
    rw [z] at e
    obtain ⟨d', e1, e2⟩ := RepL.get (i := i) h2 (by simpa using e)
    exact ⟨d', by simpa using e1, e2⟩
theorem RepL.one {H : Hp} {d : D} {v : V} (h : Rep H d v) : RepL H [d] [v] := ⟨v, [], rfl, h, rfl⟩
/-! ### sizes -/
mutual
def D.sz : D → Nat
  | .tup ds => szL ds + 1
  | .pap _ ds => szL ds + 1
  | _ => 1
def szL : List D → Nat
  | [] => 0
  | d :: ds => d.sz + szL ds
end
theorem sz_pos (d : D) : 0 < d.sz := by
  cases d <;> simp [D.sz]
theorem len_szL : ∀ ds : List D, ds.length ≤ szL ds
  | [] => Nat.le_refl _
  | d :: ds => by
    have h1 := len_szL ds
    have h2 := sz_pos d
    show ds.length + 1 ≤ d.sz + szL ds
    omega
theorem szL_get : ∀ {ds : List D} {i : Nat} {d : D}, ds[i]? = some d → d.sz ≤ szL ds
  | [], i, d, e => by simp at e
  | x :: ds, 0, d, e => by
    have e : x = d := by simpa using e
    rw [← e]
    exact Nat.le_add_right _ _
  | x :: ds, i + 1, d, e => Nat.le_trans (szL_get (i := i) (by simpa using e)) (Nat.le_add_left _ _)
theorem szL_append : ∀ a b : List D, szL (a ++ b) = szL a + szL b
  | [], b => by simp [szL]
  | d :: a, b => by
    show d.sz + szL (a ++ b) = d.sz + szL a + szL b
    rw [szL_append a b, Nat.add_assoc]

/-! ### is it a row? -/
def rowT : List String := ["list", "tuple"]
section
variable {K : PySem.W.Frag} {mg : Str → Option Value}
theorem pc_mem {w : Str} {c : PC} (h : pcAt w = some c) : c ∈ pcs ∧ c.word = w := by
  unfold pcAt at h
  exact ⟨List.mem_of_find?_eq_some h, of_decide_eq_true (List.find?_some (p := fun c : PC => decide (c.word = w)) h)⟩
/-- the class of a word, whichever -/
theorem Ctx.pap (T : Ctx K mg) {w : Str} {n : Nat} (h : Kn w n) : ∃ x, Pap K (clsAt w) x (denAt w) (attrsAt w) := by
  cases e : pcAt w with
  | some c =>
    have z := pap_of (ba (T.a6 c (pc_mem e).1)).1
    unfold clsAt denAt attrsAt
    rw [e]
    exact ⟨_, z⟩
  | none =>
    unfold clsAt denAt attrsAt
    rw [e]
    rcases h with ⟨c, z, _⟩ | h | h
    · rw [e] at z; cases z
    · rw [h]
      exact ⟨_, pap_of T.a7⟩
    · rw [h]
      exact ⟨_, pap_of T.a9⟩
/-- the type of a datum -/
def D.ty : D → Value
  | .non => .type "NoneType"
  | .int _ => .type "int"
  | .str _ => .type "str"
  | .bl _ => .type "bool"
  | .dct => .type "dict"
  | .tup _ => .type "tuple"
  | .pap w _ => .ref (clsAt w)
theorem Rep.tyx (T : Ctx K mg) {H : Hp} : ∀ {d : D} {v : V}, Rep H d v → TyX K H v d.ty
  | .non, _, e => by
    have e : _ = V.non := e
    rw [e]
    exact .base .non
  | .int i, _, e => by
    have e : _ = V.int i := e
    rw [e]
    exact .base (.int i)
  | .str s, _, e => by
    have e : _ = V.str s := e
    rw [e]
    exact .base (.str s)
  | .bl b, _, e => by
    have e : _ = V.bl b := e
    rw [e]
    exact .base (.bl b)
  | .dct, _, ⟨a, e1, e2⟩ => by
    rw [e1]
    exact .base (.dK e2)
  | .tup ds, _, ⟨a, vs, e1, e2, r⟩ => by
    rw [e1]
    exact .base (.tup e2)
  | .pap w ds, _, ⟨a, dx, t, vs, e1, e2, e3, k, r⟩ => by
    rw [e1]
    obtain ⟨x, p⟩ := T.pap k
    exact ty_of T p.cl p.ty e2
/-- is a datum of a built-in type -/
def D.isT (t : String) : D → Bool
  | .non => false
  | .int _ => t == "int"
  | .str _ => t == "str"
  | .bl _ => t == "bool" || t == "int"
  | .dct => t == "dict"
  | .tup _ => t == "tuple"
  | .pap _ _ => false
theorem kit_d (T : Ctx K mg) {H : Hp} {d : D} {v : V} (h : Rep H d v) {t : String} (ht : t ∈ (["list", "tuple", "int", "bool", "str", "dict"] : List String)) : PySem.W.kitOne K d.ty (.type t) = some (d.isT t) := by
  have key : ∀ a : String, a ∈ (["NoneType", "int", "str", "bool", "dict", "tuple"] : List String) → (["list", "tuple", "int", "bool", "str", "dict"] : List String).all (fun t => decide (kitB a t = some (decide (a = t) || (decide (a = "bool") && decide (t = "int"))))) = true := by
    decide +kernel
  have fin : ∀ a : String, a ∈ (["NoneType", "int", "str", "bool", "dict", "tuple"] : List String) → PySem.W.kitOne K (.type a) (.type t) = some (decide (a = t) || (decide (a = "bool") && decide (t = "int"))) := fun a ha =>
    kit_ty (of_decide_eq_true (List.all_eq_true.mp (key a ha) t ht))
  have ht' : t = "list" ∨ t = "tuple" ∨ t = "int" ∨ t = "bool" ∨ t = "str" ∨ t = "dict" := by simpa using ht
  cases d with
  | pap w ds =>
    obtain ⟨a, dx, tt, vs, e1, e2, e3, k, r⟩ := h
    obtain ⟨x, p⟩ := T.pap k
    have z : (t, false) ∈ isiL := by
      rcases ht' with q | q | q | q | q | q <;> subst q <;> decide
    exact isi_of p.isi z
  | non =>
    refine (fin "NoneType" (by decide)).trans ?_
    rcases ht' with q | q | q | q | q | q <;> subst q <;> rfl
  | int i =>
    refine (fin "int" (by decide)).trans ?_
    rcases ht' with q | q | q | q | q | q <;> subst q <;> rfl
  | str i =>
    refine (fin "str" (by decide)).trans ?_
    rcases ht' with q | q | q | q | q | q <;> subst q <;> rfl
  | bl i =>
    refine (fin "bool" (by decide)).trans ?_
    rcases ht' with q | q | q | q | q | q <;> subst q <;> rfl
  | dct =>
    refine (fin "dict" (by decide)).trans ?_
    rcases ht' with q | q | q | q | q | q <;> subst q <;> rfl
  | tup i =>
    refine (fin "tuple" (by decide)).trans ?_
    rcases ht' with q | q | q | q | q | q <;> subst q <;> rfl
end
end K91
set_option Elab.async false
set_option linter.all false
set_option maxRecDepth 100000
set_option maxHeartbeats 2000000
/-! K91, K: kept, Paper.__init__. -/
namespace K91
open PySem PySem.Spec PyProof.Rows L2
mutual
def D.dep : D → Nat
  | .tup ds => depL ds + 1
  | _ => 0
def depL : List D → Nat
  | [] => 0
  | d :: ds => max d.dep (depL ds)
end
theorem depL_get : ∀ {ds : List D} {i : Nat} {d : D}, ds[i]? = some d → d.dep ≤ depL ds
  | [], i, d, e => by simp at e
  | x :: ds, 0, d, e => by
    have e : x = d := by simpa using e
    rw [← e]
    exact Nat.le_max_left _ _
  | x :: ds, i + 1, d, e => Nat.le_trans (depL_get (i := i) (by simpa using e)) (Nat.le_max_right _ _)
/-- kept(value): the same datum -/
def spKept (n : Nat) : Sp := fun vs H Q _ => ∃ (d : D) (v : V), vs = [v] ∧ Rep H d v ∧ d.sz ≤ 100000 ∧ d.dep ≤ n ∧ ∀ v' H', Same H H' → Rep H' d v' → Q v' H'
/-- isinstance(value, (list, tuple)) -/
theorem kit_row {K : PySem.W.Frag} {mg : Str → Option Value} (T : Ctx K mg) {H : Hp} {d : D} {v : V} (h : Rep H d v) : PySem.W.kitAny K d.ty [.type "list", .type "tuple"] = some (d.isT "tuple") := by
  have h1 := kit_d T h (t := "list") (by decide)
  have h2 := kit_d T h (t := "tuple") (by decide)
  have e1 : d.isT "list" = false := by cases d <;> rfl
  rw [e1] at h1
  refine kitAny_cons h1 (fun _ => ?_) (fun z => by cases z)
  cases e : d.isT "tuple" with
  | true =>
    rw [e] at h2
    exact kitAny_cons h2 (fun z => by cases z) fun _ => rfl
  | false =>
    rw [e] at h2
    exact kitAny_cons h2 (fun _ => kitAny_nil) (fun z => by cases z)
section
variable {P : Program} {w : World} {K : PySem.W.Frag} {mg : Str → Option Value} {base : Heap}
theorem lcTurn {σ2 : L2.St} {H2 : Hp} {te : TE} {F : V → Hp → Prop} {B : Hp → Prop} (h : te σ2 H2 F) : tYes σ2 H2 (fun b H3 => if b = true then te σ2 H3 F else B H3) := by
  show (if true = true then te σ2 H2 F else B H2)
  rw [if_pos rfl]
  exact h
theorem take_app {α : Type} {l : List α} {i : Nat} {x : α} (h : l[i]? = some x) : l.take (i + 1) = l.take i ++ [x] := by
  rw [List.take_succ, h]
  rfl
theorem ok_kept (T : Ctx K mg) : ∀ n : Nat, FnOk P w K mg base CX0 (n + 1) 243 (fdOf K 243) ["value"] (spKept n) := by
  have F := T.fun_ r_kept m_kept
  have b : Binds K (fdOf K 243) ["value"] [] := F.binds fun _ _ _ _ _ _ us hl => match us, hl with | [_], _ => rfl
  have kp : PySem.W.keepIn K (.ref 243) = true := F.kp
  intro n
  induction n with
  | zero =>
    refine F.ok sc_kept (fun vs H Q E h => ?_) (fun cdv A outer s H vs Q E hr h => ?_)
    · obtain ⟨d, v, rfl, _⟩ := h
      rfl
    · obtain ⟨d, v, rfl, hv, hz, hd, k⟩ := h
      refine ⟨_, pss_cons (ps_if (pt_val (pe_callB call_isiT rfl T.free (by decide +kernel) (pa_cons (pv 0) (pa_cons (pe_tup (pa_cons (pe_bltn (v := .ty "list") rfl T.free (by decide +kernel) rfl) (pa_cons (pe_bltn (v := .ty "tuple") rfl T.free (by decide +kernel) rfl) pa_nil))) pa_nil))))
        (pss_one ps_never) pss_nil) (pss_one (ps_ret (pv 0))), ?_⟩
      refine ⟨_, rfl, ?_⟩
      refine ⟨by show 2 ≤ sizeLine; decide, fun p hp => ?_⟩
      have e1 : d.isT "tuple" = false := by
        cases d with
        | tup ds => exact absurd hd (by simp [D.dep])
        | _ => rfl
      have hv2 := Rep.mono (Sol.new (o := .tup [.ty "list", .ty "tuple"]) hp) d v hv
      refine ⟨v, p, [.ty "list", .ty "tuple"], d.ty, _, _, rfl, upd_same, .cons (.ty _) (.cons (.ty _) .nil), Rep.tyx T hv2, kit_row T hv2, ?_⟩
      rw [e1]
      refine ⟨_, rfl, iteF ?_⟩
      exact ⟨_, rfl, k _ _ (same_new hp) hv2⟩
  | succ n ih =>
    refine F.ok sc_kept (fun vs H Q E h => ?_) (fun cdv A outer s H vs Q E hr h => ?_)
    · obtain ⟨d, v, rfl, _⟩ := h
      rfl
    · obtain ⟨d, v, rfl, hv, hz, hd, k⟩ := h
      refine ⟨_, pss_cons (ps_if (pt_val (pe_callB call_isiT rfl T.free (by decide +kernel) (pa_cons (pv 0) (pa_cons (pe_tup (pa_cons (pe_bltn (v := .ty "list") rfl T.free (by decide +kernel) rfl) (pa_cons (pe_bltn (v := .ty "tuple") rfl T.free (by decide +kernel) rfl) pa_nil))) pa_nil))))
        (pss_one (ps_ret (pe_callTy call_tuple_of rfl T.free (by decide +kernel) (pa_cons
          (pe_lc (own := [("one", 1)]) (g := gName 1) (tt := tYes) rfl sc_kept.nd (pi_tup (pv 0)) (blkOk_by (N := N_kept) (sc := defScope s_kept) (by decide +kernel)) (fun _ _ _ _ _ => pg_name (i := 1) sc_kept.nd rfl (Or.inl rfl)) (fun _ _ _ _ _ => pts_nil)
            (fun _ _ _ _ _ => pe_call ih hr rfl T.glo kp b .nil pass0 (pa_cons (pv 1) pa_nil))) pa_nil)))) pss_nil) (pss_one (ps_ret (pv 0))), ?_⟩
      refine ⟨_, rfl, ?_⟩
      refine ⟨by show 2 ≤ sizeLine; decide, fun p hp => ?_⟩
      have hv2 := Rep.mono (Sol.new (o := .tup [.ty "list", .ty "tuple"]) hp) d v hv
      refine ⟨v, p, [.ty "list", .ty "tuple"], d.ty, _, _, rfl, upd_same, .cons (.ty _) (.cons (.ty _) .nil), Rep.tyx T hv2, kit_row T hv2, ?_⟩
      refine ⟨_, rfl, ?_⟩
      cases d with
      | tup ds =>
        obtain ⟨a, xs, rfl, ha, hr2⟩ := hv2
        refine iteT ?_
        have hlen : xs.length ≤ 100000 := by
          have h1 := RepL.len hr2
          have h2 := len_szL ds
          have h3 : szL ds + 1 ≤ 100000 := hz
          omega
        refine ⟨_, rfl, a, rfl, ⟨_, SqT.of ha⟩, fun D hD => ?_⟩
        refine lc_tup (K := K) (a := a) (xs := xs) (fun i H2 => ∃ acc, H2 D = some (.lst acc) ∧ RepL H2 (ds.take i) acc ∧ i ≤ xs.length ∧ Same (upd H p (.tup [.ty "list", .ty "tuple"])) H2) ?_ ?_ ?_ ?_
        · exact ⟨[], upd_same, rfl, Nat.zero_le _, same_new hD⟩
        · rintro i H2 hi ⟨acc, _, _, _, sm⟩
          exact SqT.of (sm _ _ ha)
        · rintro i x H2 hx ⟨acc, hDa, hacc, hi, sm⟩
          have hix : i < xs.length := (List.getElem?_eq_some_iff.mp hx).1
          obtain ⟨d', hd', hrx⟩ := RepL.get hr2 hx
          have hrx2 := Rep.mono (Sol.of sm) _ _ hrx
          refine ⟨rfl, lcTurn ?_⟩
          refine ⟨_, rfl, d', x, rfl, hrx2, ?_, ?_, fun v' H' sm' rv' => ?_⟩
          · have h1 := szL_get hd'
            have h3 : szL ds + 1 ≤ 100000 := hz
            omega
          · have h1 := depL_get hd'
            have h3 : depL ds + 1 ≤ n + 1 := hd
            omega
          · have hl := RepL.len hacc
            rw [List.length_take] at hl
            refine ⟨acc, sm' _ _ hDa, ?_, acc ++ [v'], upd_same, ?_, hix, ?_⟩
            · exact Nat.lt_of_le_of_lt (show acc.length ≤ 100000 by omega) (by decide)
            · have so : Sol H' (upd H' D (.lst (acc ++ [v']))) := Sol.mut (sm' _ _ hDa) lst_not
              rw [take_app hd']
              exact RepL.append (RepL.mono so _ _ (RepL.mono (Sol.of sm') _ _ hacc)) (RepL.one (Rep.mono so _ _ rv'))
            · intro c o e
              have e2 := sm' _ _ (sm _ _ e)
              have ne : c ≠ D := ne_of_none e hD
              rw [upd_ne ne]
              exact e2
        · rintro H2 ⟨acc, hDa, hacc, _, sm⟩
          have hl := RepL.len hr2
          rw [hl, List.take_length] at hacc
          refine ⟨D, acc, rfl, .inl ⟨SqL.of hDa, fun l hl => ?_⟩⟩
          have hpl : H l = none := by
            have h1 : upd H p (.tup [.ty "list", .ty "tuple"]) l = none := sm.free hl
            exact (same_new hp).free h1
          refine k _ _ (fun c o e => ?_) ⟨l, acc, rfl, upd_same, RepL.mono (Sol.new hl) _ _ hacc⟩
          rw [upd_ne (ne_of_none e hpl)]
          exact sm _ _ (same_new hp _ _ e)
      | non => exact iteF ⟨_, rfl, k _ _ (same_new hp) hv2⟩
      | int i => exact iteF ⟨_, rfl, k _ _ (same_new hp) hv2⟩
      | str i => exact iteF ⟨_, rfl, k _ _ (same_new hp) hv2⟩
      | bl i => exact iteF ⟨_, rfl, k _ _ (same_new hp) hv2⟩
      | dct => exact iteF ⟨_, rfl, k _ _ (same_new hp) hv2⟩
      | pap w ds => exact iteF ⟨_, rfl, k _ _ (same_new hp) hv2⟩
end
end K91
set_option Elab.async false
set_option linter.all false
set_option maxRecDepth 100000
set_option maxHeartbeats 2000000
/-! K91, N: C.__name__ of a class of the text. -/
namespace K91
open PySem PySem.Spec PyProof.Rows L2
section
open PySem.W PySem.Calls Builtin Builtin.ObjectAttr Builtin.Getset_descriptor
theorem nm_dga (a : Addr) (d tp : Value) : descrGetArgs ⟨[d, .ref a, tp], []⟩ = pure (d, some (.ref a), given tp) := by kernel_rfl
theorem nm_find (K : PySem.W.Frag) (C : Addr) : findCls K (.ref C) (.type "type") "__name__" = some (.get (.builtin "getset_descriptor.__get__") (.builtin "type.__name__") (.ref C) (.type "type")) := by
  first
    | rfl
    | kernel_rfl
variable {prog : Program} {w : World} {A : Around} {E : Value → Shared → Prop} {s : Shared} {K : PySem.W.Frag} {R : Result → Shared → Prop}
theorem nm_get {C : Addr} {x : Str} {t0 : Tok} {dd : Option Addr} {cd : ClassData} {sl : Array (Option Value)} (X : K.In s.heap) (hC : K.lookup C = some ⟨.type "type", dd, .cls cd, sl⟩) (hsl : sl[2]? = some (some (.str x t0)))
    (h : R (.ok (.ret (.str x t0))) s) :
    codeAny (model prog w) A (.call (.builtin "getset_descriptor.__get__") ⟨[.builtin "type.__name__", .ref C, .type "type"], []⟩) R s := by
  obtain ⟨hh, g, dr, t, os⟩ := s
  have ht : typeIn K (.ref C) = some (.type "type") := by
    show (K.lookup C).map (·.cls) = some (.type "type")
    rw [hC]
    rfl
  have L0 : Looks (model prog w) hh (typeOf (.ref C)) (.type "type") := looks_typeIn X ht
  have L1 : Looks (model prog w) hh (isSubtype (.type "type") (.type "type")) true := Looks.of_pure (by rw [isSubtype_type]; kernel_rfl)
  refine codeAny_call_builtin KF.slot_gs.plain KF.entry_gs (KF.slot_gs.check _ _ _ _ _ _ _ _ ktyn_type (KF.args_gs _ _ _) ?_)
  unfold Builtin.«getset_descriptor.__get__» descrGet
  rw [nm_dga]
  refine wpAny_bind (wpAny_pure ?_)
  unfold descrGetter descrCheckInstance descrNameAndClass isInstance
  simp only [ktyn_owner]
  repeat lk
  refine ⟨Code.quiet_builtin _ (by decide +kernel), codeAny_builtin ktyn_entry ?_⟩
  unfold Builtin.«type.__name__»
  dsimp only
  unfold keptObject slotAt
  dsimp only
  have hC' : hh.get? C = some ⟨.type "type", dd, .cls cd, sl⟩ := X C _ hC
  refine wpAny_bind (wpAny_bind (wpAny_loadPart_at hC' ?_))
  refine wpAny_pure ?_
  dsimp only
  rw [hsl]
  exact wpAny_pure h
end
/-- e.__name__, e a class of the text -/
def tName (K : PySem.W.Frag) (te : TE) : TE := fun σ H Q => te σ H fun x H1 => ∃ C nm, x = .ref C ∧ nameB K C nm = true ∧ PySem.W.nsIn K cStatics "thirdparty.any" = some none ∧ Q (.str nm) H1
theorem pe_name {X : Cx} {e : Expr} {te : TE} {pos : Pos} (he : PE X e te) (hb : attributeBase e "__name__" X.env (eval e X.env) = eval e X.env := by rfl) : PE X (.Attribute e "__name__" pos) (tName X.K te) := by
  refine ⟨fun pins s σ H Q I h => ?_⟩
  refine attr_of hb (thn (he.run pins s σ H _ I h) fun u s1 ⟨x, H1, I1, rx, C, nm, ex, hn, hst, q⟩ => ?_)
  subst ex
  obtain rfl : u = Value.ref C := rx
  unfold nameB at hn
  cases q1 : X.K.lookup C with
  | none => rw [q1] at hn; cases hn
  | some o =>
    obtain ⟨oc, dd, dt, sl⟩ := o
    rw [q1] at hn
    have hn2 : oc = .type "type" ∧ (∃ cd, dt = .cls cd) ∧ ∃ t0, sl[2]? = some (some (.str nm t0)) := by
      split at hn
      · rename_i dd' cd' sl' heq
        cases heq
        refine ⟨rfl, ⟨_, rfl⟩, ?_⟩
        split at hn
        · rename_i y t0 hy
          have ey : y = nm := of_decide_eq_true hn
          subst ey
          exact ⟨t0, hy⟩
        · cases hn
      · cases hn
    obtain ⟨rfl, ⟨cd, rfl⟩, t0, hsl⟩ := hn2
    have hr : PySem.W.readsIn X.K C (.type "type") = true := by
      have a : PySem.W.typeIn X.K (.ref C) = some (.type "type") := by
        show (X.K.lookup C).map (·.cls) = some (.type "type")
        rw [q1]
        rfl
      unfold PySem.W.readsIn
      rw [hst, a]
      have r1 : PySem.W.findIn X.K (.type "type") "__getattribute__" = some (some (.builtin "type.__getattribute__")) := PySem.W.type_tga
      rw [r1]
      simp only [beq_self_eq_true, Bool.true_and]
      first
        | rfl
        | kernel_rfl
    refine PySem.W.cls_bind I1.kIn hr (nm_find X.K C) (wpAny_call ?_)
    refine nm_get (t0 := t0) (s := { s1 with toks := s1.toks + 1 }) I1.kIn q1 hsl (PySem.W.handed_on rfl ?_)
    exact ⟨.str nm, H1, I1.tok _, ⟨_, rfl⟩, q⟩
end K91
set_option Elab.async false
set_option linter.all false
set_option maxRecDepth 100000
set_option maxHeartbeats 2000000
/-! K91, P: Paper.__init__. -/
namespace K91
open PySem PySem.Spec PyProof.Rows L2
/-- the name of the class of a word -/
def nmAt (w : Str) : Str := match pcAt w with
  | some c => c.cls
  | none => if w = "paper" then "Paper" else "Denial"
theorem lower_all : (pcs.all fun c => decide (Txt.lower c.cls = c.word) && decide (c.cls.length ≤ 100)) = true := by decide +kernel
theorem lower_paper : Txt.lower "Paper" = "paper" := by decide +kernel
theorem lower_denial : Txt.lower "Denial" = "denial" := by decide +kernel
theorem lower_nm {w : Str} {n : Nat} (h : Kn w n) : Txt.lower (nmAt w) = w ∧ (nmAt w).length ≤ 100 := by
  unfold nmAt
  cases e : pcAt w with
  | some c =>
    obtain ⟨h1, h2⟩ := pc_mem e
    obtain ⟨z1, z2⟩ := ba (List.all_eq_true.mp lower_all c h1)
    exact ⟨(of_decide_eq_true z1).trans h2, of_decide_eq_true z2⟩
  | none =>
    rcases h with ⟨c, z, _⟩ | h | h
    · rw [e] at z; cases z
    · subst h
      exact ⟨lower_paper, by decide +kernel⟩
    · subst h
      exact ⟨lower_denial, by decide +kernel⟩
section
variable {P : Program} {w : World} {K : PySem.W.Frag} {mg : Str → Option Value} {base : Heap}
theorem Ctx.papN (T : Ctx K mg) {w : Str} {n : Nat} (h : Kn w n) : Pap K (clsAt w) (nmAt w) (denAt w) (attrsAt w) := by
  cases e : pcAt w with
  | some c =>
    have z := pap_of (ba (T.a6 c (pc_mem e).1)).1
    unfold clsAt denAt attrsAt nmAt
    rw [e]
    exact z
  | none =>
    unfold clsAt denAt attrsAt nmAt
    rw [e]
    rcases h with ⟨c, z, _⟩ | h | h
    · rw [e] at z; cases z
    · subst h
      exact pap_of T.a7
    · subst h
      exact pap_of T.a9
/-- Paper.__init__(self, *parts), the parts a tuple at t0 -/
def spPaper (n : Nat) : Sp := fun vs H Q _ => ∃ (x dx t0 : Addr) (wd : Str) (ds : List D) (xs : List V) (m : Nat), vs = [.ref x, .ref t0] ∧ Kn wd m ∧ H x = some (.ins (clsAt wd) dx []) ∧ H t0 = some (.tup xs) ∧ RepL H ds xs ∧ szL ds < 100000 ∧ depL ds < n ∧
  ∀ t ys H', (∀ b o, H b = some o → b ≠ x → H' b = some o) → H' x = some (.ins (clsAt wd) dx [("word", .str wd), ("parts", .ref t)]) → H' t = some (.tup ys) → RepL H' ds ys → Q .non H'
theorem at_apart : (pcs.all fun c => !decide (c.at_ = 274) && (!decide (c.at_ = 295) && pcs.all fun c' => !decide (c.at_ = c'.at_) || decide (c.attrs = c'.attrs))) = true := by decide +kernel
theorem attrs_of_at {c : PC} (hc : c ∈ pcs) {w : Str} (h : c.at_ = clsAt w) : attrsAt w = c.attrs := by
  obtain ⟨h1, h2⟩ := ba (List.all_eq_true.mp at_apart c hc)
  obtain ⟨h2, h3⟩ := ba h2
  have h1 : ¬ c.at_ = 274 := by simpa using h1
  have h2 : ¬ c.at_ = 295 := by simpa using h2
  unfold clsAt at h
  unfold attrsAt
  cases e : pcAt w with
  | some c' =>
    rw [e] at h
    have z := List.all_eq_true.mp h3 c' (pc_mem e).1
    have h : c.at_ = c'.at_ := h
    simp only [h, decide_true, Bool.not_true, Bool.false_or, decide_eq_true_eq] at z
    exact z.symm
  | none =>
    rw [e] at h
    have h : c.at_ = if w = "paper" then 274 else 295 := h
    by_cases q : w = "paper"
    · rw [if_pos q] at h
      exact absurd h h1
    · rw [if_neg q] at h
      exact absurd h h2
/-- a paper of a class of the table that lacks an attribute is not whole -/
theorem part_not {c : PC} (hc : c ∈ pcs) {dx : Addr} {fs : List (Str × V)} (h : fs.length < 2 + c.attrs.length) : ¬ Solid (.ins c.at_ dx fs) := fun ⟨w, t, vs, e1, e, e2⟩ => by
  rw [attrs_of_at hc e1] at e2
  rw [e] at h
  unfold fsOf at h
  rw [attrs_of_at hc e1, List.length_cons, List.length_cons, List.length_zip] at h
  omega
theorem put2 (a b : V) : putF "parts" b (putF "word" a []) = ([("word", a), ("parts", b)] : List (Str × V)) := by
  show (if ("word" : Str) = "parts" then _ else _) = _
  rw [if_neg (by decide +kernel)]
  rfl
/-- what is not a whole object of data -/
theorem few_not {C dx : Addr} {fs : List (Str × V)} (h : fs.length < 2) : ¬ Solid (.ins C dx fs) := fun ⟨w, t, vs, _, e, _⟩ => by
  rw [e] at h
  unfold fsOf at h
  simp at h
  omega
theorem ok_paper (T : Ctx K mg) (n : Nat) : FnR P w K mg base CX0 (n + 2) 257 (fun vs H Q E => ∃ ws rest, vs = ws ++ rest ∧ ws.length = [("self" : Str)].length ∧ rest.length ≤ sizeLine ∧ ∀ p, H p = Option.none → spPaper n (ws ++ [V.ref p]) (upd H p (.tup rest)) Q E) := by
  have F := T.fun_ r_Paper_init m_Paper_init
  obtain ⟨oc, od, kV, doc, pm, an, cdv, ct, osl, e, lk, hcd⟩ := F.ex
  rw [e] at lk
  have Fk := T.fun_ r_kept m_kept
  have bk : Binds K (fdOf K 243) ["value"] [] := Fk.binds fun _ _ _ _ _ _ us hl => match us, hl with | [_], _ => rfl
  refine StX.fn_star (ps := [("self" : Str)]) (pv := "parts") (N := N_Paper_init) (sp := spPaper n) lk hcd sc_Paper_init StX.cxUp_none (StX.bind_star1 (B := fun us => bindArgs (PySem.W.fnOf r_Paper_init.name r_Paper_init.qual (defArgs r_Paper_init.st) (defBody r_Paper_init.st) (defScope r_Paper_init.st) .none kV doc pm an cdv ct) ⟨us, []⟩) (p1 := "self") (pv := "parts") (fun a => by rfl) (fun a r rs => by rfl)) fun A outer s H vs Q E hr h => ?_
  obtain ⟨x, dx, t0, wd, ds, xs, m, rfl, kn, hx, ht, hrep, hz, hd, k⟩ := h
  have pp := T.papN kn
  obtain ⟨l1, l2⟩ := lower_nm kn
  have cl := cls_of pp.cl
  have nw : NoAttr K (clsAt wd) "word" := pp.noat _ List.mem_cons_self
  have np : NoAttr K (clsAt wd) "parts" := pp.noat _ (List.mem_cons_of_mem _ List.mem_cons_self)
  have h0 : PySem.W.nsIn K cStatics "thirdparty.any" = some none := eqO_ok (ba T.a12).1
  refine ⟨_, PSs.nox (pss_cons (ps_fld (pv 0) (pe_lower (pe_name (pe_callTy cr_type rfl T.free (by decide +kernel) (pa_cons (pv 0) pa_nil)))) rfl)
    (pss_one (ps_fld (pv 0) (pe_call (ok_kept T n) hr rfl T.glo Fk.kp bk .nil pass0 (pa_cons (pv 1) pa_nil)) rfl))), ?_⟩
  refine ⟨_, rfl, x, _, dx, [], rfl, hx, ?_⟩
  refine ⟨_, _, rfl, pp.nm, h0, ?_⟩
  refine ⟨⟨_, rfl⟩, _, rfl, rfl, Nat.le_trans l2 (by decide), ?_⟩
  rw [l1]
  refine ⟨_, rfl, x, _, dx, [], rfl, hx, cl, nw, (by show 0 < 1000; decide), ?_⟩
  have so : Sol H (upd H x (.ins (clsAt wd) dx (putF "word" (.str wd) []))) := Sol.mut hx (few_not (by show 0 < 2; decide))
  have nx : t0 ≠ x := ne_of ht hx (by intro z; cases z)
  have ht2 : upd H x (.ins (clsAt wd) dx (putF "word" (.str wd) [])) t0 = some (.tup xs) := by rw [upd_ne nx]; exact ht
  refine ⟨_, rfl, .tup ds, .ref t0, rfl, ⟨t0, xs, rfl, ht2, RepL.mono so _ _ hrep⟩, ?_, ?_, fun v' H' sm rv => ?_⟩
  · show szL ds + 1 ≤ 100000
    omega
  · show depL ds + 1 ≤ n
    omega
  · obtain ⟨t, ys, rfl, h1, h2⟩ := rv
    have hx2 := sm x _ upd_same
    refine ⟨_, rfl, x, _, dx, _, rfl, hx2, cl, np, (by show 1 < 1000; decide), ?_⟩
    have so2 : Sol H' (upd H' x (.ins (clsAt wd) dx (putF "parts" (.ref t) (putF "word" (.str wd) [])))) := Sol.mut hx2 (few_not (by show 1 < 2; decide))
    refine k t ys _ (fun b o e nb => ?_) (by rw [upd_same, put2]) (so2 _ _ h1 True.intro) (RepL.mono so2 _ _ h2)
    rw [upd_ne nb]
    exact sm _ _ (by rw [upd_ne nb]; exact e)
end
end K91
set_option Elab.async false
set_option linter.all false
set_option maxRecDepth 100000
set_option maxHeartbeats 2000000
/-! K91, Q: the papers' own __init__. -/
namespace K91
open PySem PySem.Spec PyProof.Rows L2
/-- o.f as a target -/
def gFld (K : PySem.W.Frag) (to : TE) (f : Str) : TG := fun v σ H Q => to σ H fun x H1 => ∃ a C dx fs, x = .ref a ∧ H1 a = some (.ins C dx fs) ∧ Cls K C ∧ NoAttr K C f ∧ fs.length < 1000 ∧ Q σ (upd H1 a (.ins C dx (putF f v fs)))
theorem pg_attr {X : Cx} {o : Expr} {f : Str} {to : TE} {pos : Pos} (ho : PE X o to) : PG X (.Attribute o f pos) (gFld X.K to f) := by
  refine ⟨fun pins s σ H v u Q I r h => ?_⟩
  rw [assign_Attribute]
  refine wpAny_bind (wpAny_holding (thn (ho.run pins s σ H _ I h) fun ov s1 ⟨x, H1, I1, r1, q1⟩ => ?_))
  obtain ⟨a, C, dx, fs, ex, ea, c, n, l, q2⟩ := q1
  subst ex
  obtain rfl : ov = Value.ref a := r1
  refine wpAny_bind (wpAny_standAt (wpAny_bind (wpAny_holding (setattr_ok I1 ea c n l r fun s3 I3 => ?_))))
  exact wpAny_release ⟨σ, _, I3, q2⟩
/-- a paper's __init__: the whole paper behind it -/
def spCls (wd : Str) (n : Nat) : Sp := fun vs H Q _ => ∃ (x dx : Addr) (ds : List D) (xs : List V), vs = .ref x :: xs ∧ xs.length = (attrsAt wd).length ∧ H x = some (.ins (clsAt wd) dx []) ∧ RepL H ds xs ∧ szL ds < 100000 ∧ depL ds < n ∧
  ∀ H', (∀ b o, H b = some o → b ≠ x → H' b = some o) → Rep H' (.pap wd ds) (.ref x) → Q .non H'
section
variable {P : Program} {w : World} {K : PySem.W.Frag} {mg : Str → Option Value} {base : Heap} {CX : CXT}
/-- what the attributes' stores start from, and what they leave: the dict of word, parts, then the pairs so far -/
def fsK (wd : Str) (t : Addr) (l : List (Str × V)) : List (Str × V) := (("word" : Str), V.str wd) :: (("parts" : Str), V.ref t) :: l
/-- the file of the text and its top know no super -/
theorem main_file : (PySem.Challenge.pw_nohalfseen_k91_papers_as_texts).main.file = "/claim/cut.py" := rfl
theorem main_sup : ((PySem.Challenge.pw_nohalfseen_k91_papers_as_texts).main.scope.names.lookup ("super" : Str)).isSome = false := by decide +kernel
theorem attr_last {wd : Str} {c : PC} (h : pcAt wd = some c) : attrsAt wd = c.attrs ∧ clsAt wd = c.at_ := by
  unfold attrsAt clsAt
  rw [h]
  exact ⟨rfl, rfl⟩
/-- the whole body: super().__init__ and what follows it; after is asked of word, parts and the tuple -/
theorem cls_init {P : Program} (hP : P = PySem.Challenge.pw_nohalfseen_k91_papers_as_texts) (T : Ctx K mg) {wd : Str} {c : PC} (hc : pcAt wd = some c) (n : Nat) {r : FnRow} (hr : r ∈ fnRows) (hcell : r.cell = some (c.at_ - 15, c.at_)) (hat : r.at_ = c.at_ - 3) (hl : c.attrs.length = c.args.length) {N : List Str}
    (S : FnScopeS N (("self" : Str) :: c.args) (defScope r.st)) (SS : SupS PySem.Challenge.pw_nohalfseen_k91_papers_as_texts (defScope r.st) (defArgs r.st)) {p0 p1 apos pos pos2 : Pos} {e : Expr} {es : List Expr} {st2 : Stmt} {pl : Sem Bool}
    (hb : defBody r.st = [.Expr (.Call (.Attribute (.Call (.Name "super" p0) [] [] p1) "__init__" apos) (e :: es) [] pos) pos2, st2])
    (hN : N[0]? = some ("self" : Str)) (hpos : 0 < c.attrs.length)
    (body : ∀ (A : Around) (outer : List Env) (s : Shared) (H : Hp) (E : XK) (x : Addr) (xs : List V), xs.length = c.args.length →
      ∃ t t2, PA (cxS CX0 P w K mg base N r.qual (defScope r.st) r.at_ (.ref r.code) (c.at_ - 15) A outer s H E) (e :: es) t ∧ PS (cxS CX0 P w K mg base N r.qual (defScope r.st) r.at_ (.ref r.code) (c.at_ - 15) A outer s H E) st2 t2 ∧
        (∀ (H1 : Hp) (Q : List V → Hp → Prop), Q xs H1 → t (L2.start N (.ref x :: xs)) H1 Q) ∧
        (∀ (H1 : Hp) (tp dx : Addr) (ys : List V) (D' : Ends), ys.length = c.args.length → H1 x = some (.ins c.at_ dx (fsK wd tp [])) → H1 tp = some (.tup ys) → (∀ σ H2, (∀ b o, H1 b = some o → b ≠ x → H2 b = some o) → H2 x = some (.ins c.at_ dx (fsK wd tp (c.attrs.zip ys))) → D'.nx σ H2) → t2 D' (L2.start N (.ref x :: xs)) H1))
    (he : ∀ (L : Addr), eval (.Call (.Attribute (.Call (.Name "super" p0) [] [] p1) "__init__" apos) (e :: es) [] pos) (envS r.qual (defScope r.st) L r.at_ (.ref r.code) (c.at_ - 15)) = (do
      let ov ← attributeBase (.Call (.Name "super" p0) [] [] p1) "__init__" (envS r.qual (defScope r.st) L r.at_ (.ref r.code) (c.at_ - 15)) (eval (.Call (.Name "super" p0) [] [] p1) (envS r.qual (defScope r.st) L r.at_ (.ref r.code) (c.at_ - 15)))
      standAt apos.atName
      let (fz, first) ← holding [ov] (getMethod ov "__init__" pl)
      callWith pos fz first (backTo pos (starEach (e :: es) (envS r.qual (defScope r.st) L r.at_ (.ref r.code) (c.at_ - 15)))) []))
    (hst : ∀ L : Addr, starEach (e :: es) (envS r.qual (defScope r.st) L r.at_ (.ref r.code) (c.at_ - 15)) = (false, eval e (envS r.qual (defScope r.st) L r.at_ (.ref r.code) (c.at_ - 15))) :: starEach es (envS r.qual (defScope r.st) L r.at_ (.ref r.code) (c.at_ - 15)))
    (hpl : ∀ L : Addr, (backTo pos (starEach es (envS r.qual (defScope r.st) L r.at_ (.ref r.code) (c.at_ - 15)))).any (·.1) = false)
    (hi : ∀ L : Addr, interactive (envS r.qual (defScope r.st) L r.at_ (.ref r.code) (c.at_ - 15)) = false)
    (hsw : ∀ L : Addr, swapsWith (.Call (.Attribute (.Call (.Name "super" p0) [] [] p1) "__init__" apos) (e :: es) [] pos) none pos2.line (envS r.qual (defScope r.st) L r.at_ (.ref r.code) (c.at_ - 15)) = pure false) :
    FnOk P w K mg base CX0 (n + 4) r.at_ (fdOf K r.at_) (("self" : Str) :: c.args) (spCls wd n) := by
  obtain ⟨ea, ec⟩ := attr_last hc
  obtain ⟨F, kp⟩ := T.funS r hr hcell
  have pb := T.a6 c (pc_mem hc).1
  obtain ⟨b1, b2⟩ := ba pb
  obtain ⟨b3, b4⟩ := ba b2
  have pp := pap_of b1
  have kn : Kn wd c.attrs.length := .inl ⟨c, hc, rfl⟩
  subst hP
  refine fn_ofS (k := n + 3) F S (fun vs H Q E h => ?_) fun A outer s H vs Q E hr' h s1 I => ?_
  · obtain ⟨x, dx, ds, xs, rfl, h1, _⟩ := h
    rw [List.length_cons, List.length_cons, h1, ea, hl]
  · obtain ⟨x, dx, ds, xs, rfl, h1, hx, hrep, hz, hd, k⟩ := h
    rw [ea, hl] at h1
    rw [ec] at hx
    obtain ⟨t, t2, ht, ht2, hread, hread2⟩ := body A outer s H E x xs h1
    rw [hb]
    have hσ : (L2.start N (.ref x :: xs))[0]? = some (some (.ref x)) := rfl
    refine ks_wpAt_execs_cons (ks_wpAt_mono (super_at (P := PySem.Challenge.pw_nohalfseen_k91_papers_as_texts) (k := n + 2) (sp := fun vs H Q E => ∃ ws rest, vs = ws ++ rest ∧ ws.length = [("self" : Str)].length ∧ rest.length ≤ sizeLine ∧ ∀ p, H p = Option.none → spPaper n (ws ++ [V.ref p]) (upd H p (.tup rest)) Q E)
      (D' := { nx := fun σ' H' => t2 { nx := fun _ H' => Q .non H', rt := Q } σ' H', rt := Q }) (E := E0) I F (sup_of T b4) SS T.free hN hσ (fun s' I' => ?_) (ok_paper T n) (hr'.mono (by omega)) pass0 ht (hread H _ ?_) (he _) (hst _) (hpl _) (hi _) (hsw _)) (fun fl s' hs => ?_) fun e s' hs => hs)
    · obtain ⟨mA, O, _⟩ := ins_get I'.hok hx
      obtain ⟨od, J, _⟩ := O.look
      exact ⟨_, J.at_, J.cls, fun c z => nomatch z⟩
    · have hxl : xs.length ≤ 100000 := by
        have q1 := RepL.len hrep
        have q2 := len_szL ds
        omega
      refine ⟨[.ref x], xs, rfl, rfl, Nat.le_trans hxl (by decide), fun p hp => ?_⟩
      have nxp : x ≠ p := ne_of_none hx hp
      refine ⟨x, dx, p, wd, ds, xs, c.attrs.length, rfl, kn, ?_, upd_same, RepL.mono (Sol.new hp) _ _ hrep, hz, hd, fun tp ys H1 kpx hx1 ht1 hr1 => ?_⟩
      · rw [ec, upd_ne nxp]
        exact hx
      · rw [ec] at hx1
        have hly : ys.length = c.args.length := by
          rw [RepL.len hr1, ← RepL.len hrep, h1]
        have ntx : tp ≠ x := ne_of ht1 hx1 (by intro z; cases z)
        refine hread2 H1 tp dx ys _ hly hx1 ht1 fun σ2 H2 kp2 hx2 => ?_
        have so : Sol H1 H2 := fun b o e1 e2 => kp2 b o e1 fun z => by
          rw [z, hx1] at e1
          cases e1
          refine part_not (pc_mem hc).1 (dx := dx) (fs := fsK wd tp []) ?_ e2
          show 2 < 2 + c.attrs.length
          have : 0 < c.attrs.length := hpos
          omega
        refine k H2 (fun b o e1 nb => kp2 b o (kpx b o (by rw [upd_ne (ne_of_none e1 hp)]; exact e1) nb) nb) ?_
        refine ⟨x, dx, tp, ys, rfl, ?_, so _ _ ht1 True.intro, ?_, RepL.mono so _ _ hr1⟩
        · rw [ec, hx2]
          show some (HO.ins c.at_ dx (fsK wd tp (c.attrs.zip ys))) = some (HO.ins c.at_ dx (fsOf wd tp ys))
          unfold fsOf
          rw [ea]
          rfl
        · have e1 : ds.length = c.attrs.length := by rw [← RepL.len hrep, h1, hl]
          rw [e1]
          exact kn
    · cases fl with
      | next =>
        obtain ⟨σ', H', I', q⟩ := hs
        refine wpAt_of_wpAny (wpAny_execs_cons (thn (ht2.run [] s' σ' H' _ I' q) fun f2 s2 hs2 => ?_))
        cases f2 with
        | next =>
          obtain ⟨σ2, H2, I2, q2⟩ := hs2
          exact wpAny_execs_nil ⟨σ2, H2, I2, q2⟩
        | ret u => exact hs2
        | brk => exact hs2
        | cont => exact hs2
      | ret u =>
        exact hs
      | brk => exact hs
      | cont => exact hs
end
end K91
set_option Elab.async false
set_option linter.all false
set_option maxRecDepth 100000
set_option maxHeartbeats 2000000
/-! K91, R: the papers' own __init__, class by class (printed by gen_k91r.py). -/
namespace K91
open PySem PySem.Spec PyProof.Rows L2
theorem fsK_parts {wd : Str} {tp : Addr} {l : List (Str × V)} : (fsK wd tp l).lookup ("parts" : Str) = some (.ref tp) := by
  unfold fsK
  rw [List.lookup_cons, show (("parts" : Str) == ("word" : Str)) = false by decide +kernel, List.lookup_cons, show (("parts" : Str) == ("parts" : Str)) = true by decide +kernel]
theorem putF_new {f : Str} {v : V} : ∀ {l : List (Str × V)}, (∀ q ∈ l, ¬ q.1 = f) → putF f v l = l ++ [(f, v)]
  | [], _ => rfl
  | (g, u) :: r, h => by
    show (if g = f then _ else (g, u) :: putF f v r) = _
    rw [if_neg (h (g, u) List.mem_cons_self), putF_new fun q hq => h q (List.mem_cons_of_mem _ hq)]
    rfl
theorem putF_fsK {wd f : Str} {tp : Addr} {v : V} {l : List (Str × V)} (h1 : ¬ ("word" : Str) = f) (h2 : ¬ ("parts" : Str) = f) (h3 : ∀ q ∈ l, ¬ q.1 = f) : putF f v (fsK wd tp l) = fsK wd tp (l ++ [(f, v)]) := by
  refine (putF_new fun q hq => ?_).trans rfl
  rcases List.mem_cons.mp hq with e | hq
  · rw [e]
    exact h1
  · rcases List.mem_cons.mp hq with e | hq
    · rw [e]
      exact h2
    · exact h3 q hq
theorem upd2 {H : Hp} {a : Addr} {o u : HO} : upd (upd H a o) a u = upd H a u := upd_upd
section
variable {P : Program} {w : World} {K : PySem.W.Frag} {mg : Str → Option Value} {base : Heap}
/-- self.f = self.parts[0] -/
theorem read_one {wd f : Str} {C dx x tp : Addr} {H1 : Hp} {ys : List V} {σ : L2.St} {D' : Ends} (hs : σ[0]? = some (some (.ref x))) (cl : Cls K C) (np : NoAttr K C "parts") (nf : NoAttr K C f) (h1 : ¬ ("word" : Str) = f) (h2 : ¬ ("parts" : Str) = f) (hl : ys.length = 1)
    (hx : H1 x = some (.ins C dx (fsK wd tp []))) (ht : H1 tp = some (.tup ys)) (k : ∀ σ H2, (∀ b o, H1 b = some o → b ≠ x → H2 b = some o) → H2 x = some (.ins C dx (fsK wd tp ([f].zip ys))) → D'.nx σ H2) :
    sFld K (tVar 0) (tOp (rIxT K) (tFld K (tVar 0) "parts") (tC (.int 0))) f D' σ H1 := by
  obtain ⟨v, rfl⟩ := List.length_eq_one_iff.mp hl
  · refine ⟨_, hs, x, C, dx, _, _, rfl, hx, cl, np, fsK_parts, tp, [v], 0, v, rfl, rfl, SqT.of ht, rfl, _, hs, x, C, dx, _, rfl, hx, cl, nf, (by show 2 < 1000; decide), ?_⟩
    rw [putF_fsK h1 h2 (fun q hq => absurd hq List.not_mem_nil)]
    exact k σ _ (fun b o e nb => by rw [upd_ne nb]; exact e) upd_same
/-- self.f, self.g, .. = self.parts -/
def gFlds (K : PySem.W.Frag) : List Str → TGs
  | [] => gNil
  | f :: fs => gCons (gFld K (tVar 0) f) (gFlds K fs)
theorem read_flds {wd : Str} {C dx x tp : Addr} {σ : L2.St} {Q : L2.St → Hp → Prop} (hs : σ[0]? = some (some (.ref x))) (cl : Cls K C) :
    ∀ (fs : List Str) (ys : List V) (l : List (Str × V)) (H1 : Hp), (∀ f ∈ fs, NoAttr K C f) → (∀ f ∈ fs, ¬ ("word" : Str) = f ∧ ¬ ("parts" : Str) = f ∧ ∀ q ∈ l, ¬ q.1 = f) → fs.Nodup → ys.length = fs.length → l.length + fs.length < 900 →
      H1 x = some (.ins C dx (fsK wd tp l)) → (∀ H2, (∀ b o, H1 b = some o → b ≠ x → H2 b = some o) → H2 x = some (.ins C dx (fsK wd tp (l ++ fs.zip ys))) → Q σ H2) → gFlds K fs ys σ H1 Q
  | [], [], l, H1, _, _, _, _, _, hx, k => ⟨rfl, k H1 (fun _ _ e _ => e) (by rw [show l ++ ([] : List Str).zip ([] : List V) = l from List.append_nil l]; exact hx)⟩
  | [], _ :: _, _, _, _, _, _, hl, _, _, _ => by cases hl
  | _ :: _, [], _, _, _, _, _, hl, _, _, _ => by cases hl
  | f :: fs, y :: ys, l, H1, hn, hd, nd, hl, hz, hx, k => by
    obtain ⟨d1, d2, d3⟩ := hd f List.mem_cons_self
    refine ⟨y, ys, rfl, _, hs, x, C, dx, _, rfl, hx, cl, hn f List.mem_cons_self, ?_, ?_⟩
    · show (l.length + 1 + 1) < 1000
      rw [List.length_cons] at hz
      omega
    · rw [putF_fsK d1 d2 d3]
      refine read_flds hs cl fs ys (l ++ [(f, y)]) _ (fun g hg => hn g (List.mem_cons_of_mem _ hg)) (fun g hg => ?_) (List.nodup_cons.mp nd).2 (by simpa using hl) (by
        rw [List.length_append, List.length_singleton]
        rw [List.length_cons] at hz
        omega) upd_same fun H2 k1 k2 => ?_
      · obtain ⟨e1, e2, e3⟩ := hd g (List.mem_cons_of_mem _ hg)
        refine ⟨e1, e2, fun q hq => ?_⟩
        rcases List.mem_append.mp hq with hq | hq
        · exact e3 q hq
        · rw [List.mem_singleton.mp hq]
          intro z
          have z : f = g := z
          rw [z] at nd
          exact (List.nodup_cons.mp nd).1 hg
      · refine k H2 (fun b o e nb => k1 b o (by rw [upd_ne nb]; exact e) nb) ?_
        rw [k2, List.append_assoc]
        rfl
theorem read_tup {wd : Str} {C dx x tp : Addr} {H1 : Hp} {ys : List V} {σ : L2.St} {D' : Ends} {fs : List Str} {n : Nat} (hs : σ[0]? = some (some (.ref x))) (cl : Cls K C) (np : NoAttr K C "parts") (nf : ∀ f ∈ fs, NoAttr K C f) (hd : ∀ f ∈ fs, ¬ ("word" : Str) = f ∧ ¬ ("parts" : Str) = f) (nd : fs.Nodup) (hn : fs.length = n) (hz : n < 900) (hl : ys.length = n)
    (hx : H1 x = some (.ins C dx (fsK wd tp []))) (ht : H1 tp = some (.tup ys)) (k : ∀ σ H2, (∀ b o, H1 b = some o → b ≠ x → H2 b = some o) → H2 x = some (.ins C dx (fsK wd tp (fs.zip ys))) → D'.nx σ H2) :
    tAsg (tFld K (tVar 0) "parts") (gTup K n (gFlds K fs)) D' σ H1 := by
  refine ⟨_, hs, x, C, dx, _, _, rfl, hx, cl, np, fsK_parts, tp, ys, rfl, SqT.of ht, hl, ?_⟩
  refine read_flds (wd := wd) (tp := tp) (dx := dx) (x := x) hs cl fs ys [] H1 nf (fun f hf => ⟨(hd f hf).1, (hd f hf).2, fun q hq => nomatch hq⟩) nd (by rw [hl, hn]) (by rw [hn]; show 0 + n < 900; omega) hx fun H2 k1 k2 => ?_
  exact k σ H2 k1 k2
theorem pc_Right : pcAt ("right" : Str) = some ⟨("Right" : Str), ("right" : Str), false, 349, [("rows" : Str)], [("rows" : Str)]⟩ := by decide +kernel
theorem ok_Right (T : Ctx K mg) (n : Nat) : FnOk PySem.Challenge.pw_nohalfseen_k91_papers_as_texts w K mg base CX0 (n + 4) 346 (fdOf K 346) P_Right_init (spCls ("right" : Str) n) := by
  have pp := pap_of (ba (T.a6 _ (pc_mem pc_Right).1)).1
  have cl := cls_of pp.cl
  have np : NoAttr K 349 "parts" := pp.noat _ (List.mem_cons_of_mem _ List.mem_cons_self)
  refine cls_init rfl T pc_Right n (r := r_Right_init) m_Right_init rfl rfl rfl sc_Right_init ⟨rfl, rfl, rfl, rfl, ⟨_, rfl, rfl⟩, main_file, main_sup⟩ rfl rfl (by decide) (fun A outer s H E x xs hl => ?_) (fun L => rfl) (fun L => rfl) (fun L => rfl) (fun L => rfl) (fun L => rfl)
  refine ⟨_, sFld K (tVar 0) (tOp (rIxT K) (tFld K (tVar 0) "parts") (tC (.int 0))) ("rows" : Str), pa_cons (pv 1) pa_nil, ps_fld (pv 0) (pe_ix ix_tup (pe_fld (pv 0) rfl) pe_int (fun _ _ => rfl)) rfl, fun H1 Q hq => ?_, fun H1 tp dx ys D' hl hx ht k => read_one rfl cl np (pp.noat _ (List.mem_cons_of_mem _ (List.mem_cons_of_mem _ List.mem_cons_self))) (by decide +kernel) (by decide +kernel) hl hx ht k⟩
  match xs, hl with
  | [v0], _ => exact ⟨_, rfl, hq⟩
theorem pc_Wrong : pcAt ("wrong" : Str) = some ⟨("Wrong" : Str), ("wrong" : Str), true, 370, [("point" : Str), ("steps" : Str)], [("point" : Str), ("steps" : Str)]⟩ := by decide +kernel
theorem ok_Wrong (T : Ctx K mg) (n : Nat) : FnOk PySem.Challenge.pw_nohalfseen_k91_papers_as_texts w K mg base CX0 (n + 4) 367 (fdOf K 367) P_Wrong_init (spCls ("wrong" : Str) n) := by
  have pp := pap_of (ba (T.a6 _ (pc_mem pc_Wrong).1)).1
  have cl := cls_of pp.cl
  have np : NoAttr K 370 "parts" := pp.noat _ (List.mem_cons_of_mem _ List.mem_cons_self)
  refine cls_init rfl T pc_Wrong n (r := r_Wrong_init) m_Wrong_init rfl rfl rfl sc_Wrong_init ⟨rfl, rfl, rfl, rfl, ⟨_, rfl, rfl⟩, main_file, main_sup⟩ rfl rfl (by decide) (fun A outer s H E x xs hl => ?_) (fun L => rfl) (fun L => rfl) (fun L => rfl) (fun L => rfl) (fun L => rfl)
  refine ⟨_, tAsg (tFld K (tVar 0) "parts") (gTup K 2 (gFlds K [("point" : Str), ("steps" : Str)])), pa_cons (pv 1) (pa_cons (pv 2) pa_nil), ps_asg (pe_fld (pv 0) rfl) (pg_tup rfl (pgs_cons (pg_attr (pv 0)) (pgs_cons (pg_attr (pv 0)) pgs_nil))), fun H1 Q hq => ?_, fun H1 tp dx ys D' hl hx ht k => read_tup rfl cl np (fun f hf => pp.noat f (List.mem_cons_of_mem _ (List.mem_cons_of_mem _ hf))) (by decide +kernel) (by decide +kernel) rfl (by decide) hl hx ht k⟩
  match xs, hl with
  | [v0, v1], _ => exact ⟨_, rfl, _, rfl, hq⟩
theorem pc_Round : pcAt ("round" : Str) = some ⟨("Round" : Str), ("round" : Str), true, 391, [("point" : Str), ("steps" : Str), ("ring" : Str)], [("point" : Str), ("steps" : Str), ("ring" : Str)]⟩ := by decide +kernel
theorem ok_Round (T : Ctx K mg) (n : Nat) : FnOk PySem.Challenge.pw_nohalfseen_k91_papers_as_texts w K mg base CX0 (n + 4) 388 (fdOf K 388) P_Round_init (spCls ("round" : Str) n) := by
  have pp := pap_of (ba (T.a6 _ (pc_mem pc_Round).1)).1
  have cl := cls_of pp.cl
  have np : NoAttr K 391 "parts" := pp.noat _ (List.mem_cons_of_mem _ List.mem_cons_self)
  refine cls_init rfl T pc_Round n (r := r_Round_init) m_Round_init rfl rfl rfl sc_Round_init ⟨rfl, rfl, rfl, rfl, ⟨_, rfl, rfl⟩, main_file, main_sup⟩ rfl rfl (by decide) (fun A outer s H E x xs hl => ?_) (fun L => rfl) (fun L => rfl) (fun L => rfl) (fun L => rfl) (fun L => rfl)
  refine ⟨_, tAsg (tFld K (tVar 0) "parts") (gTup K 3 (gFlds K [("point" : Str), ("steps" : Str), ("ring" : Str)])), pa_cons (pv 1) (pa_cons (pv 2) (pa_cons (pv 3) pa_nil)), ps_asg (pe_fld (pv 0) rfl) (pg_tup rfl (pgs_cons (pg_attr (pv 0)) (pgs_cons (pg_attr (pv 0)) (pgs_cons (pg_attr (pv 0)) pgs_nil)))), fun H1 Q hq => ?_, fun H1 tp dx ys D' hl hx ht k => read_tup rfl cl np (fun f hf => pp.noat f (List.mem_cons_of_mem _ (List.mem_cons_of_mem _ hf))) (by decide +kernel) (by decide +kernel) rfl (by decide) hl hx ht k⟩
  match xs, hl with
  | [v0, v1, v2], _ => exact ⟨_, rfl, _, rfl, _, rfl, hq⟩
theorem pc_Beside : pcAt ("beside" : Str) = some ⟨("Beside" : Str), ("beside" : Str), false, 412, [("rows" : Str)], [("rows" : Str)]⟩ := by decide +kernel
theorem ok_Beside (T : Ctx K mg) (n : Nat) : FnOk PySem.Challenge.pw_nohalfseen_k91_papers_as_texts w K mg base CX0 (n + 4) 409 (fdOf K 409) P_Beside_init (spCls ("beside" : Str) n) := by
  have pp := pap_of (ba (T.a6 _ (pc_mem pc_Beside).1)).1
  have cl := cls_of pp.cl
  have np : NoAttr K 412 "parts" := pp.noat _ (List.mem_cons_of_mem _ List.mem_cons_self)
  refine cls_init rfl T pc_Beside n (r := r_Beside_init) m_Beside_init rfl rfl rfl sc_Beside_init ⟨rfl, rfl, rfl, rfl, ⟨_, rfl, rfl⟩, main_file, main_sup⟩ rfl rfl (by decide) (fun A outer s H E x xs hl => ?_) (fun L => rfl) (fun L => rfl) (fun L => rfl) (fun L => rfl) (fun L => rfl)
  refine ⟨_, sFld K (tVar 0) (tOp (rIxT K) (tFld K (tVar 0) "parts") (tC (.int 0))) ("rows" : Str), pa_cons (pv 1) pa_nil, ps_fld (pv 0) (pe_ix ix_tup (pe_fld (pv 0) rfl) pe_int (fun _ _ => rfl)) rfl, fun H1 Q hq => ?_, fun H1 tp dx ys D' hl hx ht k => read_one rfl cl np (pp.noat _ (List.mem_cons_of_mem _ (List.mem_cons_of_mem _ List.mem_cons_self))) (by decide +kernel) (by decide +kernel) hl hx ht k⟩
  match xs, hl with
  | [v0], _ => exact ⟨_, rfl, hq⟩
theorem pc_Clash : pcAt ("clash" : Str) = some ⟨("Clash" : Str), ("clash" : Str), true, 433, [("point" : Str), ("steps" : Str)], [("point" : Str), ("steps" : Str)]⟩ := by decide +kernel
theorem ok_Clash (T : Ctx K mg) (n : Nat) : FnOk PySem.Challenge.pw_nohalfseen_k91_papers_as_texts w K mg base CX0 (n + 4) 430 (fdOf K 430) P_Clash_init (spCls ("clash" : Str) n) := by
  have pp := pap_of (ba (T.a6 _ (pc_mem pc_Clash).1)).1
  have cl := cls_of pp.cl
  have np : NoAttr K 433 "parts" := pp.noat _ (List.mem_cons_of_mem _ List.mem_cons_self)
  refine cls_init rfl T pc_Clash n (r := r_Clash_init) m_Clash_init rfl rfl rfl sc_Clash_init ⟨rfl, rfl, rfl, rfl, ⟨_, rfl, rfl⟩, main_file, main_sup⟩ rfl rfl (by decide) (fun A outer s H E x xs hl => ?_) (fun L => rfl) (fun L => rfl) (fun L => rfl) (fun L => rfl) (fun L => rfl)
  refine ⟨_, tAsg (tFld K (tVar 0) "parts") (gTup K 2 (gFlds K [("point" : Str), ("steps" : Str)])), pa_cons (pv 1) (pa_cons (pv 2) pa_nil), ps_asg (pe_fld (pv 0) rfl) (pg_tup rfl (pgs_cons (pg_attr (pv 0)) (pgs_cons (pg_attr (pv 0)) pgs_nil))), fun H1 Q hq => ?_, fun H1 tp dx ys D' hl hx ht k => read_tup rfl cl np (fun f hf => pp.noat f (List.mem_cons_of_mem _ (List.mem_cons_of_mem _ hf))) (by decide +kernel) (by decide +kernel) rfl (by decide) hl hx ht k⟩
  match xs, hl with
  | [v0, v1], _ => exact ⟨_, rfl, _, rfl, hq⟩
theorem pc_Plan : pcAt ("plan" : Str) = some ⟨("Plan" : Str), ("plan" : Str), false, 454, [("lots" : Str), ("rows" : Str)], [("lots" : Str), ("rows" : Str)]⟩ := by decide +kernel
theorem ok_Plan (T : Ctx K mg) (n : Nat) : FnOk PySem.Challenge.pw_nohalfseen_k91_papers_as_texts w K mg base CX0 (n + 4) 451 (fdOf K 451) P_Plan_init (spCls ("plan" : Str) n) := by
  have pp := pap_of (ba (T.a6 _ (pc_mem pc_Plan).1)).1
  have cl := cls_of pp.cl
  have np : NoAttr K 454 "parts" := pp.noat _ (List.mem_cons_of_mem _ List.mem_cons_self)
  refine cls_init rfl T pc_Plan n (r := r_Plan_init) m_Plan_init rfl rfl rfl sc_Plan_init ⟨rfl, rfl, rfl, rfl, ⟨_, rfl, rfl⟩, main_file, main_sup⟩ rfl rfl (by decide) (fun A outer s H E x xs hl => ?_) (fun L => rfl) (fun L => rfl) (fun L => rfl) (fun L => rfl) (fun L => rfl)
  refine ⟨_, tAsg (tFld K (tVar 0) "parts") (gTup K 2 (gFlds K [("lots" : Str), ("rows" : Str)])), pa_cons (pv 1) (pa_cons (pv 2) pa_nil), ps_asg (pe_fld (pv 0) rfl) (pg_tup rfl (pgs_cons (pg_attr (pv 0)) (pgs_cons (pg_attr (pv 0)) pgs_nil))), fun H1 Q hq => ?_, fun H1 tp dx ys D' hl hx ht k => read_tup rfl cl np (fun f hf => pp.noat f (List.mem_cons_of_mem _ (List.mem_cons_of_mem _ hf))) (by decide +kernel) (by decide +kernel) rfl (by decide) hl hx ht k⟩
  match xs, hl with
  | [v0, v1], _ => exact ⟨_, rfl, _, rfl, hq⟩
theorem pc_Spoil : pcAt ("spoil" : Str) = some ⟨("Spoil" : Str), ("spoil" : Str), true, 475, [("lots" : Str), ("rows" : Str)], [("lots" : Str), ("rows" : Str)]⟩ := by decide +kernel
theorem ok_Spoil (T : Ctx K mg) (n : Nat) : FnOk PySem.Challenge.pw_nohalfseen_k91_papers_as_texts w K mg base CX0 (n + 4) 472 (fdOf K 472) P_Spoil_init (spCls ("spoil" : Str) n) := by
  have pp := pap_of (ba (T.a6 _ (pc_mem pc_Spoil).1)).1
  have cl := cls_of pp.cl
  have np : NoAttr K 475 "parts" := pp.noat _ (List.mem_cons_of_mem _ List.mem_cons_self)
  refine cls_init rfl T pc_Spoil n (r := r_Spoil_init) m_Spoil_init rfl rfl rfl sc_Spoil_init ⟨rfl, rfl, rfl, rfl, ⟨_, rfl, rfl⟩, main_file, main_sup⟩ rfl rfl (by decide) (fun A outer s H E x xs hl => ?_) (fun L => rfl) (fun L => rfl) (fun L => rfl) (fun L => rfl) (fun L => rfl)
  refine ⟨_, tAsg (tFld K (tVar 0) "parts") (gTup K 2 (gFlds K [("lots" : Str), ("rows" : Str)])), pa_cons (pv 1) (pa_cons (pv 2) pa_nil), ps_asg (pe_fld (pv 0) rfl) (pg_tup rfl (pgs_cons (pg_attr (pv 0)) (pgs_cons (pg_attr (pv 0)) pgs_nil))), fun H1 Q hq => ?_, fun H1 tp dx ys D' hl hx ht k => read_tup rfl cl np (fun f hf => pp.noat f (List.mem_cons_of_mem _ (List.mem_cons_of_mem _ hf))) (by decide +kernel) (by decide +kernel) rfl (by decide) hl hx ht k⟩
  match xs, hl with
  | [v0, v1], _ => exact ⟨_, rfl, _, rfl, hq⟩
theorem pc_Within : pcAt ("within" : Str) = some ⟨("Within" : Str), ("within" : Str), false, 496, [("budget" : Str), ("lots" : Str), ("rows" : Str)], [("budget" : Str), ("lots" : Str), ("rows" : Str)]⟩ := by decide +kernel
theorem ok_Within (T : Ctx K mg) (n : Nat) : FnOk PySem.Challenge.pw_nohalfseen_k91_papers_as_texts w K mg base CX0 (n + 4) 493 (fdOf K 493) P_Within_init (spCls ("within" : Str) n) := by
  have pp := pap_of (ba (T.a6 _ (pc_mem pc_Within).1)).1
  have cl := cls_of pp.cl
  have np : NoAttr K 496 "parts" := pp.noat _ (List.mem_cons_of_mem _ List.mem_cons_self)
  refine cls_init rfl T pc_Within n (r := r_Within_init) m_Within_init rfl rfl rfl sc_Within_init ⟨rfl, rfl, rfl, rfl, ⟨_, rfl, rfl⟩, main_file, main_sup⟩ rfl rfl (by decide) (fun A outer s H E x xs hl => ?_) (fun L => rfl) (fun L => rfl) (fun L => rfl) (fun L => rfl) (fun L => rfl)
  refine ⟨_, tAsg (tFld K (tVar 0) "parts") (gTup K 3 (gFlds K [("budget" : Str), ("lots" : Str), ("rows" : Str)])), pa_cons (pv 1) (pa_cons (pv 2) (pa_cons (pv 3) pa_nil)), ps_asg (pe_fld (pv 0) rfl) (pg_tup rfl (pgs_cons (pg_attr (pv 0)) (pgs_cons (pg_attr (pv 0)) (pgs_cons (pg_attr (pv 0)) pgs_nil)))), fun H1 Q hq => ?_, fun H1 tp dx ys D' hl hx ht k => read_tup rfl cl np (fun f hf => pp.noat f (List.mem_cons_of_mem _ (List.mem_cons_of_mem _ hf))) (by decide +kernel) (by decide +kernel) rfl (by decide) hl hx ht k⟩
  match xs, hl with
  | [v0, v1, v2], _ => exact ⟨_, rfl, _, rfl, _, rfl, hq⟩
theorem pc_Crowd : pcAt ("crowd" : Str) = some ⟨("Crowd" : Str), ("crowd" : Str), false, 517, [("rows" : Str)], [("rows" : Str)]⟩ := by decide +kernel
theorem ok_Crowd (T : Ctx K mg) (n : Nat) : FnOk PySem.Challenge.pw_nohalfseen_k91_papers_as_texts w K mg base CX0 (n + 4) 514 (fdOf K 514) P_Crowd_init (spCls ("crowd" : Str) n) := by
  have pp := pap_of (ba (T.a6 _ (pc_mem pc_Crowd).1)).1
  have cl := cls_of pp.cl
  have np : NoAttr K 517 "parts" := pp.noat _ (List.mem_cons_of_mem _ List.mem_cons_self)
  refine cls_init rfl T pc_Crowd n (r := r_Crowd_init) m_Crowd_init rfl rfl rfl sc_Crowd_init ⟨rfl, rfl, rfl, rfl, ⟨_, rfl, rfl⟩, main_file, main_sup⟩ rfl rfl (by decide) (fun A outer s H E x xs hl => ?_) (fun L => rfl) (fun L => rfl) (fun L => rfl) (fun L => rfl) (fun L => rfl)
  refine ⟨_, sFld K (tVar 0) (tOp (rIxT K) (tFld K (tVar 0) "parts") (tC (.int 0))) ("rows" : Str), pa_cons (pv 1) pa_nil, ps_fld (pv 0) (pe_ix ix_tup (pe_fld (pv 0) rfl) pe_int (fun _ _ => rfl)) rfl, fun H1 Q hq => ?_, fun H1 tp dx ys D' hl hx ht k => read_one rfl cl np (pp.noat _ (List.mem_cons_of_mem _ (List.mem_cons_of_mem _ List.mem_cons_self))) (by decide +kernel) (by decide +kernel) hl hx ht k⟩
  match xs, hl with
  | [v0], _ => exact ⟨_, rfl, hq⟩
theorem pc_Keeps : pcAt ("keeps" : Str) = some ⟨("Keeps" : Str), ("keeps" : Str), false, 538, [("family" : Str), ("lots" : Str), ("rows" : Str)], [("family" : Str), ("lots" : Str), ("rows" : Str)]⟩ := by decide +kernel
theorem ok_Keeps (T : Ctx K mg) (n : Nat) : FnOk PySem.Challenge.pw_nohalfseen_k91_papers_as_texts w K mg base CX0 (n + 4) 535 (fdOf K 535) P_Keeps_init (spCls ("keeps" : Str) n) := by
  have pp := pap_of (ba (T.a6 _ (pc_mem pc_Keeps).1)).1
  have cl := cls_of pp.cl
  have np : NoAttr K 538 "parts" := pp.noat _ (List.mem_cons_of_mem _ List.mem_cons_self)
  refine cls_init rfl T pc_Keeps n (r := r_Keeps_init) m_Keeps_init rfl rfl rfl sc_Keeps_init ⟨rfl, rfl, rfl, rfl, ⟨_, rfl, rfl⟩, main_file, main_sup⟩ rfl rfl (by decide) (fun A outer s H E x xs hl => ?_) (fun L => rfl) (fun L => rfl) (fun L => rfl) (fun L => rfl) (fun L => rfl)
  refine ⟨_, tAsg (tFld K (tVar 0) "parts") (gTup K 3 (gFlds K [("family" : Str), ("lots" : Str), ("rows" : Str)])), pa_cons (pv 1) (pa_cons (pv 2) (pa_cons (pv 3) pa_nil)), ps_asg (pe_fld (pv 0) rfl) (pg_tup rfl (pgs_cons (pg_attr (pv 0)) (pgs_cons (pg_attr (pv 0)) (pgs_cons (pg_attr (pv 0)) pgs_nil)))), fun H1 Q hq => ?_, fun H1 tp dx ys D' hl hx ht k => read_tup rfl cl np (fun f hf => pp.noat f (List.mem_cons_of_mem _ (List.mem_cons_of_mem _ hf))) (by decide +kernel) (by decide +kernel) rfl (by decide) hl hx ht k⟩
  match xs, hl with
  | [v0, v1, v2], _ => exact ⟨_, rfl, _, rfl, _, rfl, hq⟩
theorem pc_Forgets : pcAt ("forgets" : Str) = some ⟨("Forgets" : Str), ("forgets" : Str), true, 559, [("rows" : Str)], [("rows" : Str)]⟩ := by decide +kernel
theorem ok_Forgets (T : Ctx K mg) (n : Nat) : FnOk PySem.Challenge.pw_nohalfseen_k91_papers_as_texts w K mg base CX0 (n + 4) 556 (fdOf K 556) P_Forgets_init (spCls ("forgets" : Str) n) := by
  have pp := pap_of (ba (T.a6 _ (pc_mem pc_Forgets).1)).1
  have cl := cls_of pp.cl
  have np : NoAttr K 559 "parts" := pp.noat _ (List.mem_cons_of_mem _ List.mem_cons_self)
  refine cls_init rfl T pc_Forgets n (r := r_Forgets_init) m_Forgets_init rfl rfl rfl sc_Forgets_init ⟨rfl, rfl, rfl, rfl, ⟨_, rfl, rfl⟩, main_file, main_sup⟩ rfl rfl (by decide) (fun A outer s H E x xs hl => ?_) (fun L => rfl) (fun L => rfl) (fun L => rfl) (fun L => rfl) (fun L => rfl)
  refine ⟨_, sFld K (tVar 0) (tOp (rIxT K) (tFld K (tVar 0) "parts") (tC (.int 0))) ("rows" : Str), pa_cons (pv 1) pa_nil, ps_fld (pv 0) (pe_ix ix_tup (pe_fld (pv 0) rfl) pe_int (fun _ _ => rfl)) rfl, fun H1 Q hq => ?_, fun H1 tp dx ys D' hl hx ht k => read_one rfl cl np (pp.noat _ (List.mem_cons_of_mem _ (List.mem_cons_of_mem _ List.mem_cons_self))) (by decide +kernel) (by decide +kernel) hl hx ht k⟩
  match xs, hl with
  | [v0], _ => exact ⟨_, rfl, hq⟩
theorem pc_Enough : pcAt ("enough" : Str) = some ⟨("Enough" : Str), ("enough" : Str), false, 580, [("least" : Str), ("greatest" : Str)], [("least" : Str), ("greatest" : Str)]⟩ := by decide +kernel
theorem ok_Enough (T : Ctx K mg) (n : Nat) : FnOk PySem.Challenge.pw_nohalfseen_k91_papers_as_texts w K mg base CX0 (n + 4) 577 (fdOf K 577) P_Enough_init (spCls ("enough" : Str) n) := by
  have pp := pap_of (ba (T.a6 _ (pc_mem pc_Enough).1)).1
  have cl := cls_of pp.cl
  have np : NoAttr K 580 "parts" := pp.noat _ (List.mem_cons_of_mem _ List.mem_cons_self)
  refine cls_init rfl T pc_Enough n (r := r_Enough_init) m_Enough_init rfl rfl rfl sc_Enough_init ⟨rfl, rfl, rfl, rfl, ⟨_, rfl, rfl⟩, main_file, main_sup⟩ rfl rfl (by decide) (fun A outer s H E x xs hl => ?_) (fun L => rfl) (fun L => rfl) (fun L => rfl) (fun L => rfl) (fun L => rfl)
  refine ⟨_, tAsg (tFld K (tVar 0) "parts") (gTup K 2 (gFlds K [("least" : Str), ("greatest" : Str)])), pa_cons (pv 1) (pa_cons (pv 2) pa_nil), ps_asg (pe_fld (pv 0) rfl) (pg_tup rfl (pgs_cons (pg_attr (pv 0)) (pgs_cons (pg_attr (pv 0)) pgs_nil))), fun H1 Q hq => ?_, fun H1 tp dx ys D' hl hx ht k => read_tup rfl cl np (fun f hf => pp.noat f (List.mem_cons_of_mem _ (List.mem_cons_of_mem _ hf))) (by decide +kernel) (by decide +kernel) rfl (by decide) hl hx ht k⟩
  match xs, hl with
  | [v0, v1], _ => exact ⟨_, rfl, _, rfl, hq⟩
theorem pc_Fits : pcAt ("fits" : Str) = some ⟨("Fits" : Str), ("fits" : Str), false, 601, [("moment" : Str), ("states" : Str)], [("moment" : Str), ("states" : Str)]⟩ := by decide +kernel
theorem ok_Fits (T : Ctx K mg) (n : Nat) : FnOk PySem.Challenge.pw_nohalfseen_k91_papers_as_texts w K mg base CX0 (n + 4) 598 (fdOf K 598) P_Fits_init (spCls ("fits" : Str) n) := by
  have pp := pap_of (ba (T.a6 _ (pc_mem pc_Fits).1)).1
  have cl := cls_of pp.cl
  have np : NoAttr K 601 "parts" := pp.noat _ (List.mem_cons_of_mem _ List.mem_cons_self)
  refine cls_init rfl T pc_Fits n (r := r_Fits_init) m_Fits_init rfl rfl rfl sc_Fits_init ⟨rfl, rfl, rfl, rfl, ⟨_, rfl, rfl⟩, main_file, main_sup⟩ rfl rfl (by decide) (fun A outer s H E x xs hl => ?_) (fun L => rfl) (fun L => rfl) (fun L => rfl) (fun L => rfl) (fun L => rfl)
  refine ⟨_, tAsg (tFld K (tVar 0) "parts") (gTup K 2 (gFlds K [("moment" : Str), ("states" : Str)])), pa_cons (pv 1) (pa_cons (pv 2) pa_nil), ps_asg (pe_fld (pv 0) rfl) (pg_tup rfl (pgs_cons (pg_attr (pv 0)) (pgs_cons (pg_attr (pv 0)) pgs_nil))), fun H1 Q hq => ?_, fun H1 tp dx ys D' hl hx ht k => read_tup rfl cl np (fun f hf => pp.noat f (List.mem_cons_of_mem _ (List.mem_cons_of_mem _ hf))) (by decide +kernel) (by decide +kernel) rfl (by decide) hl hx ht k⟩
  match xs, hl with
  | [v0, v1], _ => exact ⟨_, rfl, _, rfl, hq⟩
theorem pc_Unfit : pcAt ("unfit" : Str) = some ⟨("Unfit" : Str), ("unfit" : Str), true, 622, [("lots" : Str)], [("lots" : Str)]⟩ := by decide +kernel
theorem ok_Unfit (T : Ctx K mg) (n : Nat) : FnOk PySem.Challenge.pw_nohalfseen_k91_papers_as_texts w K mg base CX0 (n + 4) 619 (fdOf K 619) P_Unfit_init (spCls ("unfit" : Str) n) := by
  have pp := pap_of (ba (T.a6 _ (pc_mem pc_Unfit).1)).1
  have cl := cls_of pp.cl
  have np : NoAttr K 622 "parts" := pp.noat _ (List.mem_cons_of_mem _ List.mem_cons_self)
  refine cls_init rfl T pc_Unfit n (r := r_Unfit_init) m_Unfit_init rfl rfl rfl sc_Unfit_init ⟨rfl, rfl, rfl, rfl, ⟨_, rfl, rfl⟩, main_file, main_sup⟩ rfl rfl (by decide) (fun A outer s H E x xs hl => ?_) (fun L => rfl) (fun L => rfl) (fun L => rfl) (fun L => rfl) (fun L => rfl)
  refine ⟨_, sFld K (tVar 0) (tOp (rIxT K) (tFld K (tVar 0) "parts") (tC (.int 0))) ("lots" : Str), pa_cons (pv 1) pa_nil, ps_fld (pv 0) (pe_ix ix_tup (pe_fld (pv 0) rfl) pe_int (fun _ _ => rfl)) rfl, fun H1 Q hq => ?_, fun H1 tp dx ys D' hl hx ht k => read_one rfl cl np (pp.noat _ (List.mem_cons_of_mem _ (List.mem_cons_of_mem _ List.mem_cons_self))) (by decide +kernel) (by decide +kernel) hl hx ht k⟩
  match xs, hl with
  | [v0], _ => exact ⟨_, rfl, hq⟩
theorem pc_Known : pcAt ("known" : Str) = some ⟨("Known" : Str), ("known" : Str), false, 643, [("service" : Str), ("value" : Str)], [("service" : Str), ("value" : Str)]⟩ := by decide +kernel
theorem ok_Known (T : Ctx K mg) (n : Nat) : FnOk PySem.Challenge.pw_nohalfseen_k91_papers_as_texts w K mg base CX0 (n + 4) 640 (fdOf K 640) P_Known_init (spCls ("known" : Str) n) := by
  have pp := pap_of (ba (T.a6 _ (pc_mem pc_Known).1)).1
  have cl := cls_of pp.cl
  have np : NoAttr K 643 "parts" := pp.noat _ (List.mem_cons_of_mem _ List.mem_cons_self)
  refine cls_init rfl T pc_Known n (r := r_Known_init) m_Known_init rfl rfl rfl sc_Known_init ⟨rfl, rfl, rfl, rfl, ⟨_, rfl, rfl⟩, main_file, main_sup⟩ rfl rfl (by decide) (fun A outer s H E x xs hl => ?_) (fun L => rfl) (fun L => rfl) (fun L => rfl) (fun L => rfl) (fun L => rfl)
  refine ⟨_, tAsg (tFld K (tVar 0) "parts") (gTup K 2 (gFlds K [("service" : Str), ("value" : Str)])), pa_cons (pv 1) (pa_cons (pv 2) pa_nil), ps_asg (pe_fld (pv 0) rfl) (pg_tup rfl (pgs_cons (pg_attr (pv 0)) (pgs_cons (pg_attr (pv 0)) pgs_nil))), fun H1 Q hq => ?_, fun H1 tp dx ys D' hl hx ht k => read_tup rfl cl np (fun f hf => pp.noat f (List.mem_cons_of_mem _ (List.mem_cons_of_mem _ hf))) (by decide +kernel) (by decide +kernel) rfl (by decide) hl hx ht k⟩
  match xs, hl with
  | [v0, v1], _ => exact ⟨_, rfl, _, rfl, hq⟩
theorem pc_Alike : pcAt ("alike" : Str) = some ⟨("Alike" : Str), ("alike" : Str), true, 664, [("service" : Str), ("one" : Str), ("other" : Str)], [("service" : Str), ("one" : Str), ("other" : Str)]⟩ := by decide +kernel
theorem ok_Alike (T : Ctx K mg) (n : Nat) : FnOk PySem.Challenge.pw_nohalfseen_k91_papers_as_texts w K mg base CX0 (n + 4) 661 (fdOf K 661) P_Alike_init (spCls ("alike" : Str) n) := by
  have pp := pap_of (ba (T.a6 _ (pc_mem pc_Alike).1)).1
  have cl := cls_of pp.cl
  have np : NoAttr K 664 "parts" := pp.noat _ (List.mem_cons_of_mem _ List.mem_cons_self)
  refine cls_init rfl T pc_Alike n (r := r_Alike_init) m_Alike_init rfl rfl rfl sc_Alike_init ⟨rfl, rfl, rfl, rfl, ⟨_, rfl, rfl⟩, main_file, main_sup⟩ rfl rfl (by decide) (fun A outer s H E x xs hl => ?_) (fun L => rfl) (fun L => rfl) (fun L => rfl) (fun L => rfl) (fun L => rfl)
  refine ⟨_, tAsg (tFld K (tVar 0) "parts") (gTup K 3 (gFlds K [("service" : Str), ("one" : Str), ("other" : Str)])), pa_cons (pv 1) (pa_cons (pv 2) (pa_cons (pv 3) pa_nil)), ps_asg (pe_fld (pv 0) rfl) (pg_tup rfl (pgs_cons (pg_attr (pv 0)) (pgs_cons (pg_attr (pv 0)) (pgs_cons (pg_attr (pv 0)) pgs_nil)))), fun H1 Q hq => ?_, fun H1 tp dx ys D' hl hx ht k => read_tup rfl cl np (fun f hf => pp.noat f (List.mem_cons_of_mem _ (List.mem_cons_of_mem _ hf))) (by decide +kernel) (by decide +kernel) rfl (by decide) hl hx ht k⟩
  match xs, hl with
  | [v0, v1, v2], _ => exact ⟨_, rfl, _, rfl, _, rfl, hq⟩
theorem pc_Sayable : pcAt ("sayable" : Str) = some ⟨("Sayable" : Str), ("sayable" : Str), false, 685, [("word" : Str)], [("said" : Str)]⟩ := by decide +kernel
theorem ok_Sayable (T : Ctx K mg) (n : Nat) : FnOk PySem.Challenge.pw_nohalfseen_k91_papers_as_texts w K mg base CX0 (n + 4) 682 (fdOf K 682) P_Sayable_init (spCls ("sayable" : Str) n) := by
  have pp := pap_of (ba (T.a6 _ (pc_mem pc_Sayable).1)).1
  have cl := cls_of pp.cl
  have np : NoAttr K 685 "parts" := pp.noat _ (List.mem_cons_of_mem _ List.mem_cons_self)
  refine cls_init rfl T pc_Sayable n (r := r_Sayable_init) m_Sayable_init rfl rfl rfl sc_Sayable_init ⟨rfl, rfl, rfl, rfl, ⟨_, rfl, rfl⟩, main_file, main_sup⟩ rfl rfl (by decide) (fun A outer s H E x xs hl => ?_) (fun L => rfl) (fun L => rfl) (fun L => rfl) (fun L => rfl) (fun L => rfl)
  refine ⟨_, sFld K (tVar 0) (tOp (rIxT K) (tFld K (tVar 0) "parts") (tC (.int 0))) ("said" : Str), pa_cons (pv 1) pa_nil, ps_fld (pv 0) (pe_ix ix_tup (pe_fld (pv 0) rfl) pe_int (fun _ _ => rfl)) rfl, fun H1 Q hq => ?_, fun H1 tp dx ys D' hl hx ht k => read_one rfl cl np (pp.noat _ (List.mem_cons_of_mem _ (List.mem_cons_of_mem _ List.mem_cons_self))) (by decide +kernel) (by decide +kernel) hl hx ht k⟩
  match xs, hl with
  | [v0], _ => exact ⟨_, rfl, hq⟩
theorem pc_Barred : pcAt ("barred" : Str) = some ⟨("Barred" : Str), ("barred" : Str), true, 706, [("word" : Str), ("run" : Str)], [("said" : Str), ("run" : Str)]⟩ := by decide +kernel
theorem ok_Barred (T : Ctx K mg) (n : Nat) : FnOk PySem.Challenge.pw_nohalfseen_k91_papers_as_texts w K mg base CX0 (n + 4) 703 (fdOf K 703) P_Barred_init (spCls ("barred" : Str) n) := by
  have pp := pap_of (ba (T.a6 _ (pc_mem pc_Barred).1)).1
  have cl := cls_of pp.cl
  have np : NoAttr K 706 "parts" := pp.noat _ (List.mem_cons_of_mem _ List.mem_cons_self)
  refine cls_init rfl T pc_Barred n (r := r_Barred_init) m_Barred_init rfl rfl rfl sc_Barred_init ⟨rfl, rfl, rfl, rfl, ⟨_, rfl, rfl⟩, main_file, main_sup⟩ rfl rfl (by decide) (fun A outer s H E x xs hl => ?_) (fun L => rfl) (fun L => rfl) (fun L => rfl) (fun L => rfl) (fun L => rfl)
  refine ⟨_, tAsg (tFld K (tVar 0) "parts") (gTup K 2 (gFlds K [("said" : Str), ("run" : Str)])), pa_cons (pv 1) (pa_cons (pv 2) pa_nil), ps_asg (pe_fld (pv 0) rfl) (pg_tup rfl (pgs_cons (pg_attr (pv 0)) (pgs_cons (pg_attr (pv 0)) pgs_nil))), fun H1 Q hq => ?_, fun H1 tp dx ys D' hl hx ht k => read_tup rfl cl np (fun f hf => pp.noat f (List.mem_cons_of_mem _ (List.mem_cons_of_mem _ hf))) (by decide +kernel) (by decide +kernel) rfl (by decide) hl hx ht k⟩
  match xs, hl with
  | [v0, v1], _ => exact ⟨_, rfl, _, rfl, hq⟩
theorem pc_Seemly : pcAt ("seemly" : Str) = some ⟨("Seemly" : Str), ("seemly" : Str), false, 727, [("begin" : Str), ("order" : Str), ("moment" : Str), ("states" : Str)], [("begin" : Str), ("order" : Str), ("moment" : Str), ("states" : Str)]⟩ := by decide +kernel
theorem ok_Seemly (T : Ctx K mg) (n : Nat) : FnOk PySem.Challenge.pw_nohalfseen_k91_papers_as_texts w K mg base CX0 (n + 4) 724 (fdOf K 724) P_Seemly_init (spCls ("seemly" : Str) n) := by
  have pp := pap_of (ba (T.a6 _ (pc_mem pc_Seemly).1)).1
  have cl := cls_of pp.cl
  have np : NoAttr K 727 "parts" := pp.noat _ (List.mem_cons_of_mem _ List.mem_cons_self)
  refine cls_init rfl T pc_Seemly n (r := r_Seemly_init) m_Seemly_init rfl rfl rfl sc_Seemly_init ⟨rfl, rfl, rfl, rfl, ⟨_, rfl, rfl⟩, main_file, main_sup⟩ rfl rfl (by decide) (fun A outer s H E x xs hl => ?_) (fun L => rfl) (fun L => rfl) (fun L => rfl) (fun L => rfl) (fun L => rfl)
  refine ⟨_, tAsg (tFld K (tVar 0) "parts") (gTup K 4 (gFlds K [("begin" : Str), ("order" : Str), ("moment" : Str), ("states" : Str)])), pa_cons (pv 1) (pa_cons (pv 2) (pa_cons (pv 3) (pa_cons (pv 4) pa_nil))), ps_asg (pe_fld (pv 0) rfl) (pg_tup rfl (pgs_cons (pg_attr (pv 0)) (pgs_cons (pg_attr (pv 0)) (pgs_cons (pg_attr (pv 0)) (pgs_cons (pg_attr (pv 0)) pgs_nil))))), fun H1 Q hq => ?_, fun H1 tp dx ys D' hl hx ht k => read_tup rfl cl np (fun f hf => pp.noat f (List.mem_cons_of_mem _ (List.mem_cons_of_mem _ hf))) (by decide +kernel) (by decide +kernel) rfl (by decide) hl hx ht k⟩
  match xs, hl with
  | [v0, v1, v2, v3], _ => exact ⟨_, rfl, _, rfl, _, rfl, _, rfl, hq⟩
theorem pc_Unseemly : pcAt ("unseemly" : Str) = some ⟨("Unseemly" : Str), ("unseemly" : Str), true, 748, [("rows" : Str)], [("rows" : Str)]⟩ := by decide +kernel
theorem ok_Unseemly (T : Ctx K mg) (n : Nat) : FnOk PySem.Challenge.pw_nohalfseen_k91_papers_as_texts w K mg base CX0 (n + 4) 745 (fdOf K 745) P_Unseemly_init (spCls ("unseemly" : Str) n) := by
  have pp := pap_of (ba (T.a6 _ (pc_mem pc_Unseemly).1)).1
  have cl := cls_of pp.cl
  have np : NoAttr K 748 "parts" := pp.noat _ (List.mem_cons_of_mem _ List.mem_cons_self)
  refine cls_init rfl T pc_Unseemly n (r := r_Unseemly_init) m_Unseemly_init rfl rfl rfl sc_Unseemly_init ⟨rfl, rfl, rfl, rfl, ⟨_, rfl, rfl⟩, main_file, main_sup⟩ rfl rfl (by decide) (fun A outer s H E x xs hl => ?_) (fun L => rfl) (fun L => rfl) (fun L => rfl) (fun L => rfl) (fun L => rfl)
  refine ⟨_, sFld K (tVar 0) (tOp (rIxT K) (tFld K (tVar 0) "parts") (tC (.int 0))) ("rows" : Str), pa_cons (pv 1) pa_nil, ps_fld (pv 0) (pe_ix ix_tup (pe_fld (pv 0) rfl) pe_int (fun _ _ => rfl)) rfl, fun H1 Q hq => ?_, fun H1 tp dx ys D' hl hx ht k => read_one rfl cl np (pp.noat _ (List.mem_cons_of_mem _ (List.mem_cons_of_mem _ List.mem_cons_self))) (by decide +kernel) (by decide +kernel) hl hx ht k⟩
  match xs, hl with
  | [v0], _ => exact ⟨_, rfl, hq⟩
theorem pc_Order : pcAt ("order" : Str) = some ⟨("Order" : Str), ("order" : Str), false, 769, [("names" : Str), ("lots" : Str), ("rows" : Str)], [("names" : Str), ("lots" : Str), ("rows" : Str)]⟩ := by decide +kernel
theorem ok_Order (T : Ctx K mg) (n : Nat) : FnOk PySem.Challenge.pw_nohalfseen_k91_papers_as_texts w K mg base CX0 (n + 4) 766 (fdOf K 766) P_Order_init (spCls ("order" : Str) n) := by
  have pp := pap_of (ba (T.a6 _ (pc_mem pc_Order).1)).1
  have cl := cls_of pp.cl
  have np : NoAttr K 769 "parts" := pp.noat _ (List.mem_cons_of_mem _ List.mem_cons_self)
  refine cls_init rfl T pc_Order n (r := r_Order_init) m_Order_init rfl rfl rfl sc_Order_init ⟨rfl, rfl, rfl, rfl, ⟨_, rfl, rfl⟩, main_file, main_sup⟩ rfl rfl (by decide) (fun A outer s H E x xs hl => ?_) (fun L => rfl) (fun L => rfl) (fun L => rfl) (fun L => rfl) (fun L => rfl)
  refine ⟨_, tAsg (tFld K (tVar 0) "parts") (gTup K 3 (gFlds K [("names" : Str), ("lots" : Str), ("rows" : Str)])), pa_cons (pv 1) (pa_cons (pv 2) (pa_cons (pv 3) pa_nil)), ps_asg (pe_fld (pv 0) rfl) (pg_tup rfl (pgs_cons (pg_attr (pv 0)) (pgs_cons (pg_attr (pv 0)) (pgs_cons (pg_attr (pv 0)) pgs_nil)))), fun H1 Q hq => ?_, fun H1 tp dx ys D' hl hx ht k => read_tup rfl cl np (fun f hf => pp.noat f (List.mem_cons_of_mem _ (List.mem_cons_of_mem _ hf))) (by decide +kernel) (by decide +kernel) rfl (by decide) hl hx ht k⟩
  match xs, hl with
  | [v0, v1, v2], _ => exact ⟨_, rfl, _, rfl, _, rfl, hq⟩
theorem pc_Unordered : pcAt ("unordered" : Str) = some ⟨("Unordered" : Str), ("unordered" : Str), true, 790, [("names" : Str), ("replies" : Str), ("why" : Str)], [("names" : Str), ("replies" : Str), ("why" : Str)]⟩ := by decide +kernel
theorem ok_Unordered (T : Ctx K mg) (n : Nat) : FnOk PySem.Challenge.pw_nohalfseen_k91_papers_as_texts w K mg base CX0 (n + 4) 787 (fdOf K 787) P_Unordered_init (spCls ("unordered" : Str) n) := by
  have pp := pap_of (ba (T.a6 _ (pc_mem pc_Unordered).1)).1
  have cl := cls_of pp.cl
  have np : NoAttr K 790 "parts" := pp.noat _ (List.mem_cons_of_mem _ List.mem_cons_self)
  refine cls_init rfl T pc_Unordered n (r := r_Unordered_init) m_Unordered_init rfl rfl rfl sc_Unordered_init ⟨rfl, rfl, rfl, rfl, ⟨_, rfl, rfl⟩, main_file, main_sup⟩ rfl rfl (by decide) (fun A outer s H E x xs hl => ?_) (fun L => rfl) (fun L => rfl) (fun L => rfl) (fun L => rfl) (fun L => rfl)
  refine ⟨_, tAsg (tFld K (tVar 0) "parts") (gTup K 3 (gFlds K [("names" : Str), ("replies" : Str), ("why" : Str)])), pa_cons (pv 1) (pa_cons (pv 2) (pa_cons (pv 3) pa_nil)), ps_asg (pe_fld (pv 0) rfl) (pg_tup rfl (pgs_cons (pg_attr (pv 0)) (pgs_cons (pg_attr (pv 0)) (pgs_cons (pg_attr (pv 0)) pgs_nil)))), fun H1 Q hq => ?_, fun H1 tp dx ys D' hl hx ht k => read_tup rfl cl np (fun f hf => pp.noat f (List.mem_cons_of_mem _ (List.mem_cons_of_mem _ hf))) (by decide +kernel) (by decide +kernel) rfl (by decide) hl hx ht k⟩
  match xs, hl with
  | [v0, v1, v2], _ => exact ⟨_, rfl, _, rfl, _, rfl, hq⟩
theorem pc_Matching : pcAt ("matching" : Str) = some ⟨("Matching" : Str), ("matching" : Str), false, 811, [("pairs" : Str)], [("pairs" : Str)]⟩ := by decide +kernel
theorem ok_Matching (T : Ctx K mg) (n : Nat) : FnOk PySem.Challenge.pw_nohalfseen_k91_papers_as_texts w K mg base CX0 (n + 4) 808 (fdOf K 808) P_Matching_init (spCls ("matching" : Str) n) := by
  have pp := pap_of (ba (T.a6 _ (pc_mem pc_Matching).1)).1
  have cl := cls_of pp.cl
  have np : NoAttr K 811 "parts" := pp.noat _ (List.mem_cons_of_mem _ List.mem_cons_self)
  refine cls_init rfl T pc_Matching n (r := r_Matching_init) m_Matching_init rfl rfl rfl sc_Matching_init ⟨rfl, rfl, rfl, rfl, ⟨_, rfl, rfl⟩, main_file, main_sup⟩ rfl rfl (by decide) (fun A outer s H E x xs hl => ?_) (fun L => rfl) (fun L => rfl) (fun L => rfl) (fun L => rfl) (fun L => rfl)
  refine ⟨_, sFld K (tVar 0) (tOp (rIxT K) (tFld K (tVar 0) "parts") (tC (.int 0))) ("pairs" : Str), pa_cons (pv 1) pa_nil, ps_fld (pv 0) (pe_ix ix_tup (pe_fld (pv 0) rfl) pe_int (fun _ _ => rfl)) rfl, fun H1 Q hq => ?_, fun H1 tp dx ys D' hl hx ht k => read_one rfl cl np (pp.noat _ (List.mem_cons_of_mem _ (List.mem_cons_of_mem _ List.mem_cons_self))) (by decide +kernel) (by decide +kernel) hl hx ht k⟩
  match xs, hl with
  | [v0], _ => exact ⟨_, rfl, hq⟩
theorem pc_Apart : pcAt ("apart" : Str) = some ⟨("Apart" : Str), ("apart" : Str), true, 832, [("begin" : Str), ("replies" : Str)], [("begin" : Str), ("replies" : Str)]⟩ := by decide +kernel
theorem ok_Apart (T : Ctx K mg) (n : Nat) : FnOk PySem.Challenge.pw_nohalfseen_k91_papers_as_texts w K mg base CX0 (n + 4) 829 (fdOf K 829) P_Apart_init (spCls ("apart" : Str) n) := by
  have pp := pap_of (ba (T.a6 _ (pc_mem pc_Apart).1)).1
  have cl := cls_of pp.cl
  have np : NoAttr K 832 "parts" := pp.noat _ (List.mem_cons_of_mem _ List.mem_cons_self)
  refine cls_init rfl T pc_Apart n (r := r_Apart_init) m_Apart_init rfl rfl rfl sc_Apart_init ⟨rfl, rfl, rfl, rfl, ⟨_, rfl, rfl⟩, main_file, main_sup⟩ rfl rfl (by decide) (fun A outer s H E x xs hl => ?_) (fun L => rfl) (fun L => rfl) (fun L => rfl) (fun L => rfl) (fun L => rfl)
  refine ⟨_, tAsg (tFld K (tVar 0) "parts") (gTup K 2 (gFlds K [("begin" : Str), ("replies" : Str)])), pa_cons (pv 1) (pa_cons (pv 2) pa_nil), ps_asg (pe_fld (pv 0) rfl) (pg_tup rfl (pgs_cons (pg_attr (pv 0)) (pgs_cons (pg_attr (pv 0)) pgs_nil))), fun H1 Q hq => ?_, fun H1 tp dx ys D' hl hx ht k => read_tup rfl cl np (fun f hf => pp.noat f (List.mem_cons_of_mem _ (List.mem_cons_of_mem _ hf))) (by decide +kernel) (by decide +kernel) rfl (by decide) hl hx ht k⟩
  match xs, hl with
  | [v0, v1], _ => exact ⟨_, rfl, _, rfl, hq⟩
theorem pc_Shorter : pcAt ("shorter" : Str) = some ⟨("Shorter" : Str), ("shorter" : Str), false, 853, [("rows" : Str), ("restarts" : Str), ("numbers" : Str), ("apart" : Str)], [("rows" : Str), ("restarts" : Str), ("numbers" : Str), ("apart" : Str)]⟩ := by decide +kernel
theorem ok_Shorter (T : Ctx K mg) (n : Nat) : FnOk PySem.Challenge.pw_nohalfseen_k91_papers_as_texts w K mg base CX0 (n + 4) 850 (fdOf K 850) P_Shorter_init (spCls ("shorter" : Str) n) := by
  have pp := pap_of (ba (T.a6 _ (pc_mem pc_Shorter).1)).1
  have cl := cls_of pp.cl
  have np : NoAttr K 853 "parts" := pp.noat _ (List.mem_cons_of_mem _ List.mem_cons_self)
  refine cls_init rfl T pc_Shorter n (r := r_Shorter_init) m_Shorter_init rfl rfl rfl sc_Shorter_init ⟨rfl, rfl, rfl, rfl, ⟨_, rfl, rfl⟩, main_file, main_sup⟩ rfl rfl (by decide) (fun A outer s H E x xs hl => ?_) (fun L => rfl) (fun L => rfl) (fun L => rfl) (fun L => rfl) (fun L => rfl)
  refine ⟨_, tAsg (tFld K (tVar 0) "parts") (gTup K 4 (gFlds K [("rows" : Str), ("restarts" : Str), ("numbers" : Str), ("apart" : Str)])), pa_cons (pv 1) (pa_cons (pv 2) (pa_cons (pv 3) (pa_cons (pv 4) pa_nil))), ps_asg (pe_fld (pv 0) rfl) (pg_tup rfl (pgs_cons (pg_attr (pv 0)) (pgs_cons (pg_attr (pv 0)) (pgs_cons (pg_attr (pv 0)) (pgs_cons (pg_attr (pv 0)) pgs_nil))))), fun H1 Q hq => ?_, fun H1 tp dx ys D' hl hx ht k => read_tup rfl cl np (fun f hf => pp.noat f (List.mem_cons_of_mem _ (List.mem_cons_of_mem _ hf))) (by decide +kernel) (by decide +kernel) rfl (by decide) hl hx ht k⟩
  match xs, hl with
  | [v0, v1, v2, v3], _ => exact ⟨_, rfl, _, rfl, _, rfl, _, rfl, hq⟩
theorem pc_Soonest : pcAt ("soonest" : Str) = some ⟨("Soonest" : Str), ("soonest" : Str), false, 874, [("steps" : Str), ("plan" : Str), ("delay" : Str)], [("steps" : Str), ("plan" : Str), ("delay" : Str)]⟩ := by decide +kernel
theorem ok_Soonest (T : Ctx K mg) (n : Nat) : FnOk PySem.Challenge.pw_nohalfseen_k91_papers_as_texts w K mg base CX0 (n + 4) 871 (fdOf K 871) P_Soonest_init (spCls ("soonest" : Str) n) := by
  have pp := pap_of (ba (T.a6 _ (pc_mem pc_Soonest).1)).1
  have cl := cls_of pp.cl
  have np : NoAttr K 874 "parts" := pp.noat _ (List.mem_cons_of_mem _ List.mem_cons_self)
  refine cls_init rfl T pc_Soonest n (r := r_Soonest_init) m_Soonest_init rfl rfl rfl sc_Soonest_init ⟨rfl, rfl, rfl, rfl, ⟨_, rfl, rfl⟩, main_file, main_sup⟩ rfl rfl (by decide) (fun A outer s H E x xs hl => ?_) (fun L => rfl) (fun L => rfl) (fun L => rfl) (fun L => rfl) (fun L => rfl)
  refine ⟨_, tAsg (tFld K (tVar 0) "parts") (gTup K 3 (gFlds K [("steps" : Str), ("plan" : Str), ("delay" : Str)])), pa_cons (pv 1) (pa_cons (pv 2) (pa_cons (pv 3) pa_nil)), ps_asg (pe_fld (pv 0) rfl) (pg_tup rfl (pgs_cons (pg_attr (pv 0)) (pgs_cons (pg_attr (pv 0)) (pgs_cons (pg_attr (pv 0)) pgs_nil)))), fun H1 Q hq => ?_, fun H1 tp dx ys D' hl hx ht k => read_tup rfl cl np (fun f hf => pp.noat f (List.mem_cons_of_mem _ (List.mem_cons_of_mem _ hf))) (by decide +kernel) (by decide +kernel) rfl (by decide) hl hx ht k⟩
  match xs, hl with
  | [v0, v1, v2], _ => exact ⟨_, rfl, _, rfl, _, rfl, hq⟩
theorem pc_Delay : pcAt ("delay" : Str) = some ⟨("Delay" : Str), ("delay" : Str), true, 895, [("steps" : Str), ("lots" : Str), ("rows" : Str)], [("steps" : Str), ("lots" : Str), ("rows" : Str)]⟩ := by decide +kernel
theorem ok_Delay (T : Ctx K mg) (n : Nat) : FnOk PySem.Challenge.pw_nohalfseen_k91_papers_as_texts w K mg base CX0 (n + 4) 892 (fdOf K 892) P_Delay_init (spCls ("delay" : Str) n) := by
  have pp := pap_of (ba (T.a6 _ (pc_mem pc_Delay).1)).1
  have cl := cls_of pp.cl
  have np : NoAttr K 895 "parts" := pp.noat _ (List.mem_cons_of_mem _ List.mem_cons_self)
  refine cls_init rfl T pc_Delay n (r := r_Delay_init) m_Delay_init rfl rfl rfl sc_Delay_init ⟨rfl, rfl, rfl, rfl, ⟨_, rfl, rfl⟩, main_file, main_sup⟩ rfl rfl (by decide) (fun A outer s H E x xs hl => ?_) (fun L => rfl) (fun L => rfl) (fun L => rfl) (fun L => rfl) (fun L => rfl)
  refine ⟨_, tAsg (tFld K (tVar 0) "parts") (gTup K 3 (gFlds K [("steps" : Str), ("lots" : Str), ("rows" : Str)])), pa_cons (pv 1) (pa_cons (pv 2) (pa_cons (pv 3) pa_nil)), ps_asg (pe_fld (pv 0) rfl) (pg_tup rfl (pgs_cons (pg_attr (pv 0)) (pgs_cons (pg_attr (pv 0)) (pgs_cons (pg_attr (pv 0)) pgs_nil)))), fun H1 Q hq => ?_, fun H1 tp dx ys D' hl hx ht k => read_tup rfl cl np (fun f hf => pp.noat f (List.mem_cons_of_mem _ (List.mem_cons_of_mem _ hf))) (by decide +kernel) (by decide +kernel) rfl (by decide) hl hx ht k⟩
  match xs, hl with
  | [v0, v1, v2], _ => exact ⟨_, rfl, _, rfl, _, rfl, hq⟩
theorem pc_Turning : pcAt ("turning" : Str) = some ⟨("Turning" : Str), ("turning" : Str), false, 916, [("rows" : Str)], [("rows" : Str)]⟩ := by decide +kernel
theorem ok_Turning (T : Ctx K mg) (n : Nat) : FnOk PySem.Challenge.pw_nohalfseen_k91_papers_as_texts w K mg base CX0 (n + 4) 913 (fdOf K 913) P_Turning_init (spCls ("turning" : Str) n) := by
  have pp := pap_of (ba (T.a6 _ (pc_mem pc_Turning).1)).1
  have cl := cls_of pp.cl
  have np : NoAttr K 916 "parts" := pp.noat _ (List.mem_cons_of_mem _ List.mem_cons_self)
  refine cls_init rfl T pc_Turning n (r := r_Turning_init) m_Turning_init rfl rfl rfl sc_Turning_init ⟨rfl, rfl, rfl, rfl, ⟨_, rfl, rfl⟩, main_file, main_sup⟩ rfl rfl (by decide) (fun A outer s H E x xs hl => ?_) (fun L => rfl) (fun L => rfl) (fun L => rfl) (fun L => rfl) (fun L => rfl)
  refine ⟨_, sFld K (tVar 0) (tOp (rIxT K) (tFld K (tVar 0) "parts") (tC (.int 0))) ("rows" : Str), pa_cons (pv 1) pa_nil, ps_fld (pv 0) (pe_ix ix_tup (pe_fld (pv 0) rfl) pe_int (fun _ _ => rfl)) rfl, fun H1 Q hq => ?_, fun H1 tp dx ys D' hl hx ht k => read_one rfl cl np (pp.noat _ (List.mem_cons_of_mem _ (List.mem_cons_of_mem _ List.mem_cons_self))) (by decide +kernel) (by decide +kernel) hl hx ht k⟩
  match xs, hl with
  | [v0], _ => exact ⟨_, rfl, hq⟩
end
end K91
set_option Elab.async false
set_option linter.all false
set_option maxRecDepth 100000
set_option maxHeartbeats 2000000
/-! K91, Z: errors and papers are made. -/
namespace K91
open PySem PySem.Spec PyProof.Rows L2
abbrev PW : Program := PySem.Challenge.pw_nohalfseen_k91_papers_as_texts
/-- an exception's __init__ -/
def spExc (C : Addr) (n : Nat) (fsO : List V → List (Str × V)) : Sp := fun vs H Q _ => ∃ (x : Addr) (xs : List V), vs = .ref x :: xs ∧ xs.length = n ∧ H x = some (exo x C none) ∧
  ∀ dx H', H dx = none → dx ≠ x → H' x = some (exo x C (some dx)) → H' dx = some (exd dx (fsO xs)) → (∀ b, b ≠ x → b ≠ dx → H' b = H b) → Q .non H'
section
variable {w : World} {K : PySem.W.Frag} {mg : Str → Option Value} {base : Heap} {CX : CXT}
theorem bindsS {f cc D cda : Addr} {name qual : Str} {params : Arguments} {body : List Stmt} {scope : Scope} {fd : FuncData} {ps : List Str} (F : FnS K f cc D name qual params body scope fd cda)
    (h : ∀ (kV doc pm : Value) (an : Option Addr) (ct : Value) (us : List Value), us.length = ps.length → bindArgs (PySem.W.ksFn name qual params body scope .none kV doc pm an (.ref cda) ct cc) ⟨us, []⟩ = pure (ps.zip us)) : Binds K fd ps [] := by
  obtain ⟨oc, od, kV, doc, pm, an, ct, osl, rfl, lk⟩ := F.ex
  exact .all (h kV doc pm an ct)
theorem exc_init {r : FnRow} (T : Ctx K mg) (hr : r ∈ fnRows) {cc D C : Addr} {fs args : List Str} {fsO : List V → List (Str × V)} (hcell : r.cell = some (cc, D)) (X : XC K C D r.at_ fs) {N : List Str}
    (S : FnScopeS N (("self" : Str) :: args) (defScope r.st)) (SS : SupS PW (defScope r.st) (defArgs r.st)) {p0 p1 apos pos pos2 : Pos} {e : Expr} {es : List Expr} {rest : List Stmt} {pl : Sem Bool}
    (hb : defBody r.st = .Expr (.Call (.Attribute (.Call (.Name "super" p0) [] [] p1) "__init__" apos) (e :: es) [] pos) pos2 :: rest)
    (hN : N[0]? = some ("self" : Str)) (hal : args.length ≤ 900)
    (body : ∀ (A : Around) (outer : List Env) (s : Shared) (H : Hp) (E : XK) (x : Addr) (xs : List V), xs.length = args.length →
      ∃ t t2, PA (cxS CX0 PW w K mg base N r.qual (defScope r.st) r.at_ (.ref r.code) cc A outer s H E) (e :: es) t ∧ PSs (cxS CX0 PW w K mg base N r.qual (defScope r.st) r.at_ (.ref r.code) cc A outer s H E) rest t2 ∧
        (∀ (H1 : Hp) (Q : List V → Hp → Prop), Q xs H1 → t (L2.start N (.ref x :: xs)) H1 Q) ∧
        (∀ (H1 : Hp) (D' : Ends), H1 x = some (exo x C none) → (∀ σ dx H', H1 dx = none → dx ≠ x → H' x = some (exo x C (some dx)) → H' dx = some (exd dx (fsO xs)) → (∀ b, b ≠ x → b ≠ dx → H' b = H1 b) → D'.nx σ H') → t2 D' (L2.start N (.ref x :: xs)) H1))
    (he : ∀ (L : Addr), eval (.Call (.Attribute (.Call (.Name "super" p0) [] [] p1) "__init__" apos) (e :: es) [] pos) (envS r.qual (defScope r.st) L r.at_ (.ref r.code) cc) = (do
      let ov ← attributeBase (.Call (.Name "super" p0) [] [] p1) "__init__" (envS r.qual (defScope r.st) L r.at_ (.ref r.code) cc) (eval (.Call (.Name "super" p0) [] [] p1) (envS r.qual (defScope r.st) L r.at_ (.ref r.code) cc))
      standAt apos.atName
      let (fz, first) ← holding [ov] (getMethod ov "__init__" pl)
      callWith pos fz first (backTo pos (starEach (e :: es) (envS r.qual (defScope r.st) L r.at_ (.ref r.code) cc))) []))
    (hst : ∀ L : Addr, starEach (e :: es) (envS r.qual (defScope r.st) L r.at_ (.ref r.code) cc) = (false, eval e (envS r.qual (defScope r.st) L r.at_ (.ref r.code) cc)) :: starEach es (envS r.qual (defScope r.st) L r.at_ (.ref r.code) cc))
    (hpl : ∀ L : Addr, (backTo pos (starEach es (envS r.qual (defScope r.st) L r.at_ (.ref r.code) cc))).any (·.1) = false)
    (hi : ∀ L : Addr, interactive (envS r.qual (defScope r.st) L r.at_ (.ref r.code) cc) = false)
    (hsw : ∀ L : Addr, swapsWith (.Call (.Attribute (.Call (.Name "super" p0) [] [] p1) "__init__" apos) (e :: es) [] pos) none pos2.line (envS r.qual (defScope r.st) L r.at_ (.ref r.code) cc) = pure false) :
    FnOk PW w K mg base CX0 1 r.at_ (fdOf K r.at_) (("self" : Str) :: args) (spExc C args.length fsO) := by
  obtain ⟨F, kp⟩ := T.funS r hr hcell
  refine fn_ofS (k := 0) F S (fun vs H Q E h => ?_) fun A outer s H vs Q E hr' h s1 I => ?_
  · obtain ⟨x, xs, rfl, h1, _⟩ := h
    rw [List.length_cons, List.length_cons, h1]
  · obtain ⟨x, xs, rfl, h1, hx, k⟩ := h
    obtain ⟨t, t2, ht, ht2, hread, hread2⟩ := body A outer s H E x xs h1
    rw [hb]
    have hσ : (L2.start N (.ref x :: xs))[0]? = some (some (.ref x)) := rfl
    refine ks_wpAt_execs_cons (ks_wpAt_mono (super_exc (P := PW) (D' := { nx := fun σ' H' => t2 { nx := fun _ H' => Q .non H', rt := Q } σ' H', rt := Q }) I F X.sx X.ox SS T.free hN hσ hx ht (hread H _ ⟨hx, by rw [h1]; omega, ?_⟩) (he _) (hst _) (hpl _) (hi _) (hsw _)) (fun fl s' hs => ?_) fun e s' hs => hs)
    · exact hread2 H _ hx fun σ dx H' a b c d e => k dx H' a b c d e
    · cases fl with
      | next =>
        obtain ⟨σ', H', I', q⟩ := hs
        refine wpAt_of_wpAny (thn (ht2.run [] s' σ' H' _ I' q) fun f2 s2 hs2 => ?_)
        cases f2 with
        | next =>
          obtain ⟨σ2, H2, I2, q2⟩ := hs2
          exact ⟨σ2, H2, I2, q2⟩
        | ret u => exact hs2
        | brk => exact hs2
        | cont => exact hs2
      | ret u => exact hs
      | brk => exact hs
      | cont => exact hs
theorem ok_text_init (T : Ctx K mg) : FnOk PW w K mg base CX0 1 179 (fdOf K 179) P_BadText_init (spExc 182 2 fun vs => match vs with
    | [l, d] => [(("word" : Str), d), (("line" : Str), l)]
    | _ => []) := by
  refine exc_init (r := r_BadText_init) T m_BadText_init rfl T.xtxt sc_BadText_init ⟨rfl, rfl, rfl, rfl, ⟨_, rfl, rfl⟩, main_file, main_sup⟩ rfl rfl (by decide) (fun A outer s H E x xs hl => ?_) (fun L => rfl) (fun L => rfl) (fun L => rfl) (fun L => rfl) (fun L => rfl)
  refine ⟨_, _, pa_cons (pv 1) (pa_cons (pv 2) pa_nil), pss_cons (ps_ost (pv 0) (pv 1)) (pss_one (ps_ost (pv 0) (pv 2))), fun H1 Q hq => ?_, fun H1 D' hx k => ?_⟩
  · match xs, hl with
    | [a, b], _ => exact ⟨_, rfl, _, rfl, hq⟩
  · match xs, hl with
    | [a, b], _ =>
      refine ⟨_, rfl, _, rfl, x, 182, rfl, T.xtxt.ox, T.xtxt.no "line" (by decide), .inl ⟨hx, fun dx hdx ne => ?_⟩⟩
      refine ⟨_, rfl, _, rfl, x, 182, rfl, T.xtxt.ox, T.xtxt.no "word" (by decide), .inr ⟨dx, _, upd_same, by rw [upd_ne ne, upd_same], by show 1 ≤ 900; decide, ?_⟩⟩
      refine k _ dx _ hdx ne ?_ upd_same fun b h1 h2 => ?_
      · rw [upd_ne (Ne.symm ne), upd_same]
      · rw [upd_ne h2, upd_ne h1, upd_ne h2]
theorem ok_part_init (T : Ctx K mg) : FnOk PW w K mg base CX0 1 50 (fdOf K 50) P_PartError_init (spExc 161 1 fun vs => match vs with
    | [l] => [(("part" : Str), l)]
    | _ => []) := by
  refine exc_init (r := r_PartError_init) T m_PartError_init rfl T.xval sc_PartError_init ⟨rfl, rfl, rfl, rfl, ⟨_, rfl, rfl⟩, main_file, main_sup⟩ rfl rfl (by decide) (fun A outer s H E x xs hl => ?_) (fun L => rfl) (fun L => rfl) (fun L => rfl) (fun L => rfl) (fun L => rfl)
  refine ⟨_, _, pa_cons (pv 1) pa_nil, pss_one (ps_ost (pv 0) (pv 1)), fun H1 Q hq => ?_, fun H1 D' hx k => ?_⟩
  · match xs, hl with
    | [a], _ => exact ⟨_, rfl, hq⟩
  · match xs, hl with
    | [a], _ =>
      refine ⟨_, rfl, _, rfl, x, 161, rfl, T.xval.ox, T.xval.no "part" (by decide), .inl ⟨hx, fun dx hdx ne => ?_⟩⟩
      refine k _ dx _ hdx ne upd_same ?_ fun b h1 h2 => ?_
      · rw [upd_ne ne, upd_same]
      · rw [upd_ne h1, upd_ne h2]
theorem mkO_read {C : Addr} {n : Nat} {fsO : List V → List (Str × V)} {ta : TA} {σ : L2.St} {H : Hp} {Q : XK}
    (h : ta σ H fun vs H1 => vs.length = n ∧ n ≤ 900 ∧ ∀ d H', H1 d = none → H' d = some (.xd (fsO vs)) → (∀ b, b ≠ d → H' b = H1 b) → Q (.ref C) (some d) H')
    (hm : ∀ (P P' : List V → Hp → Prop), (∀ vs H1, P vs H1 → P' vs H1) → ta σ H P → ta σ H P') : tMkO C (spExc C n fsO) [] ta σ H Q := by
  refine hm _ _ (fun vs H1 ⟨e, hn, k⟩ => ⟨by omega, fun a ha => ?_⟩) h
  refine ⟨a, vs, by rw [List.append_nil], e, upd_same, fun dx H' hd ne h1 h2 h3 => ⟨rfl, dx, _, h1, h2, ?_, ?_⟩⟩
  · rw [upd_ne ne] at hd
    exact hd
  · rw [upd_ne ne] at hd
    refine k dx _ hd upd_same fun b hb => ?_
    rw [upd_ne hb]
    by_cases e : b = a
    · rw [e, del_same, ha]
    · rw [del_ne e, h3 b e hb, upd_ne e]
end
section
variable {w : World} {K : PySem.W.Frag} {mg : Str → Option Value} {base : Heap}
/-- raise BadText(e1, e2) -/
def tBadT (t1 t2 : TE) : L2.St → Hp → XK → Prop := fun σ H Q => t1 σ H fun v1 H1 => t2 σ H1 fun v2 H2 => ∀ d H', H2 d = none → H' d = some (.xd [(("word" : Str), v2), (("line" : Str), v1)]) → (∀ b, b ≠ d → H' b = H2 b) → Q (.ref 182) (some d) H'
/-- raise BadValue(e) -/
def tBadV (t1 : TE) : L2.St → Hp → XK → Prop := fun σ H Q => t1 σ H fun v1 H1 => ∀ d H', H1 d = none → H' d = some (.xd [(("part" : Str), v1)]) → (∀ b, b ≠ d → H' b = H1 b) → Q (.ref 161) (some d) H'
/-- a reading that grows with its wish -/
def Mono (t : TE) : Prop := ∀ (σ : L2.St) (H : Hp) (Q Q' : VK), (∀ v H, Q v H → Q' v H) → t σ H Q → t σ H Q'
theorem pmk_text {X : Cx} (hP : X.prog = PW) (T : Ctx X.K X.mg) {e1 e2 : Expr} {t1 t2 : TE} {p pos : Pos} (m1 : Mono t1) (m2 : Mono t2) (hr : Room 2 X.A) (hg : Gl X "BadText") (ha : PA X [e1, e2] (tCons t1 (tCons t2 tNil)))
    (he : starEach [e1, e2] X.env = (false, eval e1 X.env) :: starEach [e2] X.env := by rfl) (hpl : (backTo pos (starEach [e2] X.env)).any (·.1) = false := by rfl) : PMk X (.Call (.Name "BadText" p) [e1, e2] [] pos) (tBadT t1 t2) := by
  obtain ⟨prog, w, K, mg, base, A, N, s0, H0, env, outer, stack, ex, calm, fn, pn, xe⟩ := X
  subst hP
  have F := ok_text_init (w := w) (base := base) T
  have b : Binds K (fdOf K 179) P_BadText_init [] := bindsS (T.funS r_BadText_init m_BadText_init rfl).1 fun _ _ _ _ _ us hl => match us, hl with | [_, _, _], _ => rfl
  intro pins s σ H Q I h
  refine pmk_oex (k := 1) (dvs := []) T.xtxt.ox T.xtxt.ini T.xtxt.fty F hr b .nil pass0 hg (T.glo (x := "BadText") (a := 182)) ha (by decide) he hpl pins s σ H Q I (mkO_read (m1 _ _ _ _ (fun v1 H1 z => m2 _ _ _ _ (fun v2 H2 z => ⟨rfl, by decide, z⟩) z) h) fun P P' hp z => m1 _ _ _ _ (fun v1 H1 z => m2 _ _ _ _ (fun v2 H2 z => hp _ _ z) z) z)
theorem pmk_value {X : Cx} (hP : X.prog = PW) (T : Ctx X.K X.mg) {e1 : Expr} {t1 : TE} {p pos : Pos} (m1 : Mono t1) (hr : Room 2 X.A) (hg : Gl X "BadValue") (ha : PA X [e1] (tCons t1 tNil))
    (he : starEach [e1] X.env = (false, eval e1 X.env) :: starEach [] X.env := by rfl) (hpl : (backTo pos (starEach [] X.env)).any (·.1) = false := by rfl) : PMk X (.Call (.Name "BadValue" p) [e1] [] pos) (tBadV t1) := by
  obtain ⟨prog, w, K, mg, base, A, N, s0, H0, env, outer, stack, ex, calm, fn, pn, xe⟩ := X
  subst hP
  have F := ok_part_init (w := w) (base := base) T
  have b : Binds K (fdOf K 50) P_PartError_init [] := bindsS (T.funS r_PartError_init m_PartError_init rfl).1 fun _ _ _ _ _ us hl => match us, hl with | [_, _], _ => rfl
  intro pins s σ H Q I h
  refine pmk_oex (k := 1) (dvs := []) T.xval.ox T.xval.ini T.xval.fty F hr b .nil pass0 hg (T.glo (x := "BadValue") (a := 161)) ha (by decide) he hpl pins s σ H Q I (mkO_read (m1 _ _ _ _ (fun v1 H1 z => ⟨rfl, by decide, z⟩) h) fun P P' hp z => m1 _ _ _ _ (fun v1 H1 z => hp _ _ z) z)
theorem mono_c {v : V} : Mono (tC v) := fun _ _ _ _ k h => k _ _ h
theorem mono_var {i : Nat} : Mono (tVar i) := fun _ _ _ _ k ⟨v, e, q⟩ => ⟨v, e, k _ _ q⟩
end
end K91
set_option Elab.async false
set_option linter.all false
set_option maxRecDepth 100000
set_option maxHeartbeats 2000000
/-! K91, S: the papers' classes, called (printed by gen_k91s.py). -/
namespace K91
open PySem PySem.Spec PyProof.Rows L2
/-- what is asked at a paper's making -/
theorem make_read {wd : Str} {c : PC} (hc : pcAt wd = some c) {n : Nat} {xs : List V} {H1 : Hp} {Q : VK} {E : XK} {ds : List D} (hr : RepL H1 ds xs) (hl : ds.length = c.attrs.length) (hz : szL ds < 100000) (hd : depL ds < n) (k : ∀ v H', Same H1 H' → Rep H' (.pap wd ds) v → Q v H') :
    ∀ x dx, H1 x = none → H1 dx = none → dx ≠ x → spCls wd n (.ref x :: (xs ++ [])) (upd (upd H1 dx (.own x)) x (.ins c.at_ dx [])) (fun v H2 => v = .non ∧ Q (.ref x) H2) E := fun x dx hx hdx ne => by
  have at0 : ∀ b o, H1 b = some o → upd (upd H1 dx (.own x)) x (.ins c.at_ dx []) b = some o := fun b o e => by
    rw [upd_ne (ne_of_none e hx), upd_ne (ne_of_none e hdx)]
    exact e
  refine ⟨x, dx, ds, xs, by rw [List.append_nil], ?_, ?_, RepL.mono (fun a o e _ => at0 a o e) _ _ hr, hz, hd, fun H' kp rp => ⟨rfl, k _ _ (fun b o e => kp b o (at0 b o e) (ne_of_none e hx)) rp⟩⟩
  · rw [RepL.len hr, hl]
    unfold attrsAt
    rw [hc]
  · rw [upd_same]
    unfold clsAt
    rw [hc]
section
variable {X : Cx} {e : Expr} {es : List Expr} {t : TA} {p pos : Pos}
theorem mk_Right (hP : X.prog = PW) (T : Ctx X.K X.mg) (n : Nat) (hr : Room (n + 5) X.A) (hg : Gl X ("Right" : Str)) (ha : PA X (e :: es) t) (he : starEach (e :: es) X.env = (false, eval e X.env) :: starEach es X.env := by rfl)
    (hpl : (backTo pos (starEach es X.env)).any (·.1) = false := by rfl) : PE X (.Call (.Name ("Right" : Str) p) (e :: es) [] pos) (tMake 349 (spCls ("right" : Str) n) [] E0 t) := by
  have F := ok_Right (w := X.w) (base := X.base) T n
  rw [show PySem.Challenge.pw_nohalfseen_k91_papers_as_texts = X.prog from hP.symm] at F
  have b : Binds X.K (fdOf X.K 346) P_Right_init [] := bindsS (T.funS r_Right_init m_Right_init rfl).1 fun _ _ _ _ _ us hl => match us, hl with | [_, _], _ => rfl
  exact pe_make (mk_of (ba (ba (T.a6 _ (pc_mem pc_Right).1)).2).1) F hr hg (T.glo (x := ("Right" : Str)) (a := 349)) b .nil pass0 ha (by decide) he hpl
theorem mk_Wrong (hP : X.prog = PW) (T : Ctx X.K X.mg) (n : Nat) (hr : Room (n + 5) X.A) (hg : Gl X ("Wrong" : Str)) (ha : PA X (e :: es) t) (he : starEach (e :: es) X.env = (false, eval e X.env) :: starEach es X.env := by rfl)
    (hpl : (backTo pos (starEach es X.env)).any (·.1) = false := by rfl) : PE X (.Call (.Name ("Wrong" : Str) p) (e :: es) [] pos) (tMake 370 (spCls ("wrong" : Str) n) [] E0 t) := by
  have F := ok_Wrong (w := X.w) (base := X.base) T n
  rw [show PySem.Challenge.pw_nohalfseen_k91_papers_as_texts = X.prog from hP.symm] at F
  have b : Binds X.K (fdOf X.K 367) P_Wrong_init [] := bindsS (T.funS r_Wrong_init m_Wrong_init rfl).1 fun _ _ _ _ _ us hl => match us, hl with | [_, _, _], _ => rfl
  exact pe_make (mk_of (ba (ba (T.a6 _ (pc_mem pc_Wrong).1)).2).1) F hr hg (T.glo (x := ("Wrong" : Str)) (a := 370)) b .nil pass0 ha (by decide) he hpl
theorem mk_Round (hP : X.prog = PW) (T : Ctx X.K X.mg) (n : Nat) (hr : Room (n + 5) X.A) (hg : Gl X ("Round" : Str)) (ha : PA X (e :: es) t) (he : starEach (e :: es) X.env = (false, eval e X.env) :: starEach es X.env := by rfl)
    (hpl : (backTo pos (starEach es X.env)).any (·.1) = false := by rfl) : PE X (.Call (.Name ("Round" : Str) p) (e :: es) [] pos) (tMake 391 (spCls ("round" : Str) n) [] E0 t) := by
  have F := ok_Round (w := X.w) (base := X.base) T n
  rw [show PySem.Challenge.pw_nohalfseen_k91_papers_as_texts = X.prog from hP.symm] at F
  have b : Binds X.K (fdOf X.K 388) P_Round_init [] := bindsS (T.funS r_Round_init m_Round_init rfl).1 fun _ _ _ _ _ us hl => match us, hl with | [_, _, _, _], _ => rfl
  exact pe_make (mk_of (ba (ba (T.a6 _ (pc_mem pc_Round).1)).2).1) F hr hg (T.glo (x := ("Round" : Str)) (a := 391)) b .nil pass0 ha (by decide) he hpl
theorem mk_Beside (hP : X.prog = PW) (T : Ctx X.K X.mg) (n : Nat) (hr : Room (n + 5) X.A) (hg : Gl X ("Beside" : Str)) (ha : PA X (e :: es) t) (he : starEach (e :: es) X.env = (false, eval e X.env) :: starEach es X.env := by rfl)
    (hpl : (backTo pos (starEach es X.env)).any (·.1) = false := by rfl) : PE X (.Call (.Name ("Beside" : Str) p) (e :: es) [] pos) (tMake 412 (spCls ("beside" : Str) n) [] E0 t) := by
  have F := ok_Beside (w := X.w) (base := X.base) T n
  rw [show PySem.Challenge.pw_nohalfseen_k91_papers_as_texts = X.prog from hP.symm] at F
  have b : Binds X.K (fdOf X.K 409) P_Beside_init [] := bindsS (T.funS r_Beside_init m_Beside_init rfl).1 fun _ _ _ _ _ us hl => match us, hl with | [_, _], _ => rfl
  exact pe_make (mk_of (ba (ba (T.a6 _ (pc_mem pc_Beside).1)).2).1) F hr hg (T.glo (x := ("Beside" : Str)) (a := 412)) b .nil pass0 ha (by decide) he hpl
theorem mk_Clash (hP : X.prog = PW) (T : Ctx X.K X.mg) (n : Nat) (hr : Room (n + 5) X.A) (hg : Gl X ("Clash" : Str)) (ha : PA X (e :: es) t) (he : starEach (e :: es) X.env = (false, eval e X.env) :: starEach es X.env := by rfl)
    (hpl : (backTo pos (starEach es X.env)).any (·.1) = false := by rfl) : PE X (.Call (.Name ("Clash" : Str) p) (e :: es) [] pos) (tMake 433 (spCls ("clash" : Str) n) [] E0 t) := by
  have F := ok_Clash (w := X.w) (base := X.base) T n
  rw [show PySem.Challenge.pw_nohalfseen_k91_papers_as_texts = X.prog from hP.symm] at F
  have b : Binds X.K (fdOf X.K 430) P_Clash_init [] := bindsS (T.funS r_Clash_init m_Clash_init rfl).1 fun _ _ _ _ _ us hl => match us, hl with | [_, _, _], _ => rfl
  exact pe_make (mk_of (ba (ba (T.a6 _ (pc_mem pc_Clash).1)).2).1) F hr hg (T.glo (x := ("Clash" : Str)) (a := 433)) b .nil pass0 ha (by decide) he hpl
theorem mk_Plan (hP : X.prog = PW) (T : Ctx X.K X.mg) (n : Nat) (hr : Room (n + 5) X.A) (hg : Gl X ("Plan" : Str)) (ha : PA X (e :: es) t) (he : starEach (e :: es) X.env = (false, eval e X.env) :: starEach es X.env := by rfl)
    (hpl : (backTo pos (starEach es X.env)).any (·.1) = false := by rfl) : PE X (.Call (.Name ("Plan" : Str) p) (e :: es) [] pos) (tMake 454 (spCls ("plan" : Str) n) [] E0 t) := by
  have F := ok_Plan (w := X.w) (base := X.base) T n
  rw [show PySem.Challenge.pw_nohalfseen_k91_papers_as_texts = X.prog from hP.symm] at F
  have b : Binds X.K (fdOf X.K 451) P_Plan_init [] := bindsS (T.funS r_Plan_init m_Plan_init rfl).1 fun _ _ _ _ _ us hl => match us, hl with | [_, _, _], _ => rfl
  exact pe_make (mk_of (ba (ba (T.a6 _ (pc_mem pc_Plan).1)).2).1) F hr hg (T.glo (x := ("Plan" : Str)) (a := 454)) b .nil pass0 ha (by decide) he hpl
theorem mk_Spoil (hP : X.prog = PW) (T : Ctx X.K X.mg) (n : Nat) (hr : Room (n + 5) X.A) (hg : Gl X ("Spoil" : Str)) (ha : PA X (e :: es) t) (he : starEach (e :: es) X.env = (false, eval e X.env) :: starEach es X.env := by rfl)
    (hpl : (backTo pos (starEach es X.env)).any (·.1) = false := by rfl) : PE X (.Call (.Name ("Spoil" : Str) p) (e :: es) [] pos) (tMake 475 (spCls ("spoil" : Str) n) [] E0 t) := by
  have F := ok_Spoil (w := X.w) (base := X.base) T n
  rw [show PySem.Challenge.pw_nohalfseen_k91_papers_as_texts = X.prog from hP.symm] at F
  have b : Binds X.K (fdOf X.K 472) P_Spoil_init [] := bindsS (T.funS r_Spoil_init m_Spoil_init rfl).1 fun _ _ _ _ _ us hl => match us, hl with | [_, _, _], _ => rfl
  exact pe_make (mk_of (ba (ba (T.a6 _ (pc_mem pc_Spoil).1)).2).1) F hr hg (T.glo (x := ("Spoil" : Str)) (a := 475)) b .nil pass0 ha (by decide) he hpl
theorem mk_Within (hP : X.prog = PW) (T : Ctx X.K X.mg) (n : Nat) (hr : Room (n + 5) X.A) (hg : Gl X ("Within" : Str)) (ha : PA X (e :: es) t) (he : starEach (e :: es) X.env = (false, eval e X.env) :: starEach es X.env := by rfl)
    (hpl : (backTo pos (starEach es X.env)).any (·.1) = false := by rfl) : PE X (.Call (.Name ("Within" : Str) p) (e :: es) [] pos) (tMake 496 (spCls ("within" : Str) n) [] E0 t) := by
  have F := ok_Within (w := X.w) (base := X.base) T n
  rw [show PySem.Challenge.pw_nohalfseen_k91_papers_as_texts = X.prog from hP.symm] at F
  have b : Binds X.K (fdOf X.K 493) P_Within_init [] := bindsS (T.funS r_Within_init m_Within_init rfl).1 fun _ _ _ _ _ us hl => match us, hl with | [_, _, _, _], _ => rfl
  exact pe_make (mk_of (ba (ba (T.a6 _ (pc_mem pc_Within).1)).2).1) F hr hg (T.glo (x := ("Within" : Str)) (a := 496)) b .nil pass0 ha (by decide) he hpl
theorem mk_Crowd (hP : X.prog = PW) (T : Ctx X.K X.mg) (n : Nat) (hr : Room (n + 5) X.A) (hg : Gl X ("Crowd" : Str)) (ha : PA X (e :: es) t) (he : starEach (e :: es) X.env = (false, eval e X.env) :: starEach es X.env := by rfl)
    (hpl : (backTo pos (starEach es X.env)).any (·.1) = false := by rfl) : PE X (.Call (.Name ("Crowd" : Str) p) (e :: es) [] pos) (tMake 517 (spCls ("crowd" : Str) n) [] E0 t) := by
  have F := ok_Crowd (w := X.w) (base := X.base) T n
  rw [show PySem.Challenge.pw_nohalfseen_k91_papers_as_texts = X.prog from hP.symm] at F
  have b : Binds X.K (fdOf X.K 514) P_Crowd_init [] := bindsS (T.funS r_Crowd_init m_Crowd_init rfl).1 fun _ _ _ _ _ us hl => match us, hl with | [_, _], _ => rfl
  exact pe_make (mk_of (ba (ba (T.a6 _ (pc_mem pc_Crowd).1)).2).1) F hr hg (T.glo (x := ("Crowd" : Str)) (a := 517)) b .nil pass0 ha (by decide) he hpl
theorem mk_Keeps (hP : X.prog = PW) (T : Ctx X.K X.mg) (n : Nat) (hr : Room (n + 5) X.A) (hg : Gl X ("Keeps" : Str)) (ha : PA X (e :: es) t) (he : starEach (e :: es) X.env = (false, eval e X.env) :: starEach es X.env := by rfl)
    (hpl : (backTo pos (starEach es X.env)).any (·.1) = false := by rfl) : PE X (.Call (.Name ("Keeps" : Str) p) (e :: es) [] pos) (tMake 538 (spCls ("keeps" : Str) n) [] E0 t) := by
  have F := ok_Keeps (w := X.w) (base := X.base) T n
  rw [show PySem.Challenge.pw_nohalfseen_k91_papers_as_texts = X.prog from hP.symm] at F
  have b : Binds X.K (fdOf X.K 535) P_Keeps_init [] := bindsS (T.funS r_Keeps_init m_Keeps_init rfl).1 fun _ _ _ _ _ us hl => match us, hl with | [_, _, _, _], _ => rfl
  exact pe_make (mk_of (ba (ba (T.a6 _ (pc_mem pc_Keeps).1)).2).1) F hr hg (T.glo (x := ("Keeps" : Str)) (a := 538)) b .nil pass0 ha (by decide) he hpl
theorem mk_Forgets (hP : X.prog = PW) (T : Ctx X.K X.mg) (n : Nat) (hr : Room (n + 5) X.A) (hg : Gl X ("Forgets" : Str)) (ha : PA X (e :: es) t) (he : starEach (e :: es) X.env = (false, eval e X.env) :: starEach es X.env := by rfl)
    (hpl : (backTo pos (starEach es X.env)).any (·.1) = false := by rfl) : PE X (.Call (.Name ("Forgets" : Str) p) (e :: es) [] pos) (tMake 559 (spCls ("forgets" : Str) n) [] E0 t) := by
  have F := ok_Forgets (w := X.w) (base := X.base) T n
  rw [show PySem.Challenge.pw_nohalfseen_k91_papers_as_texts = X.prog from hP.symm] at F
  have b : Binds X.K (fdOf X.K 556) P_Forgets_init [] := bindsS (T.funS r_Forgets_init m_Forgets_init rfl).1 fun _ _ _ _ _ us hl => match us, hl with | [_, _], _ => rfl
  exact pe_make (mk_of (ba (ba (T.a6 _ (pc_mem pc_Forgets).1)).2).1) F hr hg (T.glo (x := ("Forgets" : Str)) (a := 559)) b .nil pass0 ha (by decide) he hpl
theorem mk_Enough (hP : X.prog = PW) (T : Ctx X.K X.mg) (n : Nat) (hr : Room (n + 5) X.A) (hg : Gl X ("Enough" : Str)) (ha : PA X (e :: es) t) (he : starEach (e :: es) X.env = (false, eval e X.env) :: starEach es X.env := by rfl)
    (hpl : (backTo pos (starEach es X.env)).any (·.1) = false := by rfl) : PE X (.Call (.Name ("Enough" : Str) p) (e :: es) [] pos) (tMake 580 (spCls ("enough" : Str) n) [] E0 t) := by
  have F := ok_Enough (w := X.w) (base := X.base) T n
  rw [show PySem.Challenge.pw_nohalfseen_k91_papers_as_texts = X.prog from hP.symm] at F
  have b : Binds X.K (fdOf X.K 577) P_Enough_init [] := bindsS (T.funS r_Enough_init m_Enough_init rfl).1 fun _ _ _ _ _ us hl => match us, hl with | [_, _, _], _ => rfl
  exact pe_make (mk_of (ba (ba (T.a6 _ (pc_mem pc_Enough).1)).2).1) F hr hg (T.glo (x := ("Enough" : Str)) (a := 580)) b .nil pass0 ha (by decide) he hpl
theorem mk_Fits (hP : X.prog = PW) (T : Ctx X.K X.mg) (n : Nat) (hr : Room (n + 5) X.A) (hg : Gl X ("Fits" : Str)) (ha : PA X (e :: es) t) (he : starEach (e :: es) X.env = (false, eval e X.env) :: starEach es X.env := by rfl)
    (hpl : (backTo pos (starEach es X.env)).any (·.1) = false := by rfl) : PE X (.Call (.Name ("Fits" : Str) p) (e :: es) [] pos) (tMake 601 (spCls ("fits" : Str) n) [] E0 t) := by
  have F := ok_Fits (w := X.w) (base := X.base) T n
  rw [show PySem.Challenge.pw_nohalfseen_k91_papers_as_texts = X.prog from hP.symm] at F
  have b : Binds X.K (fdOf X.K 598) P_Fits_init [] := bindsS (T.funS r_Fits_init m_Fits_init rfl).1 fun _ _ _ _ _ us hl => match us, hl with | [_, _, _], _ => rfl
  exact pe_make (mk_of (ba (ba (T.a6 _ (pc_mem pc_Fits).1)).2).1) F hr hg (T.glo (x := ("Fits" : Str)) (a := 601)) b .nil pass0 ha (by decide) he hpl
theorem mk_Unfit (hP : X.prog = PW) (T : Ctx X.K X.mg) (n : Nat) (hr : Room (n + 5) X.A) (hg : Gl X ("Unfit" : Str)) (ha : PA X (e :: es) t) (he : starEach (e :: es) X.env = (false, eval e X.env) :: starEach es X.env := by rfl)
    (hpl : (backTo pos (starEach es X.env)).any (·.1) = false := by rfl) : PE X (.Call (.Name ("Unfit" : Str) p) (e :: es) [] pos) (tMake 622 (spCls ("unfit" : Str) n) [] E0 t) := by
  have F := ok_Unfit (w := X.w) (base := X.base) T n
  rw [show PySem.Challenge.pw_nohalfseen_k91_papers_as_texts = X.prog from hP.symm] at F
  have b : Binds X.K (fdOf X.K 619) P_Unfit_init [] := bindsS (T.funS r_Unfit_init m_Unfit_init rfl).1 fun _ _ _ _ _ us hl => match us, hl with | [_, _], _ => rfl
  exact pe_make (mk_of (ba (ba (T.a6 _ (pc_mem pc_Unfit).1)).2).1) F hr hg (T.glo (x := ("Unfit" : Str)) (a := 622)) b .nil pass0 ha (by decide) he hpl
theorem mk_Known (hP : X.prog = PW) (T : Ctx X.K X.mg) (n : Nat) (hr : Room (n + 5) X.A) (hg : Gl X ("Known" : Str)) (ha : PA X (e :: es) t) (he : starEach (e :: es) X.env = (false, eval e X.env) :: starEach es X.env := by rfl)
    (hpl : (backTo pos (starEach es X.env)).any (·.1) = false := by rfl) : PE X (.Call (.Name ("Known" : Str) p) (e :: es) [] pos) (tMake 643 (spCls ("known" : Str) n) [] E0 t) := by
  have F := ok_Known (w := X.w) (base := X.base) T n
  rw [show PySem.Challenge.pw_nohalfseen_k91_papers_as_texts = X.prog from hP.symm] at F
  have b : Binds X.K (fdOf X.K 640) P_Known_init [] := bindsS (T.funS r_Known_init m_Known_init rfl).1 fun _ _ _ _ _ us hl => match us, hl with | [_, _, _], _ => rfl
  exact pe_make (mk_of (ba (ba (T.a6 _ (pc_mem pc_Known).1)).2).1) F hr hg (T.glo (x := ("Known" : Str)) (a := 643)) b .nil pass0 ha (by decide) he hpl
theorem mk_Alike (hP : X.prog = PW) (T : Ctx X.K X.mg) (n : Nat) (hr : Room (n + 5) X.A) (hg : Gl X ("Alike" : Str)) (ha : PA X (e :: es) t) (he : starEach (e :: es) X.env = (false, eval e X.env) :: starEach es X.env := by rfl)
    (hpl : (backTo pos (starEach es X.env)).any (·.1) = false := by rfl) : PE X (.Call (.Name ("Alike" : Str) p) (e :: es) [] pos) (tMake 664 (spCls ("alike" : Str) n) [] E0 t) := by
  have F := ok_Alike (w := X.w) (base := X.base) T n
  rw [show PySem.Challenge.pw_nohalfseen_k91_papers_as_texts = X.prog from hP.symm] at F
  have b : Binds X.K (fdOf X.K 661) P_Alike_init [] := bindsS (T.funS r_Alike_init m_Alike_init rfl).1 fun _ _ _ _ _ us hl => match us, hl with | [_, _, _, _], _ => rfl
  exact pe_make (mk_of (ba (ba (T.a6 _ (pc_mem pc_Alike).1)).2).1) F hr hg (T.glo (x := ("Alike" : Str)) (a := 664)) b .nil pass0 ha (by decide) he hpl
theorem mk_Sayable (hP : X.prog = PW) (T : Ctx X.K X.mg) (n : Nat) (hr : Room (n + 5) X.A) (hg : Gl X ("Sayable" : Str)) (ha : PA X (e :: es) t) (he : starEach (e :: es) X.env = (false, eval e X.env) :: starEach es X.env := by rfl)
    (hpl : (backTo pos (starEach es X.env)).any (·.1) = false := by rfl) : PE X (.Call (.Name ("Sayable" : Str) p) (e :: es) [] pos) (tMake 685 (spCls ("sayable" : Str) n) [] E0 t) := by
  have F := ok_Sayable (w := X.w) (base := X.base) T n
  rw [show PySem.Challenge.pw_nohalfseen_k91_papers_as_texts = X.prog from hP.symm] at F
  have b : Binds X.K (fdOf X.K 682) P_Sayable_init [] := bindsS (T.funS r_Sayable_init m_Sayable_init rfl).1 fun _ _ _ _ _ us hl => match us, hl with | [_, _], _ => rfl
  exact pe_make (mk_of (ba (ba (T.a6 _ (pc_mem pc_Sayable).1)).2).1) F hr hg (T.glo (x := ("Sayable" : Str)) (a := 685)) b .nil pass0 ha (by decide) he hpl
theorem mk_Barred (hP : X.prog = PW) (T : Ctx X.K X.mg) (n : Nat) (hr : Room (n + 5) X.A) (hg : Gl X ("Barred" : Str)) (ha : PA X (e :: es) t) (he : starEach (e :: es) X.env = (false, eval e X.env) :: starEach es X.env := by rfl)
    (hpl : (backTo pos (starEach es X.env)).any (·.1) = false := by rfl) : PE X (.Call (.Name ("Barred" : Str) p) (e :: es) [] pos) (tMake 706 (spCls ("barred" : Str) n) [] E0 t) := by
  have F := ok_Barred (w := X.w) (base := X.base) T n
  rw [show PySem.Challenge.pw_nohalfseen_k91_papers_as_texts = X.prog from hP.symm] at F
  have b : Binds X.K (fdOf X.K 703) P_Barred_init [] := bindsS (T.funS r_Barred_init m_Barred_init rfl).1 fun _ _ _ _ _ us hl => match us, hl with | [_, _, _], _ => rfl
  exact pe_make (mk_of (ba (ba (T.a6 _ (pc_mem pc_Barred).1)).2).1) F hr hg (T.glo (x := ("Barred" : Str)) (a := 706)) b .nil pass0 ha (by decide) he hpl
theorem mk_Seemly (hP : X.prog = PW) (T : Ctx X.K X.mg) (n : Nat) (hr : Room (n + 5) X.A) (hg : Gl X ("Seemly" : Str)) (ha : PA X (e :: es) t) (he : starEach (e :: es) X.env = (false, eval e X.env) :: starEach es X.env := by rfl)
    (hpl : (backTo pos (starEach es X.env)).any (·.1) = false := by rfl) : PE X (.Call (.Name ("Seemly" : Str) p) (e :: es) [] pos) (tMake 727 (spCls ("seemly" : Str) n) [] E0 t) := by
  have F := ok_Seemly (w := X.w) (base := X.base) T n
  rw [show PySem.Challenge.pw_nohalfseen_k91_papers_as_texts = X.prog from hP.symm] at F
  have b : Binds X.K (fdOf X.K 724) P_Seemly_init [] := bindsS (T.funS r_Seemly_init m_Seemly_init rfl).1 fun _ _ _ _ _ us hl => match us, hl with | [_, _, _, _, _], _ => rfl
  exact pe_make (mk_of (ba (ba (T.a6 _ (pc_mem pc_Seemly).1)).2).1) F hr hg (T.glo (x := ("Seemly" : Str)) (a := 727)) b .nil pass0 ha (by decide) he hpl
theorem mk_Unseemly (hP : X.prog = PW) (T : Ctx X.K X.mg) (n : Nat) (hr : Room (n + 5) X.A) (hg : Gl X ("Unseemly" : Str)) (ha : PA X (e :: es) t) (he : starEach (e :: es) X.env = (false, eval e X.env) :: starEach es X.env := by rfl)
    (hpl : (backTo pos (starEach es X.env)).any (·.1) = false := by rfl) : PE X (.Call (.Name ("Unseemly" : Str) p) (e :: es) [] pos) (tMake 748 (spCls ("unseemly" : Str) n) [] E0 t) := by
  have F := ok_Unseemly (w := X.w) (base := X.base) T n
  rw [show PySem.Challenge.pw_nohalfseen_k91_papers_as_texts = X.prog from hP.symm] at F
  have b : Binds X.K (fdOf X.K 745) P_Unseemly_init [] := bindsS (T.funS r_Unseemly_init m_Unseemly_init rfl).1 fun _ _ _ _ _ us hl => match us, hl with | [_, _], _ => rfl
  exact pe_make (mk_of (ba (ba (T.a6 _ (pc_mem pc_Unseemly).1)).2).1) F hr hg (T.glo (x := ("Unseemly" : Str)) (a := 748)) b .nil pass0 ha (by decide) he hpl
theorem mk_Order (hP : X.prog = PW) (T : Ctx X.K X.mg) (n : Nat) (hr : Room (n + 5) X.A) (hg : Gl X ("Order" : Str)) (ha : PA X (e :: es) t) (he : starEach (e :: es) X.env = (false, eval e X.env) :: starEach es X.env := by rfl)
    (hpl : (backTo pos (starEach es X.env)).any (·.1) = false := by rfl) : PE X (.Call (.Name ("Order" : Str) p) (e :: es) [] pos) (tMake 769 (spCls ("order" : Str) n) [] E0 t) := by
  have F := ok_Order (w := X.w) (base := X.base) T n
  rw [show PySem.Challenge.pw_nohalfseen_k91_papers_as_texts = X.prog from hP.symm] at F
  have b : Binds X.K (fdOf X.K 766) P_Order_init [] := bindsS (T.funS r_Order_init m_Order_init rfl).1 fun _ _ _ _ _ us hl => match us, hl with | [_, _, _, _], _ => rfl
  exact pe_make (mk_of (ba (ba (T.a6 _ (pc_mem pc_Order).1)).2).1) F hr hg (T.glo (x := ("Order" : Str)) (a := 769)) b .nil pass0 ha (by decide) he hpl
theorem mk_Unordered (hP : X.prog = PW) (T : Ctx X.K X.mg) (n : Nat) (hr : Room (n + 5) X.A) (hg : Gl X ("Unordered" : Str)) (ha : PA X (e :: es) t) (he : starEach (e :: es) X.env = (false, eval e X.env) :: starEach es X.env := by rfl)
    (hpl : (backTo pos (starEach es X.env)).any (·.1) = false := by rfl) : PE X (.Call (.Name ("Unordered" : Str) p) (e :: es) [] pos) (tMake 790 (spCls ("unordered" : Str) n) [] E0 t) := by
  have F := ok_Unordered (w := X.w) (base := X.base) T n
  rw [show PySem.Challenge.pw_nohalfseen_k91_papers_as_texts = X.prog from hP.symm] at F
  have b : Binds X.K (fdOf X.K 787) P_Unordered_init [] := bindsS (T.funS r_Unordered_init m_Unordered_init rfl).1 fun _ _ _ _ _ us hl => match us, hl with | [_, _, _, _], _ => rfl
  exact pe_make (mk_of (ba (ba (T.a6 _ (pc_mem pc_Unordered).1)).2).1) F hr hg (T.glo (x := ("Unordered" : Str)) (a := 790)) b .nil pass0 ha (by decide) he hpl
theorem mk_Matching (hP : X.prog = PW) (T : Ctx X.K X.mg) (n : Nat) (hr : Room (n + 5) X.A) (hg : Gl X ("Matching" : Str)) (ha : PA X (e :: es) t) (he : starEach (e :: es) X.env = (false, eval e X.env) :: starEach es X.env := by rfl)
    (hpl : (backTo pos (starEach es X.env)).any (·.1) = false := by rfl) : PE X (.Call (.Name ("Matching" : Str) p) (e :: es) [] pos) (tMake 811 (spCls ("matching" : Str) n) [] E0 t) := by
  have F := ok_Matching (w := X.w) (base := X.base) T n
  rw [show PySem.Challenge.pw_nohalfseen_k91_papers_as_texts = X.prog from hP.symm] at F
  have b : Binds X.K (fdOf X.K 808) P_Matching_init [] := bindsS (T.funS r_Matching_init m_Matching_init rfl).1 fun _ _ _ _ _ us hl => match us, hl with | [_, _], _ => rfl
  exact pe_make (mk_of (ba (ba (T.a6 _ (pc_mem pc_Matching).1)).2).1) F hr hg (T.glo (x := ("Matching" : Str)) (a := 811)) b .nil pass0 ha (by decide) he hpl
theorem mk_Apart (hP : X.prog = PW) (T : Ctx X.K X.mg) (n : Nat) (hr : Room (n + 5) X.A) (hg : Gl X ("Apart" : Str)) (ha : PA X (e :: es) t) (he : starEach (e :: es) X.env = (false, eval e X.env) :: starEach es X.env := by rfl)
    (hpl : (backTo pos (starEach es X.env)).any (·.1) = false := by rfl) : PE X (.Call (.Name ("Apart" : Str) p) (e :: es) [] pos) (tMake 832 (spCls ("apart" : Str) n) [] E0 t) := by
  have F := ok_Apart (w := X.w) (base := X.base) T n
  rw [show PySem.Challenge.pw_nohalfseen_k91_papers_as_texts = X.prog from hP.symm] at F
  have b : Binds X.K (fdOf X.K 829) P_Apart_init [] := bindsS (T.funS r_Apart_init m_Apart_init rfl).1 fun _ _ _ _ _ us hl => match us, hl with | [_, _, _], _ => rfl
  exact pe_make (mk_of (ba (ba (T.a6 _ (pc_mem pc_Apart).1)).2).1) F hr hg (T.glo (x := ("Apart" : Str)) (a := 832)) b .nil pass0 ha (by decide) he hpl
theorem mk_Shorter (hP : X.prog = PW) (T : Ctx X.K X.mg) (n : Nat) (hr : Room (n + 5) X.A) (hg : Gl X ("Shorter" : Str)) (ha : PA X (e :: es) t) (he : starEach (e :: es) X.env = (false, eval e X.env) :: starEach es X.env := by rfl)
    (hpl : (backTo pos (starEach es X.env)).any (·.1) = false := by rfl) : PE X (.Call (.Name ("Shorter" : Str) p) (e :: es) [] pos) (tMake 853 (spCls ("shorter" : Str) n) [] E0 t) := by
  have F := ok_Shorter (w := X.w) (base := X.base) T n
  rw [show PySem.Challenge.pw_nohalfseen_k91_papers_as_texts = X.prog from hP.symm] at F
  have b : Binds X.K (fdOf X.K 850) P_Shorter_init [] := bindsS (T.funS r_Shorter_init m_Shorter_init rfl).1 fun _ _ _ _ _ us hl => match us, hl with | [_, _, _, _, _], _ => rfl
  exact pe_make (mk_of (ba (ba (T.a6 _ (pc_mem pc_Shorter).1)).2).1) F hr hg (T.glo (x := ("Shorter" : Str)) (a := 853)) b .nil pass0 ha (by decide) he hpl
theorem mk_Soonest (hP : X.prog = PW) (T : Ctx X.K X.mg) (n : Nat) (hr : Room (n + 5) X.A) (hg : Gl X ("Soonest" : Str)) (ha : PA X (e :: es) t) (he : starEach (e :: es) X.env = (false, eval e X.env) :: starEach es X.env := by rfl)
    (hpl : (backTo pos (starEach es X.env)).any (·.1) = false := by rfl) : PE X (.Call (.Name ("Soonest" : Str) p) (e :: es) [] pos) (tMake 874 (spCls ("soonest" : Str) n) [] E0 t) := by
  have F := ok_Soonest (w := X.w) (base := X.base) T n
  rw [show PySem.Challenge.pw_nohalfseen_k91_papers_as_texts = X.prog from hP.symm] at F
  have b : Binds X.K (fdOf X.K 871) P_Soonest_init [] := bindsS (T.funS r_Soonest_init m_Soonest_init rfl).1 fun _ _ _ _ _ us hl => match us, hl with | [_, _, _, _], _ => rfl
  exact pe_make (mk_of (ba (ba (T.a6 _ (pc_mem pc_Soonest).1)).2).1) F hr hg (T.glo (x := ("Soonest" : Str)) (a := 874)) b .nil pass0 ha (by decide) he hpl
theorem mk_Delay (hP : X.prog = PW) (T : Ctx X.K X.mg) (n : Nat) (hr : Room (n + 5) X.A) (hg : Gl X ("Delay" : Str)) (ha : PA X (e :: es) t) (he : starEach (e :: es) X.env = (false, eval e X.env) :: starEach es X.env := by rfl)
    (hpl : (backTo pos (starEach es X.env)).any (·.1) = false := by rfl) : PE X (.Call (.Name ("Delay" : Str) p) (e :: es) [] pos) (tMake 895 (spCls ("delay" : Str) n) [] E0 t) := by
  have F := ok_Delay (w := X.w) (base := X.base) T n
  rw [show PySem.Challenge.pw_nohalfseen_k91_papers_as_texts = X.prog from hP.symm] at F
  have b : Binds X.K (fdOf X.K 892) P_Delay_init [] := bindsS (T.funS r_Delay_init m_Delay_init rfl).1 fun _ _ _ _ _ us hl => match us, hl with | [_, _, _, _], _ => rfl
  exact pe_make (mk_of (ba (ba (T.a6 _ (pc_mem pc_Delay).1)).2).1) F hr hg (T.glo (x := ("Delay" : Str)) (a := 895)) b .nil pass0 ha (by decide) he hpl
theorem mk_Turning (hP : X.prog = PW) (T : Ctx X.K X.mg) (n : Nat) (hr : Room (n + 5) X.A) (hg : Gl X ("Turning" : Str)) (ha : PA X (e :: es) t) (he : starEach (e :: es) X.env = (false, eval e X.env) :: starEach es X.env := by rfl)
    (hpl : (backTo pos (starEach es X.env)).any (·.1) = false := by rfl) : PE X (.Call (.Name ("Turning" : Str) p) (e :: es) [] pos) (tMake 916 (spCls ("turning" : Str) n) [] E0 t) := by
  have F := ok_Turning (w := X.w) (base := X.base) T n
  rw [show PySem.Challenge.pw_nohalfseen_k91_papers_as_texts = X.prog from hP.symm] at F
  have b : Binds X.K (fdOf X.K 913) P_Turning_init [] := bindsS (T.funS r_Turning_init m_Turning_init rfl).1 fun _ _ _ _ _ us hl => match us, hl with | [_, _], _ => rfl
  exact pe_make (mk_of (ba (ba (T.a6 _ (pc_mem pc_Turning).1)).2).1) F hr hg (T.glo (x := ("Turning" : Str)) (a := 916)) b .nil pass0 ha (by decide) he hpl
end
end K91
set_option Elab.async false
set_option linter.all false
set_option maxRecDepth 100000
set_option maxHeartbeats 2000000
/-! K91, U: is_integer, counts, is_told_paper (printed by gen_k91u.py). -/
namespace K91
open PySem PySem.Spec PyProof.Rows L2
/-! ### d.update(d2) -/
def rDUpd : V → List V → Hp → VK → Prop := fun x vs H Q => ∃ (a b : Addr) (kvs more : List (Key × V)), x = .ref a ∧ vs = [.ref b] ∧ H a = some (.dK kvs) ∧ H b = some (.dK more) ∧ a ≠ b ∧ kvs.length + more.length ≤ 1000 ∧ Q .non (upd H a (.dK (mergeK kvs more)))
theorem mtd_upd {X : Cx} : MtR X "dict.update" rDUpd := by
  intro pins s σ H x vs v us Q I rx rv h
  obtain ⟨a, b, kvs, more, ex, ev, ea, eb, ne, hz, q⟩ := h
  subst ex
  subst ev
  obtain rfl : v = Value.ref a := rx
  obtain ⟨u, rfl, ru⟩ := vals1 rv
  obtain rfl : u = Value.ref b := ru
  obtain ⟨z, hd, vs, rel, dd⟩ := dk_of I.hok ea
  obtain ⟨z2, hd2, vs2, rel2, dd2⟩ := dk_of I.hok eb
  refine call_meetsIn PySem.F.slot_dict_update dd.typeIs PySem.F.entry_dict_update (PySem.F.args_dict_update_2 _ _) (meets_dict_update (mixKind X.prog X.w) a b ne hd2) ⟨vs, vs2, dd, dd2, by rw [← rel.length, ← rel2.length, sizeLine_eq]; omega, fun h' dd' _ hs => ?_⟩
  have he : ∃ q, h'.get? a = some q := let ⟨q, _, _, hq, _⟩ := dd'; ⟨q, hq⟩
  have hl := length_mergeK more kvs
  exact ⟨.non, _, d_write (t' := s.toks) I (by rw [ea]; exact True.intro) hs he (dk_new (by rw [sizeLine_eq]; omega) hd (rel2.merge rel) dd'), rfl, q⟩
section
variable {X : Cx} {o e : Expr} {to : TE} {t : TA} {apos cpos : Pos}
theorem pe_dupd (ho : PE X o to) (ha : PA X [e] t) (hbase : attributeBase o "update" X.env (eval o X.env) = eval o X.env := by rfl)
    (hfew : ((backTo cpos (starEach [e] X.env)).all (fun x => !x.1) && (backToKw cpos (keywordEach [] X.env)).all (fun x => x.1.isSome)
      && decide (([e] : List Expr).length + ([] : List Keyword).length + (if ([] : List Keyword).isEmpty then 0 else 1) < 30)) = true := by rfl)
    (hline : (apos.endLine == cpos.line) = true := by rfl) (hs : starEach [e] X.env = (false, eval e X.env) :: starEach [] X.env := by rfl) (hplain : (backTo cpos (starEach [] X.env)).any (·.1) = false := by rfl) :
    PE X (.Call (.Attribute o "update" apos) [e] [] cpos) (tBM X.K "dict" rDUpd to t) :=
  pe_bm PySem.F.plainAttrs_dict PySem.F.slot_dict_update PySem.F.type_dict_update mtd_upd ho ha hbase hfew hline hs hplain
end
/-! ### counts -/
def ctab : List (Key × V) := tbl.map fun p => (Sum.inr p.1, V.int p.2)
theorem ctab_val (w : Str) : valV ctab (Sum.inr w) = (cnt w).map fun n => V.int n := by
  unfold ctab cnt
  generalize tbl = l
  induction l with
  | nil => rfl
  | cons p r ih =>
    obtain ⟨k, n⟩ := p
    rw [List.lookup_cons]
    by_cases e : w = k
    · subst e
      have e1 : (w == w) = true := by simp
      rw [e1]
      show ((((Sum.inr w, V.int n) :: r.map fun p => (Sum.inr p.1, V.int p.2)).find? fun kv => decide (kv.1 = (Sum.inr w : Key))).map (·.2)) = _
      rw [List.find?_cons_of_pos (by simp)]
      rfl
    · have e1 : (w == k) = false := by simpa using e
      rw [e1]
      refine Eq.trans ?_ ih
      show ((((Sum.inr k, V.int n) :: r.map fun p => (Sum.inr p.1, V.int p.2)).find? fun kv => decide (kv.1 = (Sum.inr w : Key))).map (·.2)) = _
      rw [List.find?_cons_of_neg (by simp; exact fun z => e z.symm)]
      rfl
def spCounts : Sp := fun vs H Q _ => vs = [] ∧ ∀ p H', H p = none → Same H H' → H' p = some (.dK ctab) → Q (.ref p) H'
section
variable {w : World} {K : PySem.W.Frag} {mg : Str → Option Value} {base : Heap}

theorem tab_counts : (mergeK (mergeK (mergeK (mergeK [] [(Sum.inr ("beside" : Str), V.int 1), (Sum.inr ("clash" : Str), V.int 2), (Sum.inr ("within" : Str), V.int 3), (Sum.inr ("right" : Str), V.int 1), (Sum.inr ("wrong" : Str), V.int 2), (Sum.inr ("round" : Str), V.int 3), (Sum.inr ("crowd" : Str), V.int 1), (Sum.inr ("enough" : Str), V.int 2)]) (mergeK [] [(Sum.inr ("fits" : Str), V.int 2), (Sum.inr ("unfit" : Str), V.int 1), (Sum.inr ("keeps" : Str), V.int 3), (Sum.inr ("forgets" : Str), V.int 1), (Sum.inr ("known" : Str), V.int 2), (Sum.inr ("alike" : Str), V.int 3), (Sum.inr ("sayable" : Str), V.int 1), (Sum.inr ("barred" : Str), V.int 2)])) (mergeK [] [(Sum.inr ("order" : Str), V.int 3), (Sum.inr ("unordered" : Str), V.int 3), (Sum.inr ("plan" : Str), V.int 2), (Sum.inr ("spoil" : Str), V.int 2), (Sum.inr ("matching" : Str), V.int 1), (Sum.inr ("apart" : Str), V.int 2), (Sum.inr ("shorter" : Str), V.int 4)])) (mergeK [] [(Sum.inr ("soonest" : Str), V.int 3), (Sum.inr ("delay" : Str), V.int 3), (Sum.inr ("turning" : Str), V.int 1), (Sum.inr ("seemly" : Str), V.int 4), (Sum.inr ("unseemly" : Str), V.int 1)])) = ctab := by
  kernel_rfl
theorem ok_counts (T : Ctx K mg) : FnOk PW w K mg base CX0 1 r_counts.at_ (fdOf K r_counts.at_) P_counts spCounts := by
  have F := T.fun_ r_counts m_counts
  refine F.ok sc_counts (fun vs H Q E h => ?_) (fun cdv A outer s H vs Q E hr h => ⟨_, pss_cons (ps_asg (pe_disp (pps_cons pe_str pe_int (pps_cons pe_str pe_int (pps_cons pe_str pe_int (pps_cons pe_str pe_int (pps_cons pe_str pe_int (pps_cons pe_str pe_int (pps_cons pe_str pe_int (pps_cons pe_str pe_int (pps_nil))))))))) rfl rfl (by decide) (by decide)) (pg_name (i := 0) sc_counts.nd rfl (Or.inl rfl))) (pss_cons (ps_expr (pe_dupd (pv 0) (pa_cons (pe_disp (pps_cons pe_str pe_int (pps_cons pe_str pe_int (pps_cons pe_str pe_int (pps_cons pe_str pe_int (pps_cons pe_str pe_int (pps_cons pe_str pe_int (pps_cons pe_str pe_int (pps_cons pe_str pe_int (pps_nil))))))))) rfl rfl (by decide) (by decide)) pa_nil))) (pss_cons (ps_expr (pe_dupd (pv 0) (pa_cons (pe_disp (pps_cons pe_str pe_int (pps_cons pe_str pe_int (pps_cons pe_str pe_int (pps_cons pe_str pe_int (pps_cons pe_str pe_int (pps_cons pe_str pe_int (pps_cons pe_str pe_int (pps_nil)))))))) rfl rfl (by decide) (by decide)) pa_nil))) (pss_cons (ps_expr (pe_dupd (pv 0) (pa_cons (pe_disp (pps_cons pe_str pe_int (pps_cons pe_str pe_int (pps_cons pe_str pe_int (pps_cons pe_str pe_int (pps_cons pe_str pe_int (pps_nil)))))) rfl rfl (by decide) (by decide)) pa_nil))) (pss_one (ps_ret (pv 0)))))), ?_⟩)
  · obtain ⟨rfl, _⟩ := h
    rfl
  · obtain ⟨rfl, k⟩ := h
    intro p hp
    refine ⟨upd_same, [(Sum.inr ("beside" : Str), V.int 1), (Sum.inr ("clash" : Str), V.int 2), (Sum.inr ("within" : Str), V.int 3), (Sum.inr ("right" : Str), V.int 1), (Sum.inr ("wrong" : Str), V.int 2), (Sum.inr ("round" : Str), V.int 3), (Sum.inr ("crowd" : Str), V.int 1), (Sum.inr ("enough" : Str), V.int 2)], rfl, by decide, ?_⟩
    rw [upd2]
    have hH0 : Same H (upd H p (.dK (mergeK [] [(Sum.inr ("beside" : Str), V.int 1), (Sum.inr ("clash" : Str), V.int 2), (Sum.inr ("within" : Str), V.int 3), (Sum.inr ("right" : Str), V.int 1), (Sum.inr ("wrong" : Str), V.int 2), (Sum.inr ("round" : Str), V.int 3), (Sum.inr ("crowd" : Str), V.int 1), (Sum.inr ("enough" : Str), V.int 2)]))) := same_new hp
    have hp0 : upd H p (.dK (mergeK [] [(Sum.inr ("beside" : Str), V.int 1), (Sum.inr ("clash" : Str), V.int 2), (Sum.inr ("within" : Str), V.int 3), (Sum.inr ("right" : Str), V.int 1), (Sum.inr ("wrong" : Str), V.int 2), (Sum.inr ("round" : Str), V.int 3), (Sum.inr ("crowd" : Str), V.int 1), (Sum.inr ("enough" : Str), V.int 2)])) p = some (.dK (mergeK [] [(Sum.inr ("beside" : Str), V.int 1), (Sum.inr ("clash" : Str), V.int 2), (Sum.inr ("within" : Str), V.int 3), (Sum.inr ("right" : Str), V.int 1), (Sum.inr ("wrong" : Str), V.int 2), (Sum.inr ("round" : Str), V.int 3), (Sum.inr ("crowd" : Str), V.int 1), (Sum.inr ("enough" : Str), V.int 2)])) := upd_same
    refine ⟨_, rfl, .inr (.inr (.inl ⟨rfl, .inl ⟨_, hp0⟩⟩)), fun q0 hq0 => ⟨upd_same, [(Sum.inr ("fits" : Str), V.int 2), (Sum.inr ("unfit" : Str), V.int 1), (Sum.inr ("keeps" : Str), V.int 3), (Sum.inr ("forgets" : Str), V.int 1), (Sum.inr ("known" : Str), V.int 2), (Sum.inr ("alike" : Str), V.int 3), (Sum.inr ("sayable" : Str), V.int 1), (Sum.inr ("barred" : Str), V.int 2)], rfl, by decide, ?_⟩⟩
    rw [upd2]
    have ne0 : p ≠ q0 := ne_of_none hp0 hq0
    refine ⟨p, q0, _, _, rfl, rfl, by rw [upd_ne ne0]; exact hp0, upd_same, ne0, by decide +kernel, ?_⟩
    have at0 := upd_same (H := upd (upd H p (.dK (mergeK [] [(Sum.inr ("beside" : Str), V.int 1), (Sum.inr ("clash" : Str), V.int 2), (Sum.inr ("within" : Str), V.int 3), (Sum.inr ("right" : Str), V.int 1), (Sum.inr ("wrong" : Str), V.int 2), (Sum.inr ("round" : Str), V.int 3), (Sum.inr ("crowd" : Str), V.int 1), (Sum.inr ("enough" : Str), V.int 2)]))) q0 (.dK (mergeK [] [(Sum.inr ("fits" : Str), V.int 2), (Sum.inr ("unfit" : Str), V.int 1), (Sum.inr ("keeps" : Str), V.int 3), (Sum.inr ("forgets" : Str), V.int 1), (Sum.inr ("known" : Str), V.int 2), (Sum.inr ("alike" : Str), V.int 3), (Sum.inr ("sayable" : Str), V.int 1), (Sum.inr ("barred" : Str), V.int 2)]))) (a := p) (o := .dK (mergeK (mergeK [] [(Sum.inr ("beside" : Str), V.int 1), (Sum.inr ("clash" : Str), V.int 2), (Sum.inr ("within" : Str), V.int 3), (Sum.inr ("right" : Str), V.int 1), (Sum.inr ("wrong" : Str), V.int 2), (Sum.inr ("round" : Str), V.int 3), (Sum.inr ("crowd" : Str), V.int 1), (Sum.inr ("enough" : Str), V.int 2)]) (mergeK [] [(Sum.inr ("fits" : Str), V.int 2), (Sum.inr ("unfit" : Str), V.int 1), (Sum.inr ("keeps" : Str), V.int 3), (Sum.inr ("forgets" : Str), V.int 1), (Sum.inr ("known" : Str), V.int 2), (Sum.inr ("alike" : Str), V.int 3), (Sum.inr ("sayable" : Str), V.int 1), (Sum.inr ("barred" : Str), V.int 2)])))
    have sm0 : ∀ b o, H b = some o → (upd (upd (upd H p (.dK (mergeK [] [(Sum.inr ("beside" : Str), V.int 1), (Sum.inr ("clash" : Str), V.int 2), (Sum.inr ("within" : Str), V.int 3), (Sum.inr ("right" : Str), V.int 1), (Sum.inr ("wrong" : Str), V.int 2), (Sum.inr ("round" : Str), V.int 3), (Sum.inr ("crowd" : Str), V.int 1), (Sum.inr ("enough" : Str), V.int 2)]))) q0 (.dK (mergeK [] [(Sum.inr ("fits" : Str), V.int 2), (Sum.inr ("unfit" : Str), V.int 1), (Sum.inr ("keeps" : Str), V.int 3), (Sum.inr ("forgets" : Str), V.int 1), (Sum.inr ("known" : Str), V.int 2), (Sum.inr ("alike" : Str), V.int 3), (Sum.inr ("sayable" : Str), V.int 1), (Sum.inr ("barred" : Str), V.int 2)]))) p (.dK (mergeK (mergeK [] [(Sum.inr ("beside" : Str), V.int 1), (Sum.inr ("clash" : Str), V.int 2), (Sum.inr ("within" : Str), V.int 3), (Sum.inr ("right" : Str), V.int 1), (Sum.inr ("wrong" : Str), V.int 2), (Sum.inr ("round" : Str), V.int 3), (Sum.inr ("crowd" : Str), V.int 1), (Sum.inr ("enough" : Str), V.int 2)]) (mergeK [] [(Sum.inr ("fits" : Str), V.int 2), (Sum.inr ("unfit" : Str), V.int 1), (Sum.inr ("keeps" : Str), V.int 3), (Sum.inr ("forgets" : Str), V.int 1), (Sum.inr ("known" : Str), V.int 2), (Sum.inr ("alike" : Str), V.int 3), (Sum.inr ("sayable" : Str), V.int 1), (Sum.inr ("barred" : Str), V.int 2)])))) b = some o := fun b o e => by
      rw [upd_ne (ne_of_none e hp), upd_ne (ne_of_none (hH0 b o e) hq0)]
      exact hH0 b o e
    refine ⟨_, rfl, .inr (.inr (.inl ⟨rfl, .inl ⟨_, at0⟩⟩)), fun q1 hq1 => ⟨upd_same, [(Sum.inr ("order" : Str), V.int 3), (Sum.inr ("unordered" : Str), V.int 3), (Sum.inr ("plan" : Str), V.int 2), (Sum.inr ("spoil" : Str), V.int 2), (Sum.inr ("matching" : Str), V.int 1), (Sum.inr ("apart" : Str), V.int 2), (Sum.inr ("shorter" : Str), V.int 4)], rfl, by decide, ?_⟩⟩
    rw [upd2]
    have ne1 : p ≠ q1 := ne_of_none at0 hq1
    refine ⟨p, q1, _, _, rfl, rfl, by rw [upd_ne ne1]; exact at0, upd_same, ne1, by decide +kernel, ?_⟩
    have at1 := upd_same (H := upd (upd (upd (upd H p (.dK (mergeK [] [(Sum.inr ("beside" : Str), V.int 1), (Sum.inr ("clash" : Str), V.int 2), (Sum.inr ("within" : Str), V.int 3), (Sum.inr ("right" : Str), V.int 1), (Sum.inr ("wrong" : Str), V.int 2), (Sum.inr ("round" : Str), V.int 3), (Sum.inr ("crowd" : Str), V.int 1), (Sum.inr ("enough" : Str), V.int 2)]))) q0 (.dK (mergeK [] [(Sum.inr ("fits" : Str), V.int 2), (Sum.inr ("unfit" : Str), V.int 1), (Sum.inr ("keeps" : Str), V.int 3), (Sum.inr ("forgets" : Str), V.int 1), (Sum.inr ("known" : Str), V.int 2), (Sum.inr ("alike" : Str), V.int 3), (Sum.inr ("sayable" : Str), V.int 1), (Sum.inr ("barred" : Str), V.int 2)]))) p (.dK (mergeK (mergeK [] [(Sum.inr ("beside" : Str), V.int 1), (Sum.inr ("clash" : Str), V.int 2), (Sum.inr ("within" : Str), V.int 3), (Sum.inr ("right" : Str), V.int 1), (Sum.inr ("wrong" : Str), V.int 2), (Sum.inr ("round" : Str), V.int 3), (Sum.inr ("crowd" : Str), V.int 1), (Sum.inr ("enough" : Str), V.int 2)]) (mergeK [] [(Sum.inr ("fits" : Str), V.int 2), (Sum.inr ("unfit" : Str), V.int 1), (Sum.inr ("keeps" : Str), V.int 3), (Sum.inr ("forgets" : Str), V.int 1), (Sum.inr ("known" : Str), V.int 2), (Sum.inr ("alike" : Str), V.int 3), (Sum.inr ("sayable" : Str), V.int 1), (Sum.inr ("barred" : Str), V.int 2)])))) q1 (.dK (mergeK [] [(Sum.inr ("order" : Str), V.int 3), (Sum.inr ("unordered" : Str), V.int 3), (Sum.inr ("plan" : Str), V.int 2), (Sum.inr ("spoil" : Str), V.int 2), (Sum.inr ("matching" : Str), V.int 1), (Sum.inr ("apart" : Str), V.int 2), (Sum.inr ("shorter" : Str), V.int 4)]))) (a := p) (o := .dK (mergeK (mergeK (mergeK [] [(Sum.inr ("beside" : Str), V.int 1), (Sum.inr ("clash" : Str), V.int 2), (Sum.inr ("within" : Str), V.int 3), (Sum.inr ("right" : Str), V.int 1), (Sum.inr ("wrong" : Str), V.int 2), (Sum.inr ("round" : Str), V.int 3), (Sum.inr ("crowd" : Str), V.int 1), (Sum.inr ("enough" : Str), V.int 2)]) (mergeK [] [(Sum.inr ("fits" : Str), V.int 2), (Sum.inr ("unfit" : Str), V.int 1), (Sum.inr ("keeps" : Str), V.int 3), (Sum.inr ("forgets" : Str), V.int 1), (Sum.inr ("known" : Str), V.int 2), (Sum.inr ("alike" : Str), V.int 3), (Sum.inr ("sayable" : Str), V.int 1), (Sum.inr ("barred" : Str), V.int 2)])) (mergeK [] [(Sum.inr ("order" : Str), V.int 3), (Sum.inr ("unordered" : Str), V.int 3), (Sum.inr ("plan" : Str), V.int 2), (Sum.inr ("spoil" : Str), V.int 2), (Sum.inr ("matching" : Str), V.int 1), (Sum.inr ("apart" : Str), V.int 2), (Sum.inr ("shorter" : Str), V.int 4)])))
    have sm1 : ∀ b o, H b = some o → (upd (upd (upd (upd (upd H p (.dK (mergeK [] [(Sum.inr ("beside" : Str), V.int 1), (Sum.inr ("clash" : Str), V.int 2), (Sum.inr ("within" : Str), V.int 3), (Sum.inr ("right" : Str), V.int 1), (Sum.inr ("wrong" : Str), V.int 2), (Sum.inr ("round" : Str), V.int 3), (Sum.inr ("crowd" : Str), V.int 1), (Sum.inr ("enough" : Str), V.int 2)]))) q0 (.dK (mergeK [] [(Sum.inr ("fits" : Str), V.int 2), (Sum.inr ("unfit" : Str), V.int 1), (Sum.inr ("keeps" : Str), V.int 3), (Sum.inr ("forgets" : Str), V.int 1), (Sum.inr ("known" : Str), V.int 2), (Sum.inr ("alike" : Str), V.int 3), (Sum.inr ("sayable" : Str), V.int 1), (Sum.inr ("barred" : Str), V.int 2)]))) p (.dK (mergeK (mergeK [] [(Sum.inr ("beside" : Str), V.int 1), (Sum.inr ("clash" : Str), V.int 2), (Sum.inr ("within" : Str), V.int 3), (Sum.inr ("right" : Str), V.int 1), (Sum.inr ("wrong" : Str), V.int 2), (Sum.inr ("round" : Str), V.int 3), (Sum.inr ("crowd" : Str), V.int 1), (Sum.inr ("enough" : Str), V.int 2)]) (mergeK [] [(Sum.inr ("fits" : Str), V.int 2), (Sum.inr ("unfit" : Str), V.int 1), (Sum.inr ("keeps" : Str), V.int 3), (Sum.inr ("forgets" : Str), V.int 1), (Sum.inr ("known" : Str), V.int 2), (Sum.inr ("alike" : Str), V.int 3), (Sum.inr ("sayable" : Str), V.int 1), (Sum.inr ("barred" : Str), V.int 2)])))) q1 (.dK (mergeK [] [(Sum.inr ("order" : Str), V.int 3), (Sum.inr ("unordered" : Str), V.int 3), (Sum.inr ("plan" : Str), V.int 2), (Sum.inr ("spoil" : Str), V.int 2), (Sum.inr ("matching" : Str), V.int 1), (Sum.inr ("apart" : Str), V.int 2), (Sum.inr ("shorter" : Str), V.int 4)]))) p (.dK (mergeK (mergeK (mergeK [] [(Sum.inr ("beside" : Str), V.int 1), (Sum.inr ("clash" : Str), V.int 2), (Sum.inr ("within" : Str), V.int 3), (Sum.inr ("right" : Str), V.int 1), (Sum.inr ("wrong" : Str), V.int 2), (Sum.inr ("round" : Str), V.int 3), (Sum.inr ("crowd" : Str), V.int 1), (Sum.inr ("enough" : Str), V.int 2)]) (mergeK [] [(Sum.inr ("fits" : Str), V.int 2), (Sum.inr ("unfit" : Str), V.int 1), (Sum.inr ("keeps" : Str), V.int 3), (Sum.inr ("forgets" : Str), V.int 1), (Sum.inr ("known" : Str), V.int 2), (Sum.inr ("alike" : Str), V.int 3), (Sum.inr ("sayable" : Str), V.int 1), (Sum.inr ("barred" : Str), V.int 2)])) (mergeK [] [(Sum.inr ("order" : Str), V.int 3), (Sum.inr ("unordered" : Str), V.int 3), (Sum.inr ("plan" : Str), V.int 2), (Sum.inr ("spoil" : Str), V.int 2), (Sum.inr ("matching" : Str), V.int 1), (Sum.inr ("apart" : Str), V.int 2), (Sum.inr ("shorter" : Str), V.int 4)])))) b = some o := fun b o e => by
      rw [upd_ne (ne_of_none e hp), upd_ne (ne_of_none (sm0 b o e) hq1)]
      exact sm0 b o e
    refine ⟨_, rfl, .inr (.inr (.inl ⟨rfl, .inl ⟨_, at1⟩⟩)), fun q2 hq2 => ⟨upd_same, [(Sum.inr ("soonest" : Str), V.int 3), (Sum.inr ("delay" : Str), V.int 3), (Sum.inr ("turning" : Str), V.int 1), (Sum.inr ("seemly" : Str), V.int 4), (Sum.inr ("unseemly" : Str), V.int 1)], rfl, by decide, ?_⟩⟩
    rw [upd2]
    have ne2 : p ≠ q2 := ne_of_none at1 hq2
    refine ⟨p, q2, _, _, rfl, rfl, by rw [upd_ne ne2]; exact at1, upd_same, ne2, by decide +kernel, ?_⟩
    have at2 := upd_same (H := upd (upd (upd (upd (upd (upd H p (.dK (mergeK [] [(Sum.inr ("beside" : Str), V.int 1), (Sum.inr ("clash" : Str), V.int 2), (Sum.inr ("within" : Str), V.int 3), (Sum.inr ("right" : Str), V.int 1), (Sum.inr ("wrong" : Str), V.int 2), (Sum.inr ("round" : Str), V.int 3), (Sum.inr ("crowd" : Str), V.int 1), (Sum.inr ("enough" : Str), V.int 2)]))) q0 (.dK (mergeK [] [(Sum.inr ("fits" : Str), V.int 2), (Sum.inr ("unfit" : Str), V.int 1), (Sum.inr ("keeps" : Str), V.int 3), (Sum.inr ("forgets" : Str), V.int 1), (Sum.inr ("known" : Str), V.int 2), (Sum.inr ("alike" : Str), V.int 3), (Sum.inr ("sayable" : Str), V.int 1), (Sum.inr ("barred" : Str), V.int 2)]))) p (.dK (mergeK (mergeK [] [(Sum.inr ("beside" : Str), V.int 1), (Sum.inr ("clash" : Str), V.int 2), (Sum.inr ("within" : Str), V.int 3), (Sum.inr ("right" : Str), V.int 1), (Sum.inr ("wrong" : Str), V.int 2), (Sum.inr ("round" : Str), V.int 3), (Sum.inr ("crowd" : Str), V.int 1), (Sum.inr ("enough" : Str), V.int 2)]) (mergeK [] [(Sum.inr ("fits" : Str), V.int 2), (Sum.inr ("unfit" : Str), V.int 1), (Sum.inr ("keeps" : Str), V.int 3), (Sum.inr ("forgets" : Str), V.int 1), (Sum.inr ("known" : Str), V.int 2), (Sum.inr ("alike" : Str), V.int 3), (Sum.inr ("sayable" : Str), V.int 1), (Sum.inr ("barred" : Str), V.int 2)])))) q1 (.dK (mergeK [] [(Sum.inr ("order" : Str), V.int 3), (Sum.inr ("unordered" : Str), V.int 3), (Sum.inr ("plan" : Str), V.int 2), (Sum.inr ("spoil" : Str), V.int 2), (Sum.inr ("matching" : Str), V.int 1), (Sum.inr ("apart" : Str), V.int 2), (Sum.inr ("shorter" : Str), V.int 4)]))) p (.dK (mergeK (mergeK (mergeK [] [(Sum.inr ("beside" : Str), V.int 1), (Sum.inr ("clash" : Str), V.int 2), (Sum.inr ("within" : Str), V.int 3), (Sum.inr ("right" : Str), V.int 1), (Sum.inr ("wrong" : Str), V.int 2), (Sum.inr ("round" : Str), V.int 3), (Sum.inr ("crowd" : Str), V.int 1), (Sum.inr ("enough" : Str), V.int 2)]) (mergeK [] [(Sum.inr ("fits" : Str), V.int 2), (Sum.inr ("unfit" : Str), V.int 1), (Sum.inr ("keeps" : Str), V.int 3), (Sum.inr ("forgets" : Str), V.int 1), (Sum.inr ("known" : Str), V.int 2), (Sum.inr ("alike" : Str), V.int 3), (Sum.inr ("sayable" : Str), V.int 1), (Sum.inr ("barred" : Str), V.int 2)])) (mergeK [] [(Sum.inr ("order" : Str), V.int 3), (Sum.inr ("unordered" : Str), V.int 3), (Sum.inr ("plan" : Str), V.int 2), (Sum.inr ("spoil" : Str), V.int 2), (Sum.inr ("matching" : Str), V.int 1), (Sum.inr ("apart" : Str), V.int 2), (Sum.inr ("shorter" : Str), V.int 4)])))) q2 (.dK (mergeK [] [(Sum.inr ("soonest" : Str), V.int 3), (Sum.inr ("delay" : Str), V.int 3), (Sum.inr ("turning" : Str), V.int 1), (Sum.inr ("seemly" : Str), V.int 4), (Sum.inr ("unseemly" : Str), V.int 1)]))) (a := p) (o := .dK (mergeK (mergeK (mergeK (mergeK [] [(Sum.inr ("beside" : Str), V.int 1), (Sum.inr ("clash" : Str), V.int 2), (Sum.inr ("within" : Str), V.int 3), (Sum.inr ("right" : Str), V.int 1), (Sum.inr ("wrong" : Str), V.int 2), (Sum.inr ("round" : Str), V.int 3), (Sum.inr ("crowd" : Str), V.int 1), (Sum.inr ("enough" : Str), V.int 2)]) (mergeK [] [(Sum.inr ("fits" : Str), V.int 2), (Sum.inr ("unfit" : Str), V.int 1), (Sum.inr ("keeps" : Str), V.int 3), (Sum.inr ("forgets" : Str), V.int 1), (Sum.inr ("known" : Str), V.int 2), (Sum.inr ("alike" : Str), V.int 3), (Sum.inr ("sayable" : Str), V.int 1), (Sum.inr ("barred" : Str), V.int 2)])) (mergeK [] [(Sum.inr ("order" : Str), V.int 3), (Sum.inr ("unordered" : Str), V.int 3), (Sum.inr ("plan" : Str), V.int 2), (Sum.inr ("spoil" : Str), V.int 2), (Sum.inr ("matching" : Str), V.int 1), (Sum.inr ("apart" : Str), V.int 2), (Sum.inr ("shorter" : Str), V.int 4)])) (mergeK [] [(Sum.inr ("soonest" : Str), V.int 3), (Sum.inr ("delay" : Str), V.int 3), (Sum.inr ("turning" : Str), V.int 1), (Sum.inr ("seemly" : Str), V.int 4), (Sum.inr ("unseemly" : Str), V.int 1)])))
    have sm2 : ∀ b o, H b = some o → (upd (upd (upd (upd (upd (upd (upd H p (.dK (mergeK [] [(Sum.inr ("beside" : Str), V.int 1), (Sum.inr ("clash" : Str), V.int 2), (Sum.inr ("within" : Str), V.int 3), (Sum.inr ("right" : Str), V.int 1), (Sum.inr ("wrong" : Str), V.int 2), (Sum.inr ("round" : Str), V.int 3), (Sum.inr ("crowd" : Str), V.int 1), (Sum.inr ("enough" : Str), V.int 2)]))) q0 (.dK (mergeK [] [(Sum.inr ("fits" : Str), V.int 2), (Sum.inr ("unfit" : Str), V.int 1), (Sum.inr ("keeps" : Str), V.int 3), (Sum.inr ("forgets" : Str), V.int 1), (Sum.inr ("known" : Str), V.int 2), (Sum.inr ("alike" : Str), V.int 3), (Sum.inr ("sayable" : Str), V.int 1), (Sum.inr ("barred" : Str), V.int 2)]))) p (.dK (mergeK (mergeK [] [(Sum.inr ("beside" : Str), V.int 1), (Sum.inr ("clash" : Str), V.int 2), (Sum.inr ("within" : Str), V.int 3), (Sum.inr ("right" : Str), V.int 1), (Sum.inr ("wrong" : Str), V.int 2), (Sum.inr ("round" : Str), V.int 3), (Sum.inr ("crowd" : Str), V.int 1), (Sum.inr ("enough" : Str), V.int 2)]) (mergeK [] [(Sum.inr ("fits" : Str), V.int 2), (Sum.inr ("unfit" : Str), V.int 1), (Sum.inr ("keeps" : Str), V.int 3), (Sum.inr ("forgets" : Str), V.int 1), (Sum.inr ("known" : Str), V.int 2), (Sum.inr ("alike" : Str), V.int 3), (Sum.inr ("sayable" : Str), V.int 1), (Sum.inr ("barred" : Str), V.int 2)])))) q1 (.dK (mergeK [] [(Sum.inr ("order" : Str), V.int 3), (Sum.inr ("unordered" : Str), V.int 3), (Sum.inr ("plan" : Str), V.int 2), (Sum.inr ("spoil" : Str), V.int 2), (Sum.inr ("matching" : Str), V.int 1), (Sum.inr ("apart" : Str), V.int 2), (Sum.inr ("shorter" : Str), V.int 4)]))) p (.dK (mergeK (mergeK (mergeK [] [(Sum.inr ("beside" : Str), V.int 1), (Sum.inr ("clash" : Str), V.int 2), (Sum.inr ("within" : Str), V.int 3), (Sum.inr ("right" : Str), V.int 1), (Sum.inr ("wrong" : Str), V.int 2), (Sum.inr ("round" : Str), V.int 3), (Sum.inr ("crowd" : Str), V.int 1), (Sum.inr ("enough" : Str), V.int 2)]) (mergeK [] [(Sum.inr ("fits" : Str), V.int 2), (Sum.inr ("unfit" : Str), V.int 1), (Sum.inr ("keeps" : Str), V.int 3), (Sum.inr ("forgets" : Str), V.int 1), (Sum.inr ("known" : Str), V.int 2), (Sum.inr ("alike" : Str), V.int 3), (Sum.inr ("sayable" : Str), V.int 1), (Sum.inr ("barred" : Str), V.int 2)])) (mergeK [] [(Sum.inr ("order" : Str), V.int 3), (Sum.inr ("unordered" : Str), V.int 3), (Sum.inr ("plan" : Str), V.int 2), (Sum.inr ("spoil" : Str), V.int 2), (Sum.inr ("matching" : Str), V.int 1), (Sum.inr ("apart" : Str), V.int 2), (Sum.inr ("shorter" : Str), V.int 4)])))) q2 (.dK (mergeK [] [(Sum.inr ("soonest" : Str), V.int 3), (Sum.inr ("delay" : Str), V.int 3), (Sum.inr ("turning" : Str), V.int 1), (Sum.inr ("seemly" : Str), V.int 4), (Sum.inr ("unseemly" : Str), V.int 1)]))) p (.dK (mergeK (mergeK (mergeK (mergeK [] [(Sum.inr ("beside" : Str), V.int 1), (Sum.inr ("clash" : Str), V.int 2), (Sum.inr ("within" : Str), V.int 3), (Sum.inr ("right" : Str), V.int 1), (Sum.inr ("wrong" : Str), V.int 2), (Sum.inr ("round" : Str), V.int 3), (Sum.inr ("crowd" : Str), V.int 1), (Sum.inr ("enough" : Str), V.int 2)]) (mergeK [] [(Sum.inr ("fits" : Str), V.int 2), (Sum.inr ("unfit" : Str), V.int 1), (Sum.inr ("keeps" : Str), V.int 3), (Sum.inr ("forgets" : Str), V.int 1), (Sum.inr ("known" : Str), V.int 2), (Sum.inr ("alike" : Str), V.int 3), (Sum.inr ("sayable" : Str), V.int 1), (Sum.inr ("barred" : Str), V.int 2)])) (mergeK [] [(Sum.inr ("order" : Str), V.int 3), (Sum.inr ("unordered" : Str), V.int 3), (Sum.inr ("plan" : Str), V.int 2), (Sum.inr ("spoil" : Str), V.int 2), (Sum.inr ("matching" : Str), V.int 1), (Sum.inr ("apart" : Str), V.int 2), (Sum.inr ("shorter" : Str), V.int 4)])) (mergeK [] [(Sum.inr ("soonest" : Str), V.int 3), (Sum.inr ("delay" : Str), V.int 3), (Sum.inr ("turning" : Str), V.int 1), (Sum.inr ("seemly" : Str), V.int 4), (Sum.inr ("unseemly" : Str), V.int 1)])))) b = some o := fun b o e => by
      rw [upd_ne (ne_of_none e hp), upd_ne (ne_of_none (sm1 b o e) hq2)]
      exact sm1 b o e
    refine ⟨_, rfl, k p _ hp sm2 ?_⟩
    rw [tab_counts] at at2
    exact at2
theorem tab_lx_counts : (mergeK (mergeK (mergeK [] [(Sum.inr ("beside" : Str), V.int 1), (Sum.inr ("clash" : Str), V.int 2), (Sum.inr ("within" : Str), V.int 3), (Sum.inr ("right" : Str), V.int 1), (Sum.inr ("wrong" : Str), V.int 2), (Sum.inr ("round" : Str), V.int 3), (Sum.inr ("crowd" : Str), V.int 1), (Sum.inr ("enough" : Str), V.int 2), (Sum.inr ("fits" : Str), V.int 2), (Sum.inr ("unfit" : Str), V.int 1), (Sum.inr ("keeps" : Str), V.int 3), (Sum.inr ("forgets" : Str), V.int 1)]) (mergeK [] [(Sum.inr ("known" : Str), V.int 2), (Sum.inr ("alike" : Str), V.int 3), (Sum.inr ("sayable" : Str), V.int 1), (Sum.inr ("barred" : Str), V.int 2), (Sum.inr ("order" : Str), V.int 3), (Sum.inr ("unordered" : Str), V.int 3), (Sum.inr ("plan" : Str), V.int 2), (Sum.inr ("spoil" : Str), V.int 2), (Sum.inr ("matching" : Str), V.int 1), (Sum.inr ("apart" : Str), V.int 2), (Sum.inr ("shorter" : Str), V.int 4)])) (mergeK [] [(Sum.inr ("soonest" : Str), V.int 3), (Sum.inr ("delay" : Str), V.int 3), (Sum.inr ("turning" : Str), V.int 1), (Sum.inr ("seemly" : Str), V.int 4), (Sum.inr ("unseemly" : Str), V.int 1)])) = ctab := by
  kernel_rfl
theorem ok_lx_counts (T : Ctx K mg) : FnOk PW w K mg base CX0 1 r_lx_counts.at_ (fdOf K r_lx_counts.at_) P_lx_counts spCounts := by
  have F := T.fun_ r_lx_counts m_lx_counts
  refine F.ok sc_lx_counts (fun vs H Q E h => ?_) (fun cdv A outer s H vs Q E hr h => ⟨_, pss_cons (ps_asg (pe_disp (pps_cons pe_str pe_int (pps_cons pe_str pe_int (pps_cons pe_str pe_int (pps_cons pe_str pe_int (pps_cons pe_str pe_int (pps_cons pe_str pe_int (pps_cons pe_str pe_int (pps_cons pe_str pe_int (pps_cons pe_str pe_int (pps_cons pe_str pe_int (pps_cons pe_str pe_int (pps_cons pe_str pe_int (pps_nil))))))))))))) rfl rfl (by decide) (by decide)) (pg_name (i := 0) sc_lx_counts.nd rfl (Or.inl rfl))) (pss_cons (ps_expr (pe_dupd (pv 0) (pa_cons (pe_disp (pps_cons pe_str pe_int (pps_cons pe_str pe_int (pps_cons pe_str pe_int (pps_cons pe_str pe_int (pps_cons pe_str pe_int (pps_cons pe_str pe_int (pps_cons pe_str pe_int (pps_cons pe_str pe_int (pps_cons pe_str pe_int (pps_cons pe_str pe_int (pps_cons pe_str pe_int (pps_nil)))))))))))) rfl rfl (by decide) (by decide)) pa_nil))) (pss_cons (ps_expr (pe_dupd (pv 0) (pa_cons (pe_disp (pps_cons pe_str pe_int (pps_cons pe_str pe_int (pps_cons pe_str pe_int (pps_cons pe_str pe_int (pps_cons pe_str pe_int (pps_nil)))))) rfl rfl (by decide) (by decide)) pa_nil))) (pss_one (ps_ret (pv 0))))), ?_⟩)
  · obtain ⟨rfl, _⟩ := h
    rfl
  · obtain ⟨rfl, k⟩ := h
    intro p hp
    refine ⟨upd_same, [(Sum.inr ("beside" : Str), V.int 1), (Sum.inr ("clash" : Str), V.int 2), (Sum.inr ("within" : Str), V.int 3), (Sum.inr ("right" : Str), V.int 1), (Sum.inr ("wrong" : Str), V.int 2), (Sum.inr ("round" : Str), V.int 3), (Sum.inr ("crowd" : Str), V.int 1), (Sum.inr ("enough" : Str), V.int 2), (Sum.inr ("fits" : Str), V.int 2), (Sum.inr ("unfit" : Str), V.int 1), (Sum.inr ("keeps" : Str), V.int 3), (Sum.inr ("forgets" : Str), V.int 1)], rfl, by decide, ?_⟩
    rw [upd2]
    have hH0 : Same H (upd H p (.dK (mergeK [] [(Sum.inr ("beside" : Str), V.int 1), (Sum.inr ("clash" : Str), V.int 2), (Sum.inr ("within" : Str), V.int 3), (Sum.inr ("right" : Str), V.int 1), (Sum.inr ("wrong" : Str), V.int 2), (Sum.inr ("round" : Str), V.int 3), (Sum.inr ("crowd" : Str), V.int 1), (Sum.inr ("enough" : Str), V.int 2), (Sum.inr ("fits" : Str), V.int 2), (Sum.inr ("unfit" : Str), V.int 1), (Sum.inr ("keeps" : Str), V.int 3), (Sum.inr ("forgets" : Str), V.int 1)]))) := same_new hp
    have hp0 : upd H p (.dK (mergeK [] [(Sum.inr ("beside" : Str), V.int 1), (Sum.inr ("clash" : Str), V.int 2), (Sum.inr ("within" : Str), V.int 3), (Sum.inr ("right" : Str), V.int 1), (Sum.inr ("wrong" : Str), V.int 2), (Sum.inr ("round" : Str), V.int 3), (Sum.inr ("crowd" : Str), V.int 1), (Sum.inr ("enough" : Str), V.int 2), (Sum.inr ("fits" : Str), V.int 2), (Sum.inr ("unfit" : Str), V.int 1), (Sum.inr ("keeps" : Str), V.int 3), (Sum.inr ("forgets" : Str), V.int 1)])) p = some (.dK (mergeK [] [(Sum.inr ("beside" : Str), V.int 1), (Sum.inr ("clash" : Str), V.int 2), (Sum.inr ("within" : Str), V.int 3), (Sum.inr ("right" : Str), V.int 1), (Sum.inr ("wrong" : Str), V.int 2), (Sum.inr ("round" : Str), V.int 3), (Sum.inr ("crowd" : Str), V.int 1), (Sum.inr ("enough" : Str), V.int 2), (Sum.inr ("fits" : Str), V.int 2), (Sum.inr ("unfit" : Str), V.int 1), (Sum.inr ("keeps" : Str), V.int 3), (Sum.inr ("forgets" : Str), V.int 1)])) := upd_same
    refine ⟨_, rfl, .inr (.inr (.inl ⟨rfl, .inl ⟨_, hp0⟩⟩)), fun q0 hq0 => ⟨upd_same, [(Sum.inr ("known" : Str), V.int 2), (Sum.inr ("alike" : Str), V.int 3), (Sum.inr ("sayable" : Str), V.int 1), (Sum.inr ("barred" : Str), V.int 2), (Sum.inr ("order" : Str), V.int 3), (Sum.inr ("unordered" : Str), V.int 3), (Sum.inr ("plan" : Str), V.int 2), (Sum.inr ("spoil" : Str), V.int 2), (Sum.inr ("matching" : Str), V.int 1), (Sum.inr ("apart" : Str), V.int 2), (Sum.inr ("shorter" : Str), V.int 4)], rfl, by decide, ?_⟩⟩
    rw [upd2]
    have ne0 : p ≠ q0 := ne_of_none hp0 hq0
    refine ⟨p, q0, _, _, rfl, rfl, by rw [upd_ne ne0]; exact hp0, upd_same, ne0, by decide +kernel, ?_⟩
    have at0 := upd_same (H := upd (upd H p (.dK (mergeK [] [(Sum.inr ("beside" : Str), V.int 1), (Sum.inr ("clash" : Str), V.int 2), (Sum.inr ("within" : Str), V.int 3), (Sum.inr ("right" : Str), V.int 1), (Sum.inr ("wrong" : Str), V.int 2), (Sum.inr ("round" : Str), V.int 3), (Sum.inr ("crowd" : Str), V.int 1), (Sum.inr ("enough" : Str), V.int 2), (Sum.inr ("fits" : Str), V.int 2), (Sum.inr ("unfit" : Str), V.int 1), (Sum.inr ("keeps" : Str), V.int 3), (Sum.inr ("forgets" : Str), V.int 1)]))) q0 (.dK (mergeK [] [(Sum.inr ("known" : Str), V.int 2), (Sum.inr ("alike" : Str), V.int 3), (Sum.inr ("sayable" : Str), V.int 1), (Sum.inr ("barred" : Str), V.int 2), (Sum.inr ("order" : Str), V.int 3), (Sum.inr ("unordered" : Str), V.int 3), (Sum.inr ("plan" : Str), V.int 2), (Sum.inr ("spoil" : Str), V.int 2), (Sum.inr ("matching" : Str), V.int 1), (Sum.inr ("apart" : Str), V.int 2), (Sum.inr ("shorter" : Str), V.int 4)]))) (a := p) (o := .dK (mergeK (mergeK [] [(Sum.inr ("beside" : Str), V.int 1), (Sum.inr ("clash" : Str), V.int 2), (Sum.inr ("within" : Str), V.int 3), (Sum.inr ("right" : Str), V.int 1), (Sum.inr ("wrong" : Str), V.int 2), (Sum.inr ("round" : Str), V.int 3), (Sum.inr ("crowd" : Str), V.int 1), (Sum.inr ("enough" : Str), V.int 2), (Sum.inr ("fits" : Str), V.int 2), (Sum.inr ("unfit" : Str), V.int 1), (Sum.inr ("keeps" : Str), V.int 3), (Sum.inr ("forgets" : Str), V.int 1)]) (mergeK [] [(Sum.inr ("known" : Str), V.int 2), (Sum.inr ("alike" : Str), V.int 3), (Sum.inr ("sayable" : Str), V.int 1), (Sum.inr ("barred" : Str), V.int 2), (Sum.inr ("order" : Str), V.int 3), (Sum.inr ("unordered" : Str), V.int 3), (Sum.inr ("plan" : Str), V.int 2), (Sum.inr ("spoil" : Str), V.int 2), (Sum.inr ("matching" : Str), V.int 1), (Sum.inr ("apart" : Str), V.int 2), (Sum.inr ("shorter" : Str), V.int 4)])))
    have sm0 : ∀ b o, H b = some o → (upd (upd (upd H p (.dK (mergeK [] [(Sum.inr ("beside" : Str), V.int 1), (Sum.inr ("clash" : Str), V.int 2), (Sum.inr ("within" : Str), V.int 3), (Sum.inr ("right" : Str), V.int 1), (Sum.inr ("wrong" : Str), V.int 2), (Sum.inr ("round" : Str), V.int 3), (Sum.inr ("crowd" : Str), V.int 1), (Sum.inr ("enough" : Str), V.int 2), (Sum.inr ("fits" : Str), V.int 2), (Sum.inr ("unfit" : Str), V.int 1), (Sum.inr ("keeps" : Str), V.int 3), (Sum.inr ("forgets" : Str), V.int 1)]))) q0 (.dK (mergeK [] [(Sum.inr ("known" : Str), V.int 2), (Sum.inr ("alike" : Str), V.int 3), (Sum.inr ("sayable" : Str), V.int 1), (Sum.inr ("barred" : Str), V.int 2), (Sum.inr ("order" : Str), V.int 3), (Sum.inr ("unordered" : Str), V.int 3), (Sum.inr ("plan" : Str), V.int 2), (Sum.inr ("spoil" : Str), V.int 2), (Sum.inr ("matching" : Str), V.int 1), (Sum.inr ("apart" : Str), V.int 2), (Sum.inr ("shorter" : Str), V.int 4)]))) p (.dK (mergeK (mergeK [] [(Sum.inr ("beside" : Str), V.int 1), (Sum.inr ("clash" : Str), V.int 2), (Sum.inr ("within" : Str), V.int 3), (Sum.inr ("right" : Str), V.int 1), (Sum.inr ("wrong" : Str), V.int 2), (Sum.inr ("round" : Str), V.int 3), (Sum.inr ("crowd" : Str), V.int 1), (Sum.inr ("enough" : Str), V.int 2), (Sum.inr ("fits" : Str), V.int 2), (Sum.inr ("unfit" : Str), V.int 1), (Sum.inr ("keeps" : Str), V.int 3), (Sum.inr ("forgets" : Str), V.int 1)]) (mergeK [] [(Sum.inr ("known" : Str), V.int 2), (Sum.inr ("alike" : Str), V.int 3), (Sum.inr ("sayable" : Str), V.int 1), (Sum.inr ("barred" : Str), V.int 2), (Sum.inr ("order" : Str), V.int 3), (Sum.inr ("unordered" : Str), V.int 3), (Sum.inr ("plan" : Str), V.int 2), (Sum.inr ("spoil" : Str), V.int 2), (Sum.inr ("matching" : Str), V.int 1), (Sum.inr ("apart" : Str), V.int 2), (Sum.inr ("shorter" : Str), V.int 4)])))) b = some o := fun b o e => by
      rw [upd_ne (ne_of_none e hp), upd_ne (ne_of_none (hH0 b o e) hq0)]
      exact hH0 b o e
    refine ⟨_, rfl, .inr (.inr (.inl ⟨rfl, .inl ⟨_, at0⟩⟩)), fun q1 hq1 => ⟨upd_same, [(Sum.inr ("soonest" : Str), V.int 3), (Sum.inr ("delay" : Str), V.int 3), (Sum.inr ("turning" : Str), V.int 1), (Sum.inr ("seemly" : Str), V.int 4), (Sum.inr ("unseemly" : Str), V.int 1)], rfl, by decide, ?_⟩⟩
    rw [upd2]
    have ne1 : p ≠ q1 := ne_of_none at0 hq1
    refine ⟨p, q1, _, _, rfl, rfl, by rw [upd_ne ne1]; exact at0, upd_same, ne1, by decide +kernel, ?_⟩
    have at1 := upd_same (H := upd (upd (upd (upd H p (.dK (mergeK [] [(Sum.inr ("beside" : Str), V.int 1), (Sum.inr ("clash" : Str), V.int 2), (Sum.inr ("within" : Str), V.int 3), (Sum.inr ("right" : Str), V.int 1), (Sum.inr ("wrong" : Str), V.int 2), (Sum.inr ("round" : Str), V.int 3), (Sum.inr ("crowd" : Str), V.int 1), (Sum.inr ("enough" : Str), V.int 2), (Sum.inr ("fits" : Str), V.int 2), (Sum.inr ("unfit" : Str), V.int 1), (Sum.inr ("keeps" : Str), V.int 3), (Sum.inr ("forgets" : Str), V.int 1)]))) q0 (.dK (mergeK [] [(Sum.inr ("known" : Str), V.int 2), (Sum.inr ("alike" : Str), V.int 3), (Sum.inr ("sayable" : Str), V.int 1), (Sum.inr ("barred" : Str), V.int 2), (Sum.inr ("order" : Str), V.int 3), (Sum.inr ("unordered" : Str), V.int 3), (Sum.inr ("plan" : Str), V.int 2), (Sum.inr ("spoil" : Str), V.int 2), (Sum.inr ("matching" : Str), V.int 1), (Sum.inr ("apart" : Str), V.int 2), (Sum.inr ("shorter" : Str), V.int 4)]))) p (.dK (mergeK (mergeK [] [(Sum.inr ("beside" : Str), V.int 1), (Sum.inr ("clash" : Str), V.int 2), (Sum.inr ("within" : Str), V.int 3), (Sum.inr ("right" : Str), V.int 1), (Sum.inr ("wrong" : Str), V.int 2), (Sum.inr ("round" : Str), V.int 3), (Sum.inr ("crowd" : Str), V.int 1), (Sum.inr ("enough" : Str), V.int 2), (Sum.inr ("fits" : Str), V.int 2), (Sum.inr ("unfit" : Str), V.int 1), (Sum.inr ("keeps" : Str), V.int 3), (Sum.inr ("forgets" : Str), V.int 1)]) (mergeK [] [(Sum.inr ("known" : Str), V.int 2), (Sum.inr ("alike" : Str), V.int 3), (Sum.inr ("sayable" : Str), V.int 1), (Sum.inr ("barred" : Str), V.int 2), (Sum.inr ("order" : Str), V.int 3), (Sum.inr ("unordered" : Str), V.int 3), (Sum.inr ("plan" : Str), V.int 2), (Sum.inr ("spoil" : Str), V.int 2), (Sum.inr ("matching" : Str), V.int 1), (Sum.inr ("apart" : Str), V.int 2), (Sum.inr ("shorter" : Str), V.int 4)])))) q1 (.dK (mergeK [] [(Sum.inr ("soonest" : Str), V.int 3), (Sum.inr ("delay" : Str), V.int 3), (Sum.inr ("turning" : Str), V.int 1), (Sum.inr ("seemly" : Str), V.int 4), (Sum.inr ("unseemly" : Str), V.int 1)]))) (a := p) (o := .dK (mergeK (mergeK (mergeK [] [(Sum.inr ("beside" : Str), V.int 1), (Sum.inr ("clash" : Str), V.int 2), (Sum.inr ("within" : Str), V.int 3), (Sum.inr ("right" : Str), V.int 1), (Sum.inr ("wrong" : Str), V.int 2), (Sum.inr ("round" : Str), V.int 3), (Sum.inr ("crowd" : Str), V.int 1), (Sum.inr ("enough" : Str), V.int 2), (Sum.inr ("fits" : Str), V.int 2), (Sum.inr ("unfit" : Str), V.int 1), (Sum.inr ("keeps" : Str), V.int 3), (Sum.inr ("forgets" : Str), V.int 1)]) (mergeK [] [(Sum.inr ("known" : Str), V.int 2), (Sum.inr ("alike" : Str), V.int 3), (Sum.inr ("sayable" : Str), V.int 1), (Sum.inr ("barred" : Str), V.int 2), (Sum.inr ("order" : Str), V.int 3), (Sum.inr ("unordered" : Str), V.int 3), (Sum.inr ("plan" : Str), V.int 2), (Sum.inr ("spoil" : Str), V.int 2), (Sum.inr ("matching" : Str), V.int 1), (Sum.inr ("apart" : Str), V.int 2), (Sum.inr ("shorter" : Str), V.int 4)])) (mergeK [] [(Sum.inr ("soonest" : Str), V.int 3), (Sum.inr ("delay" : Str), V.int 3), (Sum.inr ("turning" : Str), V.int 1), (Sum.inr ("seemly" : Str), V.int 4), (Sum.inr ("unseemly" : Str), V.int 1)])))
    have sm1 : ∀ b o, H b = some o → (upd (upd (upd (upd (upd H p (.dK (mergeK [] [(Sum.inr ("beside" : Str), V.int 1), (Sum.inr ("clash" : Str), V.int 2), (Sum.inr ("within" : Str), V.int 3), (Sum.inr ("right" : Str), V.int 1), (Sum.inr ("wrong" : Str), V.int 2), (Sum.inr ("round" : Str), V.int 3), (Sum.inr ("crowd" : Str), V.int 1), (Sum.inr ("enough" : Str), V.int 2), (Sum.inr ("fits" : Str), V.int 2), (Sum.inr ("unfit" : Str), V.int 1), (Sum.inr ("keeps" : Str), V.int 3), (Sum.inr ("forgets" : Str), V.int 1)]))) q0 (.dK (mergeK [] [(Sum.inr ("known" : Str), V.int 2), (Sum.inr ("alike" : Str), V.int 3), (Sum.inr ("sayable" : Str), V.int 1), (Sum.inr ("barred" : Str), V.int 2), (Sum.inr ("order" : Str), V.int 3), (Sum.inr ("unordered" : Str), V.int 3), (Sum.inr ("plan" : Str), V.int 2), (Sum.inr ("spoil" : Str), V.int 2), (Sum.inr ("matching" : Str), V.int 1), (Sum.inr ("apart" : Str), V.int 2), (Sum.inr ("shorter" : Str), V.int 4)]))) p (.dK (mergeK (mergeK [] [(Sum.inr ("beside" : Str), V.int 1), (Sum.inr ("clash" : Str), V.int 2), (Sum.inr ("within" : Str), V.int 3), (Sum.inr ("right" : Str), V.int 1), (Sum.inr ("wrong" : Str), V.int 2), (Sum.inr ("round" : Str), V.int 3), (Sum.inr ("crowd" : Str), V.int 1), (Sum.inr ("enough" : Str), V.int 2), (Sum.inr ("fits" : Str), V.int 2), (Sum.inr ("unfit" : Str), V.int 1), (Sum.inr ("keeps" : Str), V.int 3), (Sum.inr ("forgets" : Str), V.int 1)]) (mergeK [] [(Sum.inr ("known" : Str), V.int 2), (Sum.inr ("alike" : Str), V.int 3), (Sum.inr ("sayable" : Str), V.int 1), (Sum.inr ("barred" : Str), V.int 2), (Sum.inr ("order" : Str), V.int 3), (Sum.inr ("unordered" : Str), V.int 3), (Sum.inr ("plan" : Str), V.int 2), (Sum.inr ("spoil" : Str), V.int 2), (Sum.inr ("matching" : Str), V.int 1), (Sum.inr ("apart" : Str), V.int 2), (Sum.inr ("shorter" : Str), V.int 4)])))) q1 (.dK (mergeK [] [(Sum.inr ("soonest" : Str), V.int 3), (Sum.inr ("delay" : Str), V.int 3), (Sum.inr ("turning" : Str), V.int 1), (Sum.inr ("seemly" : Str), V.int 4), (Sum.inr ("unseemly" : Str), V.int 1)]))) p (.dK (mergeK (mergeK (mergeK [] [(Sum.inr ("beside" : Str), V.int 1), (Sum.inr ("clash" : Str), V.int 2), (Sum.inr ("within" : Str), V.int 3), (Sum.inr ("right" : Str), V.int 1), (Sum.inr ("wrong" : Str), V.int 2), (Sum.inr ("round" : Str), V.int 3), (Sum.inr ("crowd" : Str), V.int 1), (Sum.inr ("enough" : Str), V.int 2), (Sum.inr ("fits" : Str), V.int 2), (Sum.inr ("unfit" : Str), V.int 1), (Sum.inr ("keeps" : Str), V.int 3), (Sum.inr ("forgets" : Str), V.int 1)]) (mergeK [] [(Sum.inr ("known" : Str), V.int 2), (Sum.inr ("alike" : Str), V.int 3), (Sum.inr ("sayable" : Str), V.int 1), (Sum.inr ("barred" : Str), V.int 2), (Sum.inr ("order" : Str), V.int 3), (Sum.inr ("unordered" : Str), V.int 3), (Sum.inr ("plan" : Str), V.int 2), (Sum.inr ("spoil" : Str), V.int 2), (Sum.inr ("matching" : Str), V.int 1), (Sum.inr ("apart" : Str), V.int 2), (Sum.inr ("shorter" : Str), V.int 4)])) (mergeK [] [(Sum.inr ("soonest" : Str), V.int 3), (Sum.inr ("delay" : Str), V.int 3), (Sum.inr ("turning" : Str), V.int 1), (Sum.inr ("seemly" : Str), V.int 4), (Sum.inr ("unseemly" : Str), V.int 1)])))) b = some o := fun b o e => by
      rw [upd_ne (ne_of_none e hp), upd_ne (ne_of_none (sm0 b o e) hq1)]
      exact sm0 b o e
    refine ⟨_, rfl, k p _ hp sm1 ?_⟩
    rw [tab_lx_counts] at at1
    exact at1
end
end K91
set_option Elab.async false
set_option linter.all false
set_option maxRecDepth 100000
set_option maxHeartbeats 2000000
/-! K91, V: is_integer, is_told_paper. -/
namespace K91
open PySem PySem.Spec PyProof.Rows L2
def D.isInt : D → Bool
  | .int _ => true
  | _ => false
def D.isPap : D → Bool
  | .pap _ _ => true
  | _ => false
/-- told by is_told_paper -/
def D.told1 : D → Bool
  | .pap w ds => decide (cnt w = some ds.length)
  | _ => false
section
variable {w : World} {K : PySem.W.Frag} {mg : Str → Option Value} {base : Heap}
theorem kit_pap (T : Ctx K mg) {H : Hp} {d : D} {v : V} (h : Rep H d v) : PySem.W.kitOne K d.ty (.ref 274) = some d.isPap := by
  have key := List.all_eq_true.mp T.a13
  cases d with
  | pap w ds =>
    obtain ⟨a, dx, tt, vs, e1, e2, e3, k, r⟩ := h
    obtain ⟨x, p⟩ := T.pap k
    exact p.sub
  | non => exact eqB_ok (key "NoneType" (by decide))
  | int i => exact eqB_ok (key "int" (by decide))
  | str s => exact eqB_ok (key "str" (by decide))
  | bl b => exact eqB_ok (key "bool" (by decide))
  | dct => exact eqB_ok (key "dict" (by decide))
  | tup ds => exact eqB_ok (key "tuple" (by decide))
def spInt : Sp := fun vs H Q _ => ∃ (d : D) (v : V), vs = [v] ∧ Rep H d v ∧ Q (.bl d.isInt) H
theorem ok_int (T : Ctx K mg) : FnOk PW w K mg base CX0 1 21 (fdOf K 21) P_is_integer spInt := by
  have F := T.fun_ r_is_integer m_is_integer
  refine F.ok sc_is_integer (fun vs H Q E h => ?_) (fun cdv A outer s H vs Q E hr h => ⟨_, pss_one (ps_ret (pe_and (pe_callB call_isi rfl T.free (by decide +kernel) (pa_cons (pv 0) (pa_cons (pe_bltn (v := .ty "int") rfl T.free (by decide +kernel) rfl) pa_nil)))
    (pe_one (pe_not (pe_callB call_isi rfl T.free (by decide +kernel) (pa_cons (pv 0) (pa_cons (pe_bltn (v := .ty "bool") rfl T.free (by decide +kernel) rfl) pa_nil))))))), ?_⟩)
  · obtain ⟨d, v, rfl, _⟩ := h
    rfl
  · obtain ⟨d, v, rfl, hv, k⟩ := h
    refine ⟨_, rfl, v, .ty "int", d.ty, _, _, rfl, .ty _, Rep.tyx T hv, kit_d T hv (by decide), _, rfl, ?_⟩
    cases d with
    | int i => exact iteT ⟨_, rfl, v, .ty "bool", _, _, _, rfl, .ty _, Rep.tyx T hv, kit_d T hv (by decide), _, rfl, k⟩
    | bl b => exact iteT ⟨_, rfl, v, .ty "bool", _, _, _, rfl, .ty _, Rep.tyx T hv, kit_d T hv (by decide), _, rfl, k⟩
    | non => exact iteF k
    | str s => exact iteF k
    | dct => exact iteF k
    | tup ds => exact iteF k
    | pap w ds => exact iteF k
def spTold : Sp := fun vs H Q _ => ∃ (d : D) (v : V), vs = [v] ∧ Rep H d v ∧ d.sz < 100000 ∧ ∀ H', Same H H' → Q (.bl d.told1) H'
theorem fs_word {w : Str} {t : Addr} {vs : List V} : (fsOf w t vs).lookup ("word" : Str) = some (.str w) := by
  unfold fsOf
  rw [List.lookup_cons, show (("word" : Str) == ("word" : Str)) = true by decide +kernel]
theorem fs_parts {w : Str} {t : Addr} {vs : List V} : (fsOf w t vs).lookup ("parts" : Str) = some (.ref t) := by
  unfold fsOf
  rw [List.lookup_cons, show (("parts" : Str) == ("word" : Str)) = false by decide +kernel, List.lookup_cons, show (("parts" : Str) == ("parts" : Str)) = true by decide +kernel]
theorem Ctx.papA (T : Ctx K mg) {wd : Str} {n : Nat} (k : Kn wd n) : Cls K (clsAt wd) ∧ NoAttr K (clsAt wd) "word" ∧ NoAttr K (clsAt wd) "parts" := by
  have p := T.papN k
  exact ⟨cls_of p.cl, p.noat _ List.mem_cons_self, p.noat _ (List.mem_cons_of_mem _ List.mem_cons_self)⟩
theorem ok_is_told (T : Ctx K mg) : FnOk PW w K mg base CX0 2 311 (fdOf K 311) P_is_told_paper spTold := by
  have F := T.fun_ r_is_told_paper m_is_told_paper
  have Fc := T.fun_ r_counts m_counts
  have bc : Binds K (fdOf K 304) P_counts [] := Fc.binds fun _ _ _ _ _ _ us hl => match us, hl with | [], _ => rfl
  refine F.ok sc_is_told_paper (fun vs H Q E h => ?_) (fun cdv A outer s H vs Q E hr h => ⟨_, pss_one (ps_ret (pe_and (pe_callB call_isi rfl T.free (by decide +kernel) (pa_cons (pv 0) (pa_cons (pe_glob (v := .ref 274) rfl T.glo rfl) pa_nil)))
    (pe_and (pe_cmp (pc_din (hu_of hr) (pe_fld (pv 0) rfl) (pe_call0 (ok_counts T) (hr.mono (by decide)) rfl T.glo Fc.kp bc .nil pass0)))
      (pe_one (pe_cmpR op_eq (pe_callB call_len rfl T.free (by decide +kernel) (pa_cons (pe_fld (pv 0) rfl) pa_nil)) (pe_dget (hu_of hr) (pe_call0 (ok_counts T) (hr.mono (by decide)) rfl T.glo Fc.kp bc .nil pass0) (pe_fld (pv 0) rfl) (fun _ _ => rfl)) (nomark _)))))), ?_⟩)
  · obtain ⟨d, v, rfl, _⟩ := h
    rfl
  · obtain ⟨d, v, rfl, hv, hz, k⟩ := h
    refine ⟨_, rfl, v, .ref 274, d.ty, _, _, rfl, .own _, Rep.tyx T hv, kit_pap T hv, _, rfl, ?_⟩
    cases d with
    | pap wd ds =>
      obtain ⟨a, dx, tt, vs, rfl, e2, e3, kn, r⟩ := id hv
      obtain ⟨cl, nw, np⟩ := T.papA kn
      refine iteT ⟨_, rfl, a, _, dx, _, _, rfl, e2, cl, nw, fs_word, rfl, fun p H1 hp sm hc => ⟨p, _, rfl, DGet.k (k := Sum.inr wd) hc, _, rfl, ?_⟩⟩
      rw [ctab_val]
      cases hcn : cnt wd with
      | none =>
        refine iteF ?_
        have e : (D.pap wd ds).told1 = false := decide_eq_false fun z => by rw [hcn] at z; cases z
        rw [← e]
        exact k _ sm
      | some n =>
        refine iteT ⟨_, rfl, a, _, dx, _, _, rfl, sm _ _ e2, cl, np, fs_parts, _, _, rfl, .inr ⟨vs, SqT.of (sm _ _ e3), rfl⟩, rfl, fun p2 H2 hp2 sm2 hc2 => ⟨_, rfl, a, _, dx, _, _, rfl, sm2 _ _ (sm _ _ e2), cl, nw, fs_word, p2, V.int n, rfl, ?_, rfl, ?_⟩⟩
        · have z := DGet.k (k := Sum.inr wd) hc2
          rw [ctab_val, hcn] at z
          exact z
        · have e : decide (V.int (vs.length : Nat) = V.int (n : Nat)) = (D.pap wd ds).told1 := by
            show _ = decide (cnt wd = some ds.length)
            rw [hcn, RepL.len r, Bool.eq_iff_iff]
            simp only [decide_eq_true_eq, V.int.injEq, Option.some.injEq]
            omega
          rw [e]
          exact k _ (sm.trans sm2)
    | int i => exact iteF (k _ (Same.refl _))
    | bl b => exact iteF (k _ (Same.refl _))
    | non => exact iteF (k _ (Same.refl _))
    | str s => exact iteF (k _ (Same.refl _))
    | dct => exact iteF (k _ (Same.refl _))
    | tup ds => exact iteF (k _ (Same.refl _))
end
end K91
set_option Elab.async false
set_option linter.all false
set_option maxRecDepth 100000
set_option maxHeartbeats 4000000
/-! K91, W: made_one, made_two, made_three, made_paper (printed by gen_k91w.py). -/
namespace K91
open PySem PySem.Spec PyProof.Rows L2
theorem strF {i j : Str} {A B : Prop} (h : (i == j) = false) (b : B) : if decide (V.str i = V.str j) = true then A else B := by
  rw [dec_str, h]
  exact iteF b
theorem strT {i j : Str} {A B : Prop} (h : (i == j) = true) (a : A) : if decide (V.str i = V.str j) = true then A else B := by
  rw [dec_str, h]
  exact iteT a
theorem len2 {α : Type} : ∀ {l : List α}, l.length = 2 → ∃ a b, l = [a, b]
  | [a, b], _ => ⟨a, b, rfl⟩
theorem len3 {α : Type} : ∀ {l : List α}, l.length = 3 → ∃ a b c, l = [a, b, c]
  | [a, b, c], _ => ⟨a, b, c, rfl⟩
theorem len4 {α : Type} : ∀ {l : List α}, l.length = 4 → ∃ a b c d, l = [a, b, c, d]
  | [a, b, c, d], _ => ⟨a, b, c, d, rfl⟩
theorem cnt_mem {w : Str} {n : Nat} (h : cnt w = some n) : (w, n) ∈ tbl := PySem.mem_of_lookup h
def wordsN (n : Nat) : List Str := (tbl.filter fun p => decide (p.2 = n)).map (·.1)
theorem cnt_words {w : Str} {n : Nat} (h : cnt w = some n) : w ∈ wordsN n := List.mem_map.mpr ⟨(w, n), List.mem_filter.mpr ⟨cnt_mem h, by simp⟩, rfl⟩
/-- what makes a paper of a told word -/
def spMade (K : PySem.W.Frag) (P : Nat → Prop) (n : Nat) : Sp := fun vs H Q _ => ∃ (wd : Str) (ds : List D) (l : Addr) (xs : List V), vs = [.str wd, .ref l] ∧ SqL K H l xs ∧ RepL H ds xs ∧ cnt wd = some ds.length ∧ P ds.length ∧ szL ds < 100000 ∧ depL ds < n ∧ ∀ v H', Same H H' → Rep H' (.pap wd ds) v → Q v H'
section
variable {w : World} {K : PySem.W.Frag} {mg : Str → Option Value} {base : Heap}
theorem ok_made_one (T : Ctx K mg) (n : Nat) : FnOk PW w K mg base CX0 (n + 6) r_made_one.at_ (fdOf K r_made_one.at_) P_made_one (spMade K (fun m => m = 1) n) := by
  have F := T.fun_ r_made_one m_made_one
  refine F.ok sc_made_one (fun vs H Q E h => ?_) (fun cdv A outer s H vs Q E hr h => ⟨_, pss_cons (ps_if (pt_cmpR op_eq (pv 0) pe_str (nomark _)) (pss_one (ps_ret (mk_Beside rfl T n hr rfl (pa_cons (pe_ix ix_list (pv 1) pe_int (fun _ _ => rfl)) pa_nil)))) pss_nil) (pss_cons (ps_if (pt_cmpR op_eq (pv 0) pe_str (nomark _)) (pss_one (ps_ret (mk_Right rfl T n hr rfl (pa_cons (pe_ix ix_list (pv 1) pe_int (fun _ _ => rfl)) pa_nil)))) pss_nil) (pss_cons (ps_if (pt_cmpR op_eq (pv 0) pe_str (nomark _)) (pss_one (ps_ret (mk_Crowd rfl T n hr rfl (pa_cons (pe_ix ix_list (pv 1) pe_int (fun _ _ => rfl)) pa_nil)))) pss_nil) (pss_cons (ps_if (pt_cmpR op_eq (pv 0) pe_str (nomark _)) (pss_one (ps_ret (mk_Unfit rfl T n hr rfl (pa_cons (pe_ix ix_list (pv 1) pe_int (fun _ _ => rfl)) pa_nil)))) pss_nil) (pss_cons (ps_if (pt_cmpR op_eq (pv 0) pe_str (nomark _)) (pss_one (ps_ret (mk_Forgets rfl T n hr rfl (pa_cons (pe_ix ix_list (pv 1) pe_int (fun _ _ => rfl)) pa_nil)))) pss_nil) (pss_cons (ps_if (pt_cmpR op_eq (pv 0) pe_str (nomark _)) (pss_one (ps_ret (mk_Sayable rfl T n hr rfl (pa_cons (pe_ix ix_list (pv 1) pe_int (fun _ _ => rfl)) pa_nil)))) pss_nil) (pss_cons (ps_if (pt_cmpR op_eq (pv 0) pe_str (nomark _)) (pss_one (ps_ret (mk_Matching rfl T n hr rfl (pa_cons (pe_ix ix_list (pv 1) pe_int (fun _ _ => rfl)) pa_nil)))) pss_nil) (pss_cons (ps_if (pt_cmpR op_eq (pv 0) pe_str (nomark _)) (pss_one (ps_ret (mk_Unseemly rfl T n hr rfl (pa_cons (pe_ix ix_list (pv 1) pe_int (fun _ _ => rfl)) pa_nil)))) pss_nil) (pss_one (ps_ret (pe_ifExp (pt_cmpR op_eq (pv 0) pe_str (nomark _)) (mk_Turning rfl T n hr rfl (pa_cons (pe_ix ix_list (pv 1) pe_int (fun _ _ => rfl)) pa_nil)) pe_non)))))))))), ?_⟩)
  · obtain ⟨wd, ds, l, xs, rfl, _⟩ := h
    rfl
  · obtain ⟨wd, ds, l, xs, rfl, hs, hr0, hc, hp, hz, hd, k⟩ := h
    have hlx := RepL.len hr0
    have hp : ds.length = 1 := hp
    have hlen : ds.length = 1 := hp
    rw [hp] at hc hlx
    have hm := cnt_words hc
    obtain ⟨x0, rfl⟩ := List.length_eq_one_iff.mp hlx
    rcases List.mem_cons.mp hm with rfl | hm
    · exact ⟨_, rfl, rfl, _, rfl, strT (by decide +kernel) ⟨_, rfl, l, [x0], 0, x0, rfl, rfl, hs, rfl, make_read pc_Beside hr0 hlen hz hd k⟩⟩
    rcases List.mem_cons.mp hm with rfl | hm
    · exact ⟨_, rfl, rfl, _, rfl, strF (by decide +kernel) ⟨_, rfl, rfl, _, rfl, strT (by decide +kernel) ⟨_, rfl, l, [x0], 0, x0, rfl, rfl, hs, rfl, make_read pc_Right hr0 hlen hz hd k⟩⟩⟩
    rcases List.mem_cons.mp hm with rfl | hm
    · exact ⟨_, rfl, rfl, _, rfl, strF (by decide +kernel) ⟨_, rfl, rfl, _, rfl, strF (by decide +kernel) ⟨_, rfl, rfl, _, rfl, strT (by decide +kernel) ⟨_, rfl, l, [x0], 0, x0, rfl, rfl, hs, rfl, make_read pc_Crowd hr0 hlen hz hd k⟩⟩⟩⟩
    rcases List.mem_cons.mp hm with rfl | hm
    · exact ⟨_, rfl, rfl, _, rfl, strF (by decide +kernel) ⟨_, rfl, rfl, _, rfl, strF (by decide +kernel) ⟨_, rfl, rfl, _, rfl, strF (by decide +kernel) ⟨_, rfl, rfl, _, rfl, strT (by decide +kernel) ⟨_, rfl, l, [x0], 0, x0, rfl, rfl, hs, rfl, make_read pc_Unfit hr0 hlen hz hd k⟩⟩⟩⟩⟩
    rcases List.mem_cons.mp hm with rfl | hm
    · exact ⟨_, rfl, rfl, _, rfl, strF (by decide +kernel) ⟨_, rfl, rfl, _, rfl, strF (by decide +kernel) ⟨_, rfl, rfl, _, rfl, strF (by decide +kernel) ⟨_, rfl, rfl, _, rfl, strF (by decide +kernel) ⟨_, rfl, rfl, _, rfl, strT (by decide +kernel) ⟨_, rfl, l, [x0], 0, x0, rfl, rfl, hs, rfl, make_read pc_Forgets hr0 hlen hz hd k⟩⟩⟩⟩⟩⟩
    rcases List.mem_cons.mp hm with rfl | hm
    · exact ⟨_, rfl, rfl, _, rfl, strF (by decide +kernel) ⟨_, rfl, rfl, _, rfl, strF (by decide +kernel) ⟨_, rfl, rfl, _, rfl, strF (by decide +kernel) ⟨_, rfl, rfl, _, rfl, strF (by decide +kernel) ⟨_, rfl, rfl, _, rfl, strF (by decide +kernel) ⟨_, rfl, rfl, _, rfl, strT (by decide +kernel) ⟨_, rfl, l, [x0], 0, x0, rfl, rfl, hs, rfl, make_read pc_Sayable hr0 hlen hz hd k⟩⟩⟩⟩⟩⟩⟩
    rcases List.mem_cons.mp hm with rfl | hm
    · exact ⟨_, rfl, rfl, _, rfl, strF (by decide +kernel) ⟨_, rfl, rfl, _, rfl, strF (by decide +kernel) ⟨_, rfl, rfl, _, rfl, strF (by decide +kernel) ⟨_, rfl, rfl, _, rfl, strF (by decide +kernel) ⟨_, rfl, rfl, _, rfl, strF (by decide +kernel) ⟨_, rfl, rfl, _, rfl, strF (by decide +kernel) ⟨_, rfl, rfl, _, rfl, strT (by decide +kernel) ⟨_, rfl, l, [x0], 0, x0, rfl, rfl, hs, rfl, make_read pc_Matching hr0 hlen hz hd k⟩⟩⟩⟩⟩⟩⟩⟩
    rcases List.mem_cons.mp hm with rfl | hm
    · exact ⟨_, rfl, rfl, _, rfl, strF (by decide +kernel) ⟨_, rfl, rfl, _, rfl, strF (by decide +kernel) ⟨_, rfl, rfl, _, rfl, strF (by decide +kernel) ⟨_, rfl, rfl, _, rfl, strF (by decide +kernel) ⟨_, rfl, rfl, _, rfl, strF (by decide +kernel) ⟨_, rfl, rfl, _, rfl, strF (by decide +kernel) ⟨_, rfl, rfl, _, rfl, strF (by decide +kernel) ⟨_, rfl, rfl, _, rfl, strF (by decide +kernel) ⟨_, rfl, rfl, _, rfl, strT (by decide +kernel) ⟨_, rfl, l, [x0], 0, x0, rfl, rfl, hs, rfl, make_read pc_Turning hr0 hlen hz hd k⟩⟩⟩⟩⟩⟩⟩⟩⟩⟩
    rcases List.mem_cons.mp hm with rfl | hm
    · exact ⟨_, rfl, rfl, _, rfl, strF (by decide +kernel) ⟨_, rfl, rfl, _, rfl, strF (by decide +kernel) ⟨_, rfl, rfl, _, rfl, strF (by decide +kernel) ⟨_, rfl, rfl, _, rfl, strF (by decide +kernel) ⟨_, rfl, rfl, _, rfl, strF (by decide +kernel) ⟨_, rfl, rfl, _, rfl, strF (by decide +kernel) ⟨_, rfl, rfl, _, rfl, strF (by decide +kernel) ⟨_, rfl, rfl, _, rfl, strT (by decide +kernel) ⟨_, rfl, l, [x0], 0, x0, rfl, rfl, hs, rfl, make_read pc_Unseemly hr0 hlen hz hd k⟩⟩⟩⟩⟩⟩⟩⟩⟩
    exact absurd hm List.not_mem_nil
theorem ok_made_two (T : Ctx K mg) (n : Nat) : FnOk PW w K mg base CX0 (n + 6) r_made_two.at_ (fdOf K r_made_two.at_) P_made_two (spMade K (fun m => m = 2) n) := by
  have F := T.fun_ r_made_two m_made_two
  refine F.ok sc_made_two (fun vs H Q E h => ?_) (fun cdv A outer s H vs Q E hr h => ⟨_, pss_cons (ps_if (pt_cmpR op_eq (pv 0) pe_str (nomark _)) (pss_one (ps_ret (mk_Clash rfl T n hr rfl (pa_cons (pe_ix ix_list (pv 1) pe_int (fun _ _ => rfl)) (pa_cons (pe_ix ix_list (pv 1) pe_int (fun _ _ => rfl)) pa_nil))))) pss_nil) (pss_cons (ps_if (pt_cmpR op_eq (pv 0) pe_str (nomark _)) (pss_one (ps_ret (mk_Wrong rfl T n hr rfl (pa_cons (pe_ix ix_list (pv 1) pe_int (fun _ _ => rfl)) (pa_cons (pe_ix ix_list (pv 1) pe_int (fun _ _ => rfl)) pa_nil))))) pss_nil) (pss_cons (ps_if (pt_cmpR op_eq (pv 0) pe_str (nomark _)) (pss_one (ps_ret (mk_Enough rfl T n hr rfl (pa_cons (pe_ix ix_list (pv 1) pe_int (fun _ _ => rfl)) (pa_cons (pe_ix ix_list (pv 1) pe_int (fun _ _ => rfl)) pa_nil))))) pss_nil) (pss_cons (ps_if (pt_cmpR op_eq (pv 0) pe_str (nomark _)) (pss_one (ps_ret (mk_Fits rfl T n hr rfl (pa_cons (pe_ix ix_list (pv 1) pe_int (fun _ _ => rfl)) (pa_cons (pe_ix ix_list (pv 1) pe_int (fun _ _ => rfl)) pa_nil))))) pss_nil) (pss_cons (ps_if (pt_cmpR op_eq (pv 0) pe_str (nomark _)) (pss_one (ps_ret (mk_Known rfl T n hr rfl (pa_cons (pe_ix ix_list (pv 1) pe_int (fun _ _ => rfl)) (pa_cons (pe_ix ix_list (pv 1) pe_int (fun _ _ => rfl)) pa_nil))))) pss_nil) (pss_cons (ps_if (pt_cmpR op_eq (pv 0) pe_str (nomark _)) (pss_one (ps_ret (mk_Barred rfl T n hr rfl (pa_cons (pe_ix ix_list (pv 1) pe_int (fun _ _ => rfl)) (pa_cons (pe_ix ix_list (pv 1) pe_int (fun _ _ => rfl)) pa_nil))))) pss_nil) (pss_cons (ps_if (pt_cmpR op_eq (pv 0) pe_str (nomark _)) (pss_one (ps_ret (mk_Plan rfl T n hr rfl (pa_cons (pe_ix ix_list (pv 1) pe_int (fun _ _ => rfl)) (pa_cons (pe_ix ix_list (pv 1) pe_int (fun _ _ => rfl)) pa_nil))))) pss_nil) (pss_cons (ps_if (pt_cmpR op_eq (pv 0) pe_str (nomark _)) (pss_one (ps_ret (mk_Spoil rfl T n hr rfl (pa_cons (pe_ix ix_list (pv 1) pe_int (fun _ _ => rfl)) (pa_cons (pe_ix ix_list (pv 1) pe_int (fun _ _ => rfl)) pa_nil))))) pss_nil) (pss_one (ps_ret (pe_ifExp (pt_cmpR op_eq (pv 0) pe_str (nomark _)) (mk_Apart rfl T n hr rfl (pa_cons (pe_ix ix_list (pv 1) pe_int (fun _ _ => rfl)) (pa_cons (pe_ix ix_list (pv 1) pe_int (fun _ _ => rfl)) pa_nil))) pe_non)))))))))), ?_⟩)
  · obtain ⟨wd, ds, l, xs, rfl, _⟩ := h
    rfl
  · obtain ⟨wd, ds, l, xs, rfl, hs, hr0, hc, hp, hz, hd, k⟩ := h
    have hlx := RepL.len hr0
    have hp : ds.length = 2 := hp
    have hlen : ds.length = 2 := hp
    rw [hp] at hc hlx
    have hm := cnt_words hc
    obtain ⟨x0, x1, rfl⟩ := len2 hlx
    rcases List.mem_cons.mp hm with rfl | hm
    · exact ⟨_, rfl, rfl, _, rfl, strT (by decide +kernel) ⟨_, rfl, l, [x0, x1], 0, x0, rfl, rfl, hs, rfl, _, rfl, l, [x0, x1], 1, x1, rfl, rfl, hs, rfl, make_read pc_Clash hr0 hlen hz hd k⟩⟩
    rcases List.mem_cons.mp hm with rfl | hm
    · exact ⟨_, rfl, rfl, _, rfl, strF (by decide +kernel) ⟨_, rfl, rfl, _, rfl, strT (by decide +kernel) ⟨_, rfl, l, [x0, x1], 0, x0, rfl, rfl, hs, rfl, _, rfl, l, [x0, x1], 1, x1, rfl, rfl, hs, rfl, make_read pc_Wrong hr0 hlen hz hd k⟩⟩⟩
    rcases List.mem_cons.mp hm with rfl | hm
    · exact ⟨_, rfl, rfl, _, rfl, strF (by decide +kernel) ⟨_, rfl, rfl, _, rfl, strF (by decide +kernel) ⟨_, rfl, rfl, _, rfl, strT (by decide +kernel) ⟨_, rfl, l, [x0, x1], 0, x0, rfl, rfl, hs, rfl, _, rfl, l, [x0, x1], 1, x1, rfl, rfl, hs, rfl, make_read pc_Enough hr0 hlen hz hd k⟩⟩⟩⟩
    rcases List.mem_cons.mp hm with rfl | hm
    · exact ⟨_, rfl, rfl, _, rfl, strF (by decide +kernel) ⟨_, rfl, rfl, _, rfl, strF (by decide +kernel) ⟨_, rfl, rfl, _, rfl, strF (by decide +kernel) ⟨_, rfl, rfl, _, rfl, strT (by decide +kernel) ⟨_, rfl, l, [x0, x1], 0, x0, rfl, rfl, hs, rfl, _, rfl, l, [x0, x1], 1, x1, rfl, rfl, hs, rfl, make_read pc_Fits hr0 hlen hz hd k⟩⟩⟩⟩⟩
    rcases List.mem_cons.mp hm with rfl | hm
    · exact ⟨_, rfl, rfl, _, rfl, strF (by decide +kernel) ⟨_, rfl, rfl, _, rfl, strF (by decide +kernel) ⟨_, rfl, rfl, _, rfl, strF (by decide +kernel) ⟨_, rfl, rfl, _, rfl, strF (by decide +kernel) ⟨_, rfl, rfl, _, rfl, strT (by decide +kernel) ⟨_, rfl, l, [x0, x1], 0, x0, rfl, rfl, hs, rfl, _, rfl, l, [x0, x1], 1, x1, rfl, rfl, hs, rfl, make_read pc_Known hr0 hlen hz hd k⟩⟩⟩⟩⟩⟩
    rcases List.mem_cons.mp hm with rfl | hm
    · exact ⟨_, rfl, rfl, _, rfl, strF (by decide +kernel) ⟨_, rfl, rfl, _, rfl, strF (by decide +kernel) ⟨_, rfl, rfl, _, rfl, strF (by decide +kernel) ⟨_, rfl, rfl, _, rfl, strF (by decide +kernel) ⟨_, rfl, rfl, _, rfl, strF (by decide +kernel) ⟨_, rfl, rfl, _, rfl, strT (by decide +kernel) ⟨_, rfl, l, [x0, x1], 0, x0, rfl, rfl, hs, rfl, _, rfl, l, [x0, x1], 1, x1, rfl, rfl, hs, rfl, make_read pc_Barred hr0 hlen hz hd k⟩⟩⟩⟩⟩⟩⟩
    rcases List.mem_cons.mp hm with rfl | hm
    · exact ⟨_, rfl, rfl, _, rfl, strF (by decide +kernel) ⟨_, rfl, rfl, _, rfl, strF (by decide +kernel) ⟨_, rfl, rfl, _, rfl, strF (by decide +kernel) ⟨_, rfl, rfl, _, rfl, strF (by decide +kernel) ⟨_, rfl, rfl, _, rfl, strF (by decide +kernel) ⟨_, rfl, rfl, _, rfl, strF (by decide +kernel) ⟨_, rfl, rfl, _, rfl, strT (by decide +kernel) ⟨_, rfl, l, [x0, x1], 0, x0, rfl, rfl, hs, rfl, _, rfl, l, [x0, x1], 1, x1, rfl, rfl, hs, rfl, make_read pc_Plan hr0 hlen hz hd k⟩⟩⟩⟩⟩⟩⟩⟩
    rcases List.mem_cons.mp hm with rfl | hm
    · exact ⟨_, rfl, rfl, _, rfl, strF (by decide +kernel) ⟨_, rfl, rfl, _, rfl, strF (by decide +kernel) ⟨_, rfl, rfl, _, rfl, strF (by decide +kernel) ⟨_, rfl, rfl, _, rfl, strF (by decide +kernel) ⟨_, rfl, rfl, _, rfl, strF (by decide +kernel) ⟨_, rfl, rfl, _, rfl, strF (by decide +kernel) ⟨_, rfl, rfl, _, rfl, strF (by decide +kernel) ⟨_, rfl, rfl, _, rfl, strT (by decide +kernel) ⟨_, rfl, l, [x0, x1], 0, x0, rfl, rfl, hs, rfl, _, rfl, l, [x0, x1], 1, x1, rfl, rfl, hs, rfl, make_read pc_Spoil hr0 hlen hz hd k⟩⟩⟩⟩⟩⟩⟩⟩⟩
    rcases List.mem_cons.mp hm with rfl | hm
    · exact ⟨_, rfl, rfl, _, rfl, strF (by decide +kernel) ⟨_, rfl, rfl, _, rfl, strF (by decide +kernel) ⟨_, rfl, rfl, _, rfl, strF (by decide +kernel) ⟨_, rfl, rfl, _, rfl, strF (by decide +kernel) ⟨_, rfl, rfl, _, rfl, strF (by decide +kernel) ⟨_, rfl, rfl, _, rfl, strF (by decide +kernel) ⟨_, rfl, rfl, _, rfl, strF (by decide +kernel) ⟨_, rfl, rfl, _, rfl, strF (by decide +kernel) ⟨_, rfl, rfl, _, rfl, strT (by decide +kernel) ⟨_, rfl, l, [x0, x1], 0, x0, rfl, rfl, hs, rfl, _, rfl, l, [x0, x1], 1, x1, rfl, rfl, hs, rfl, make_read pc_Apart hr0 hlen hz hd k⟩⟩⟩⟩⟩⟩⟩⟩⟩⟩
    exact absurd hm List.not_mem_nil
theorem ok_made_three (T : Ctx K mg) (n : Nat) : FnOk PW w K mg base CX0 (n + 6) r_made_three.at_ (fdOf K r_made_three.at_) P_made_three (spMade K (fun m => 3 ≤ m) n) := by
  have F := T.fun_ r_made_three m_made_three
  refine F.ok sc_made_three (fun vs H Q E h => ?_) (fun cdv A outer s H vs Q E hr h => ⟨_, pss_cons (ps_if (pt_cmpR op_eq (pv 0) pe_str (nomark _)) (pss_one (ps_ret (mk_Within rfl T n hr rfl (pa_cons (pe_ix ix_list (pv 1) pe_int (fun _ _ => rfl)) (pa_cons (pe_ix ix_list (pv 1) pe_int (fun _ _ => rfl)) (pa_cons (pe_ix ix_list (pv 1) pe_int (fun _ _ => rfl)) pa_nil)))))) pss_nil) (pss_cons (ps_if (pt_cmpR op_eq (pv 0) pe_str (nomark _)) (pss_one (ps_ret (mk_Round rfl T n hr rfl (pa_cons (pe_ix ix_list (pv 1) pe_int (fun _ _ => rfl)) (pa_cons (pe_ix ix_list (pv 1) pe_int (fun _ _ => rfl)) (pa_cons (pe_ix ix_list (pv 1) pe_int (fun _ _ => rfl)) pa_nil)))))) pss_nil) (pss_cons (ps_if (pt_cmpR op_eq (pv 0) pe_str (nomark _)) (pss_one (ps_ret (mk_Keeps rfl T n hr rfl (pa_cons (pe_ix ix_list (pv 1) pe_int (fun _ _ => rfl)) (pa_cons (pe_ix ix_list (pv 1) pe_int (fun _ _ => rfl)) (pa_cons (pe_ix ix_list (pv 1) pe_int (fun _ _ => rfl)) pa_nil)))))) pss_nil) (pss_cons (ps_if (pt_cmpR op_eq (pv 0) pe_str (nomark _)) (pss_one (ps_ret (mk_Alike rfl T n hr rfl (pa_cons (pe_ix ix_list (pv 1) pe_int (fun _ _ => rfl)) (pa_cons (pe_ix ix_list (pv 1) pe_int (fun _ _ => rfl)) (pa_cons (pe_ix ix_list (pv 1) pe_int (fun _ _ => rfl)) pa_nil)))))) pss_nil) (pss_cons (ps_if (pt_cmpR op_eq (pv 0) pe_str (nomark _)) (pss_one (ps_ret (mk_Order rfl T n hr rfl (pa_cons (pe_ix ix_list (pv 1) pe_int (fun _ _ => rfl)) (pa_cons (pe_ix ix_list (pv 1) pe_int (fun _ _ => rfl)) (pa_cons (pe_ix ix_list (pv 1) pe_int (fun _ _ => rfl)) pa_nil)))))) pss_nil) (pss_cons (ps_if (pt_cmpR op_eq (pv 0) pe_str (nomark _)) (pss_one (ps_ret (mk_Unordered rfl T n hr rfl (pa_cons (pe_ix ix_list (pv 1) pe_int (fun _ _ => rfl)) (pa_cons (pe_ix ix_list (pv 1) pe_int (fun _ _ => rfl)) (pa_cons (pe_ix ix_list (pv 1) pe_int (fun _ _ => rfl)) pa_nil)))))) pss_nil) (pss_cons (ps_if (pt_cmpR op_eq (pv 0) pe_str (nomark _)) (pss_one (ps_ret (mk_Soonest rfl T n hr rfl (pa_cons (pe_ix ix_list (pv 1) pe_int (fun _ _ => rfl)) (pa_cons (pe_ix ix_list (pv 1) pe_int (fun _ _ => rfl)) (pa_cons (pe_ix ix_list (pv 1) pe_int (fun _ _ => rfl)) pa_nil)))))) pss_nil) (pss_cons (ps_if (pt_cmpR op_eq (pv 0) pe_str (nomark _)) (pss_one (ps_ret (mk_Delay rfl T n hr rfl (pa_cons (pe_ix ix_list (pv 1) pe_int (fun _ _ => rfl)) (pa_cons (pe_ix ix_list (pv 1) pe_int (fun _ _ => rfl)) (pa_cons (pe_ix ix_list (pv 1) pe_int (fun _ _ => rfl)) pa_nil)))))) pss_nil) (pss_cons (ps_if (pt_cmpR op_eq (pv 0) pe_str (nomark _)) (pss_one (ps_ret (mk_Seemly rfl T n hr rfl (pa_cons (pe_ix ix_list (pv 1) pe_int (fun _ _ => rfl)) (pa_cons (pe_ix ix_list (pv 1) pe_int (fun _ _ => rfl)) (pa_cons (pe_ix ix_list (pv 1) pe_int (fun _ _ => rfl)) (pa_cons (pe_ix ix_list (pv 1) pe_int (fun _ _ => rfl)) pa_nil))))))) pss_nil) (pss_one (ps_ret (mk_Shorter rfl T n hr rfl (pa_cons (pe_ix ix_list (pv 1) pe_int (fun _ _ => rfl)) (pa_cons (pe_ix ix_list (pv 1) pe_int (fun _ _ => rfl)) (pa_cons (pe_ix ix_list (pv 1) pe_int (fun _ _ => rfl)) (pa_cons (pe_ix ix_list (pv 1) pe_int (fun _ _ => rfl)) pa_nil))))))))))))))), ?_⟩)
  · obtain ⟨wd, ds, l, xs, rfl, _⟩ := h
    rfl
  · obtain ⟨wd, ds, l, xs, rfl, hs, hr0, hc, hp, hz, hd, k⟩ := h
    have hlx := RepL.len hr0
    have h34 : ds.length = 3 ∨ ds.length = 4 := by
      have z := cnt_mem hc
      have z2 : tbl.all (fun p => decide (p.2 ≤ 4)) = true := by decide +kernel
      have z3 := of_decide_eq_true (List.all_eq_true.mp z2 _ z)
      have hp : 3 ≤ ds.length := hp
      have z3 : ds.length ≤ 4 := z3
      omega
    rcases h34 with hlen | hlen
    · rw [hlen] at hc hlx
      have hm := cnt_words hc
      obtain ⟨x0, x1, x2, rfl⟩ := len3 hlx
      rcases List.mem_cons.mp hm with rfl | hm
      · exact ⟨_, rfl, rfl, _, rfl, strT (by decide +kernel) ⟨_, rfl, l, [x0, x1, x2], 0, x0, rfl, rfl, hs, rfl, _, rfl, l, [x0, x1, x2], 1, x1, rfl, rfl, hs, rfl, _, rfl, l, [x0, x1, x2], 2, x2, rfl, rfl, hs, rfl, make_read pc_Within hr0 hlen hz hd k⟩⟩
      rcases List.mem_cons.mp hm with rfl | hm
      · exact ⟨_, rfl, rfl, _, rfl, strF (by decide +kernel) ⟨_, rfl, rfl, _, rfl, strT (by decide +kernel) ⟨_, rfl, l, [x0, x1, x2], 0, x0, rfl, rfl, hs, rfl, _, rfl, l, [x0, x1, x2], 1, x1, rfl, rfl, hs, rfl, _, rfl, l, [x0, x1, x2], 2, x2, rfl, rfl, hs, rfl, make_read pc_Round hr0 hlen hz hd k⟩⟩⟩
      rcases List.mem_cons.mp hm with rfl | hm
      · exact ⟨_, rfl, rfl, _, rfl, strF (by decide +kernel) ⟨_, rfl, rfl, _, rfl, strF (by decide +kernel) ⟨_, rfl, rfl, _, rfl, strT (by decide +kernel) ⟨_, rfl, l, [x0, x1, x2], 0, x0, rfl, rfl, hs, rfl, _, rfl, l, [x0, x1, x2], 1, x1, rfl, rfl, hs, rfl, _, rfl, l, [x0, x1, x2], 2, x2, rfl, rfl, hs, rfl, make_read pc_Keeps hr0 hlen hz hd k⟩⟩⟩⟩
      rcases List.mem_cons.mp hm with rfl | hm
      · exact ⟨_, rfl, rfl, _, rfl, strF (by decide +kernel) ⟨_, rfl, rfl, _, rfl, strF (by decide +kernel) ⟨_, rfl, rfl, _, rfl, strF (by decide +kernel) ⟨_, rfl, rfl, _, rfl, strT (by decide +kernel) ⟨_, rfl, l, [x0, x1, x2], 0, x0, rfl, rfl, hs, rfl, _, rfl, l, [x0, x1, x2], 1, x1, rfl, rfl, hs, rfl, _, rfl, l, [x0, x1, x2], 2, x2, rfl, rfl, hs, rfl, make_read pc_Alike hr0 hlen hz hd k⟩⟩⟩⟩⟩
      rcases List.mem_cons.mp hm with rfl | hm
      · exact ⟨_, rfl, rfl, _, rfl, strF (by decide +kernel) ⟨_, rfl, rfl, _, rfl, strF (by decide +kernel) ⟨_, rfl, rfl, _, rfl, strF (by decide +kernel) ⟨_, rfl, rfl, _, rfl, strF (by decide +kernel) ⟨_, rfl, rfl, _, rfl, strT (by decide +kernel) ⟨_, rfl, l, [x0, x1, x2], 0, x0, rfl, rfl, hs, rfl, _, rfl, l, [x0, x1, x2], 1, x1, rfl, rfl, hs, rfl, _, rfl, l, [x0, x1, x2], 2, x2, rfl, rfl, hs, rfl, make_read pc_Order hr0 hlen hz hd k⟩⟩⟩⟩⟩⟩
      rcases List.mem_cons.mp hm with rfl | hm
      · exact ⟨_, rfl, rfl, _, rfl, strF (by decide +kernel) ⟨_, rfl, rfl, _, rfl, strF (by decide +kernel) ⟨_, rfl, rfl, _, rfl, strF (by decide +kernel) ⟨_, rfl, rfl, _, rfl, strF (by decide +kernel) ⟨_, rfl, rfl, _, rfl, strF (by decide +kernel) ⟨_, rfl, rfl, _, rfl, strT (by decide +kernel) ⟨_, rfl, l, [x0, x1, x2], 0, x0, rfl, rfl, hs, rfl, _, rfl, l, [x0, x1, x2], 1, x1, rfl, rfl, hs, rfl, _, rfl, l, [x0, x1, x2], 2, x2, rfl, rfl, hs, rfl, make_read pc_Unordered hr0 hlen hz hd k⟩⟩⟩⟩⟩⟩⟩
      rcases List.mem_cons.mp hm with rfl | hm
      · exact ⟨_, rfl, rfl, _, rfl, strF (by decide +kernel) ⟨_, rfl, rfl, _, rfl, strF (by decide +kernel) ⟨_, rfl, rfl, _, rfl, strF (by decide +kernel) ⟨_, rfl, rfl, _, rfl, strF (by decide +kernel) ⟨_, rfl, rfl, _, rfl, strF (by decide +kernel) ⟨_, rfl, rfl, _, rfl, strF (by decide +kernel) ⟨_, rfl, rfl, _, rfl, strT (by decide +kernel) ⟨_, rfl, l, [x0, x1, x2], 0, x0, rfl, rfl, hs, rfl, _, rfl, l, [x0, x1, x2], 1, x1, rfl, rfl, hs, rfl, _, rfl, l, [x0, x1, x2], 2, x2, rfl, rfl, hs, rfl, make_read pc_Soonest hr0 hlen hz hd k⟩⟩⟩⟩⟩⟩⟩⟩
      rcases List.mem_cons.mp hm with rfl | hm
      · exact ⟨_, rfl, rfl, _, rfl, strF (by decide +kernel) ⟨_, rfl, rfl, _, rfl, strF (by decide +kernel) ⟨_, rfl, rfl, _, rfl, strF (by decide +kernel) ⟨_, rfl, rfl, _, rfl, strF (by decide +kernel) ⟨_, rfl, rfl, _, rfl, strF (by decide +kernel) ⟨_, rfl, rfl, _, rfl, strF (by decide +kernel) ⟨_, rfl, rfl, _, rfl, strF (by decide +kernel) ⟨_, rfl, rfl, _, rfl, strT (by decide +kernel) ⟨_, rfl, l, [x0, x1, x2], 0, x0, rfl, rfl, hs, rfl, _, rfl, l, [x0, x1, x2], 1, x1, rfl, rfl, hs, rfl, _, rfl, l, [x0, x1, x2], 2, x2, rfl, rfl, hs, rfl, make_read pc_Delay hr0 hlen hz hd k⟩⟩⟩⟩⟩⟩⟩⟩⟩
      exact absurd hm List.not_mem_nil
    · rw [hlen] at hc hlx
      have hm := cnt_words hc
      obtain ⟨x0, x1, x2, x3, rfl⟩ := len4 hlx
      rcases List.mem_cons.mp hm with rfl | hm
      · exact ⟨_, rfl, rfl, _, rfl, strF (by decide +kernel) ⟨_, rfl, rfl, _, rfl, strF (by decide +kernel) ⟨_, rfl, rfl, _, rfl, strF (by decide +kernel) ⟨_, rfl, rfl, _, rfl, strF (by decide +kernel) ⟨_, rfl, rfl, _, rfl, strF (by decide +kernel) ⟨_, rfl, rfl, _, rfl, strF (by decide +kernel) ⟨_, rfl, rfl, _, rfl, strF (by decide +kernel) ⟨_, rfl, rfl, _, rfl, strF (by decide +kernel) ⟨_, rfl, rfl, _, rfl, strF (by decide +kernel) ⟨_, rfl, l, [x0, x1, x2, x3], 0, x0, rfl, rfl, hs, rfl, _, rfl, l, [x0, x1, x2, x3], 1, x1, rfl, rfl, hs, rfl, _, rfl, l, [x0, x1, x2, x3], 2, x2, rfl, rfl, hs, rfl, _, rfl, l, [x0, x1, x2, x3], 3, x3, rfl, rfl, hs, rfl, make_read pc_Shorter hr0 hlen hz hd k⟩⟩⟩⟩⟩⟩⟩⟩⟩⟩
      rcases List.mem_cons.mp hm with rfl | hm
      · exact ⟨_, rfl, rfl, _, rfl, strF (by decide +kernel) ⟨_, rfl, rfl, _, rfl, strF (by decide +kernel) ⟨_, rfl, rfl, _, rfl, strF (by decide +kernel) ⟨_, rfl, rfl, _, rfl, strF (by decide +kernel) ⟨_, rfl, rfl, _, rfl, strF (by decide +kernel) ⟨_, rfl, rfl, _, rfl, strF (by decide +kernel) ⟨_, rfl, rfl, _, rfl, strF (by decide +kernel) ⟨_, rfl, rfl, _, rfl, strF (by decide +kernel) ⟨_, rfl, rfl, _, rfl, strT (by decide +kernel) ⟨_, rfl, l, [x0, x1, x2, x3], 0, x0, rfl, rfl, hs, rfl, _, rfl, l, [x0, x1, x2, x3], 1, x1, rfl, rfl, hs, rfl, _, rfl, l, [x0, x1, x2, x3], 2, x2, rfl, rfl, hs, rfl, _, rfl, l, [x0, x1, x2, x3], 3, x3, rfl, rfl, hs, rfl, make_read pc_Seemly hr0 hlen hz hd k⟩⟩⟩⟩⟩⟩⟩⟩⟩⟩
      exact absurd hm List.not_mem_nil
theorem ok_made_paper (T : Ctx K mg) (n : Nat) : FnOk PW w K mg base CX0 (n + 7) 946 (fdOf K 946) P_made_paper (spMade K (fun _ => True) n) := by
  have F := T.fun_ r_made_paper m_made_paper
  have F1 := T.fun_ r_made_one m_made_one
  have F2 := T.fun_ r_made_two m_made_two
  have F3 := T.fun_ r_made_three m_made_three
  have b1 : Binds K (fdOf K 925) P_made_one [] := F1.binds fun _ _ _ _ _ _ us hl => match us, hl with | [_, _], _ => rfl
  have b2 : Binds K (fdOf K 932) P_made_two [] := F2.binds fun _ _ _ _ _ _ us hl => match us, hl with | [_, _], _ => rfl
  have b3 : Binds K (fdOf K 939) P_made_three [] := F3.binds fun _ _ _ _ _ _ us hl => match us, hl with | [_, _], _ => rfl
  refine F.ok sc_made_paper (fun vs H Q E h => ?_) (fun cdv A outer s H vs Q E hr h => ⟨_, pss_cons (ps_if (pt_cmpR op_eq (pe_callB call_len rfl T.free (by decide +kernel) (pa_cons (pv 1) pa_nil)) pe_int (nomark _)) (pss_one (ps_ret (pe_call (ok_made_one T n) hr rfl T.glo F1.kp b1 .nil pass0 (pa_cons (pv 0) (pa_cons (pv 1) pa_nil))))) pss_nil)
    (pss_one (ps_ret (pe_ifExp (pt_cmpR op_eq (pe_callB call_len rfl T.free (by decide +kernel) (pa_cons (pv 1) pa_nil)) pe_int (nomark _)) (pe_call (ok_made_two T n) hr rfl T.glo F2.kp b2 .nil pass0 (pa_cons (pv 0) (pa_cons (pv 1) pa_nil))) (pe_call (ok_made_three T n) hr rfl T.glo F3.kp b3 .nil pass0 (pa_cons (pv 0) (pa_cons (pv 1) pa_nil)))))), ?_⟩)
  · obtain ⟨wd, ds, l, xs, rfl, _⟩ := h
    rfl
  · obtain ⟨wd, ds, l, xs, rfl, hs, hr0, hc, _, hz, hd, k⟩ := h
    have hlx := RepL.len hr0
    have h1 : 1 ≤ ds.length := by
      have z := cnt_mem hc
      have z2 : tbl.all (fun p => decide (1 ≤ p.2)) = true := by decide +kernel
      exact of_decide_eq_true (List.all_eq_true.mp z2 _ z)
    refine ⟨_, rfl, _, _, rfl, .inl ⟨xs, hs, rfl⟩, rfl, _, rfl, ?_⟩
    rw [dec_int]
    by_cases e1 : ds.length = 1
    · have e : (((xs.length : Nat) : Int) == 1) = true := by rw [hlx, e1]; rfl
      rw [e]
      exact iteT ⟨_, rfl, _, rfl, wd, ds, l, xs, rfl, hs, hr0, hc, e1, hz, hd, k⟩
    · have e : (((xs.length : Nat) : Int) == 1) = false := by rw [beq_eq_false_iff_ne]; omega
      rw [e]
      refine iteF ⟨_, rfl, _, _, rfl, .inl ⟨xs, hs, rfl⟩, rfl, _, rfl, ?_⟩
      rw [dec_int]
      by_cases e2 : ds.length = 2
      · have e : (((xs.length : Nat) : Int) == 2) = true := by rw [hlx, e2]; rfl
        rw [e]
        exact iteT ⟨_, rfl, _, rfl, wd, ds, l, xs, rfl, hs, hr0, hc, e2, hz, hd, k⟩
      · have e : (((xs.length : Nat) : Int) == 2) = false := by rw [beq_eq_false_iff_ne]; omega
        rw [e]
        exact iteF ⟨_, rfl, _, rfl, wd, ds, l, xs, rfl, hs, hr0, hc, (show 3 ≤ ds.length by omega), hz, hd, k⟩
end
end K91
set_option Elab.async false
set_option linter.all false
set_option maxRecDepth 100000
set_option maxHeartbeats 2000000
/-! K91, I: more rules: a list against [], t[::-1], [test for sign in text]. -/
namespace K91
open PySem PySem.Spec PyProof.Rows L2
/-! ### xs == [], xs != [] -/
def rEqE (K : PySem.W.Frag) : R2 := fun x y H Q => ∃ a b xs, x = .ref a ∧ y = .ref b ∧ SqL K H a xs ∧ SqL K H b [] ∧ Q (.bl xs.isEmpty) H
def rNeE (K : PySem.W.Frag) : R2 := fun x y H Q => ∃ a b xs, x = .ref a ∧ y = .ref b ∧ SqL K H a xs ∧ SqL K H b [] ∧ Q (.bl (!xs.isEmpty)) H
section
variable {X : Cx}
theorem op_neE (hu : X.A.units < cLine) : OpR X (compareOp .NotEq) (rNeE X.K) := by
  intro pins s σ H x y v u Q I rx ry h
  obtain ⟨a, b, xs, rfl, rfl, ha, hb, q⟩ := h
  cases rx
  cases ry
  obtain ⟨its, r, pl, hz⟩ := I.list ha
  obtain ⟨its2, r2, pl2, hz2⟩ := I.list hb
  cases r2
  cases xs with
  | nil =>
    cases r
    exact PySem.SeqAt.RcNeAt.lists (e := fun _ => true) pl.isList pl2.isList rfl hu (fun j h1 _ => absurd h1 (by simp)) X.prog X.w _ _ ⟨.bl false, H, I, rfl, q⟩
  | cons x xs =>
    cases r with
    | cons r1 r2 => exact PySem.SeqAt.RcNeAt.lists_lengths pl.isList pl2.isList (by simp) hu X.prog X.w _ _ ⟨.bl true, H, I, rfl, q⟩
theorem op_eqE (hu : X.A.units < cLine) : OpR X (compareOp .Eq) (rEqE X.K) := by
  intro pins s σ H x y v u Q I rx ry h
  obtain ⟨a, b, xs, rfl, rfl, ha, hb, q⟩ := h
  cases rx
  cases ry
  obtain ⟨its, r, pl, hz⟩ := I.list ha
  obtain ⟨its2, r2, pl2, hz2⟩ := I.list hb
  cases r2
  cases xs with
  | nil =>
    cases r
    exact PySem.SeqAt.RcAt.lists (e := fun _ => true) pl.isList pl2.isList rfl hu (fun j h1 _ => absurd h1 (by simp)) X.prog X.w _ _ ⟨.bl true, H, I, rfl, q⟩
  | cons x xs =>
    cases r with
    | cons r1 r2 => exact PySem.SeqAt.RcAt.lists_lengths pl.isList pl2.isList (by simp) hu X.prog X.w _ _ ⟨.bl false, H, I, rfl, q⟩
end
/-! ### t[::-1] -/
section
variable {prog : Program} {w : World} {A : Around} {E : Value → Shared → Prop} {s : Shared}
theorem fm_congr {α β : Type} {f g : α → Option β} : ∀ (l : List α), (∀ k ∈ l, f k = g k) → l.filterMap f = l.filterMap g
  | [], _ => rfl
  | a :: l, h => by
    rw [List.filterMap_cons, List.filterMap_cons, h a List.mem_cons_self, fm_congr l fun k hk => h k (List.mem_cons_of_mem _ hk)]
theorem adjust_rev (n : Nat) : Builtin.Slice.sliceAdjust none none (-1) (n : Int) = ((n : Int) - 1, -1) := by
  unfold Builtin.Slice.sliceAdjust
  simp
theorem places_rev (n : Nat) : Builtin.Slice.slicePlaces ((n : Int) - 1) (-1) (-1) = n := by
  unfold Builtin.Slice.slicePlaces
  have h1 : ¬ ((-1 : Int) > 0) := by omega
  simp only [h1, if_false]
  by_cases h : (n : Int) - 1 > -1
  · rw [if_pos h]
    have e : ((n : Int) - 1 - -1 - 1) / (- -1) = (n : Int) - 1 := by
      have e1 : ((n : Int) - 1 - -1 - 1) = (n : Int) - 1 := by omega
      have e2 : (- -1 : Int) = 1 := by omega
      rw [e1, e2, Int.ediv_one]
    rw [e]
    omega
  · rw [if_neg h]
    omega
theorem pick_rev (xs : Array Value) : ((List.range xs.size).filterMap fun (k : Nat) => xs[(((xs.size : Int) - 1) + (k : Int) * (-1)).toNat]?).toArray = xs.toList.reverse.toArray := by
  have e : (fun (k : Nat) => xs[(((xs.size : Int) - 1) + (k : Int) * (-1)).toNat]?) = fun k => if k < xs.size then xs[xs.size - 1 - k]? else xs[0]? := by
    funext k
    by_cases h : k < xs.size
    · rw [if_pos h]
      congr 1
      omega
    · rw [if_neg h]
      congr 1
      omega
  rw [e]
  congr 1
  have e2 : (List.range xs.size).filterMap (fun k => if k < xs.size then xs[xs.size - 1 - k]? else xs[0]?) = ((List.range xs.size).map fun k => xs.size - 1 - k).filterMap (xs[·]?) := by
    rw [List.filterMap_map]
    exact fm_congr _ fun k hk => if_pos (List.mem_range.mp hk)
  rw [e2, PySem.W.krv_range, List.filterMap_reverse, PySem.W.krv_all]
theorem getItem_tuple_rev {t sl : Addr} {items : Array Value} {u : Tok} {Q : Value → Shared → Prop} (ht : IsTup s.heap t items) (hs : s.heap.IsSliceOf sl .none .none (.int (-1) u))
    (h : Q (.ref s.heap.objs.size) { s with heap := s.heap.push { cls := .type "tuple", data := .seq items.toList.reverse.toArray } }) (hsz : items.size ≤ sizeLine) : wpAny (model prog w) A (getItem (.ref t) (.ref sl)) Q E s := by
  have htake : sizeOk (.seq items.toList.reverse.toArray) := by
    show items.toList.reverse.toArray.size ≤ sizeLine
    rw [List.size_toArray, List.length_reverse, Array.length_toList]
    exact hsz
  obtain ⟨os, hos, hcs, hds⟩ := id hs
  have hTs : s.TypeIs (.ref sl) "slice" := ⟨os, hos, hcs⟩
  unfold getItem
  try with_reducible refine wpAny_holding ?_
  first | refine wpAny_bind (wpAny_pure ?_) | skip
  refine wpAny_bind (wpAny_sequenceKey ht.typeIs (by decide) ?_)
  refine wpAny_bind (wpAny_callSpecial?_slot (name := Str.ofString "__getitem__") ht.typeIs PyProof.Rows.slot_tuple_getitem
    (wpAny_call_entry PyProof.Rows.slot_tuple_getitem ht.typeIs entry_tuple_getitem ?_ (args_tuple_getitem _ _)))
  show wpAny _ _ (Builtin.Tuple.tupleItemsOf (.ref t) >>= _) _ _ s
  refine wpAny_bind (tupleItemsOf_ ht ?_)
  refine wpAny_bind (wpAny_typeOf hTs ?_)
  rw [if_pos (by decide)]
  refine wpAny_bind ?_
  unfold Builtin.Slice.sliceApplied Builtin.Slice.sliceFields
  refine wpAny_bind (wpAny_bind (wpAny_field hos hds (x := .none) rfl (wpAny_bind (wpAny_field hos hds (x := .none) rfl (wpAny_bind (wpAny_field hos hds (x := .int (-1) u) rfl (wpAny_pure ?_)))))))
  refine wpAny_bind (slicePart_int ?_)
  show wpAny _ _ (if (((-1 : Int)) == 0) = true then _ else _) _ _ s
  rw [if_neg (by decide)]
  refine wpAny_bind (slicePart_none (wpAny_bind (slicePart_none (wpAny_bind (wpAny_pure ?_)))))
  show wpAny _ _ (match Builtin.Slice.sliceAdjust none none (-1) (items.size : Int) with | (lo, hi) => pure (lo, (-1 : Int), Builtin.Slice.slicePlaces lo hi (-1))) _ _ s
  rw [adjust_rev]
  show wpAny _ _ (pure ((items.size : Int) - 1, (-1 : Int), Builtin.Slice.slicePlaces ((items.size : Int) - 1) (-1) (-1))) _ _ s
  rw [places_rev]
  refine wpAny_pure ?_
  have hno : ¬ ((((items.size : Int) - 1) == 0 && (-1 : Int) == 1 && items.size == items.size) = true) := by
    intro q
    rw [Bool.and_eq_true, Bool.and_eq_true] at q
    have q1 : (-1 : Int) = 1 := eq_of_beq q.1.2
    omega
  show wpAny _ _ (if (((items.size : Int) - 1) == 0 && (-1 : Int) == 1 && items.size == items.size) = true then _ else _) _ _ s
  rw [if_neg hno, pick_rev]
  first
    | exact wpAny_bind (m := Builtin.Tuple.tupleExact _) (wpAny_newObj_type (wpAny_pure ⟨_, rfl, wpAny_pure h⟩) htake)
    | exact wpAny_bind (m := Builtin.Tuple.tupleExact _) (wpAny_newObj_type (wpAny_bind (wpAny_pure (wpAny_pure ⟨_, rfl, wpAny_pure h⟩))) htake)
    | exact wpAny_bind (wpAny_bind (m := Builtin.Tuple.tupleExact _) (wpAny_newObj_type (wpAny_pure (wpAny_pure ⟨_, rfl, wpAny_pure h⟩)) htake))
    | exact wpAny_bind (wpAny_bind (m := Builtin.Tuple.tupleExact _) (wpAny_newObj_type (wpAny_pure ⟨_, rfl, wpAny_pure h⟩) htake))
end
def tRevT (K : PySem.W.Frag) (te : TE) : TE := fun σ H Q => te σ H fun x H1 => ∃ a xs, x = .ref a ∧ SqT K H1 a xs ∧ ∀ p, H1 p = none → Q (.ref p) (upd H1 p (.tup xs.reverse))
theorem pe_revT {X : Cx} {e : Expr} {te : TE} {k : Nat} {p1 p2 p3 pos : Pos} (he : PE X e te) : PE X (.Subscript e (.Slice none none (some (.UnaryOp .USub (.Constant (.int 1) k p1) p2)) p3) pos) (tRevT X.K te) := by
  refine ⟨fun pins s σ H Q I h => ?_⟩
  refine Subscript_ (thn (he.run pins s σ H _ I h) fun v s1 ⟨x, H1, I1, r1, q1⟩ => ?_)
  obtain ⟨a, xs, ex, hx, q⟩ := q1
  subst ex
  cases r1
  have hst : PO X (some (.UnaryOp .USub (.Constant (.int 1) k p1) p2)) (tPart (tUn (rU fun i => .int (-i)) (tC (.int 1)))) := po_some (pe_un un_neg pe_int)
  refine wpAny_Slice (thn (po_none.run pins s1 σ H1 (fun o H2 => o = none ∧ H2 = H1) I1 ⟨rfl, rfl⟩) fun vl s2 ⟨l, H2, I2, pl, el, e2⟩ => ?_)
  subst el e2
  refine thn (po_none.run pins s2 σ H2 (fun o H3 => o = none ∧ H3 = H2) I2 ⟨rfl, rfl⟩) fun vu s3 ⟨u, H3, I3, pu, eu, e3⟩ => ?_
  subst eu e3
  refine thn (hst.run pins s3 σ H3 (fun o H4 => o = some (-1) ∧ H4 = H3) I3 ⟨1, rfl, -1, rfl, rfl, rfl⟩) fun vs s4 ⟨o, H4, I4, ps, eo, e4⟩ => ?_
  subst eo e4
  obtain rfl : vl = Value.none := by cases pl; rfl
  obtain rfl : vu = Value.none := by cases pu; rfl
  obtain ⟨tk, rfl⟩ : ∃ tk, vs = Value.int (-1) tk := by cases ps; exact ⟨_, rfl⟩
  have I5 : Inv X pins σ H4 { s4 with heap := s4.heap.push { cls := .type "slice", data := .fields #[.none, .none, .int (-1) tk] } } := I4.kept (t' := s4.toks) fun b ob q => Heap.get?_push_of_some _ q
  obtain ⟨its, r, ht, hz⟩ := I5.tuple hx
  have hlen := r.length
  show wpAny (model X.prog X.w) X.A (subscriptTail e (.Slice none none (some (.UnaryOp .USub (.Constant (.int 1) k p1) p2)) p3) (.ref a) (.ref s4.heap.objs.size)) (EP X pins σ Q) X.xe { s4 with heap := s4.heap.push { cls := .type "slice", data := .fields #[.none, .none, .int (-1) tk] } }
  refine tail_any (ops := [.ref a, .ref s4.heap.objs.size]) ht.typeIs (PyProof.Rows.slot_tuple_getitem.lookup) ?_ (by with_unfolding_all rfl)
  refine getItem_tuple_rev ht (Heap.IsSliceOf.new _ .none .none (.int (-1) tk)) ?_ (by rw [List.size_toArray]; omega)
  refine ⟨.ref _, _, I5.laid (t' := s4.toks) (o := .tup xs.reverse) (fun b ob q => Heap.get?_push_of_some _ q) (Nat.le_refl _) ?_, rfl, q _ (I5.hok.fresh (Nat.le_refl _))⟩
  exact ⟨by rw [List.length_reverse]; exact hz, _, r.reverse, ⟨_, Heap.get?_push_size _ rfl, rfl, _, rfl⟩⟩
/-! ### [test for sign in text] -/
theorem lc_str {x : Str} {g : TG} {tt : TT} {te : TE} {vs : List Nat} {σ : L2.St} {H1 : Hp} {D : Addr} {Qd : Hp → Prop} (Pv : Nat → Hp → Prop) (h0 : Pv 0 (upd H1 D (.lst [])))
    (hs : ∀ i c H, x.cps[i]? = some c → Pv i H → g (.str ⟨#[c]⟩) (wipe σ vs) H fun σ2 H2 => wipe σ2 vs = wipe σ vs ∧ tt σ2 H2 fun b H3 =>
      if b = true then te σ2 H3 fun y H4 => ∃ acc, H4 D = some (.lst acc) ∧ acc.length < sizeLine ∧ Pv (i + 1) (upd H4 D (.lst (acc ++ [y]))) else Pv (i + 1) H3) (hd : ∀ H, Pv x.cps.size H → Qd H) :
    ∃ W : Nat → Nat → Hp → Prop, (∃ m, W 0 m (upd H1 D (.lst []))) ∧ ∀ i m H, W i m H →
      ((Its x).stop i H ∧ Qd H) ∨ ((Its x).go i H ∧ ∃ Nx : Hp → Prop, (∀ H', Nx H' → ∃ m', m' < m ∧ W (i + 1) m' H') ∧ ∀ y H', (Its x).yld i H y H' → g y (wipe σ vs) H' fun σ2 H2 => wipe σ2 vs = wipe σ vs ∧ tt σ2 H2 fun b H3 =>
        if b = true then te σ2 H3 fun y H4 => ∃ acc, H4 D = some (.lst acc) ∧ acc.length < sizeLine ∧ Nx (upd H4 D (.lst (acc ++ [y]))) else Nx H3) := by
  refine ⟨fun i m H => m = x.cps.size - i ∧ i ≤ x.cps.size ∧ Pv i H, ⟨x.cps.size, by simp, Nat.zero_le _, h0⟩, ?_⟩
  rintro i m H ⟨rfl, hi, p⟩
  by_cases hlt : i < x.cps.size
  · refine .inr ⟨hlt, Pv (i + 1), fun H' p' => ⟨x.cps.size - (i + 1), by omega, rfl, hlt, p'⟩, fun y H' z => ?_⟩
    obtain ⟨e, c, hc, ey⟩ := z
    subst e
    subst ey
    exact hs i c _ hc p
  · have e : i = x.cps.size := by omega
    subst e
    exact .inl ⟨Nat.le_refl _, hd H p⟩
theorem lcTurnS {σ2 : L2.St} {H2 : Hp} {te : TE} {F : V → Hp → Prop} {B : Hp → Prop} (h : te σ2 H2 F) : tYes σ2 H2 (fun b H3 => if b = true then te σ2 H3 F else B H3) := by
  show (if true = true then te σ2 H2 F else B H2)
  rw [if_pos rfl]
  exact h
/-- the list of the tests -/
theorem read_signs {K : PySem.W.Frag} {j : Nat} {p : Nat → Bool} {te tw : TE} {x : Str} {σ : L2.St} {H : Hp} {Q : VK} (hw : ∀ R : V → Hp → Prop, R (.str x) H → tw σ H R) (hwp : ∀ v, wipe ((wipe σ [j]).set j (some v)) [j] = wipe σ [j])
    (hte : ∀ c H' Q', Q' (.bl (p c)) H' → te ((wipe σ [j]).set j (some (.str ⟨#[c]⟩))) H' Q') (hz : x.length ≤ 100000) (k : ∀ D H', H D = none → Same H H' → H' D = some (.lst ((x.cps.toList.map p).map V.bl)) → Q (.ref D) H') :
    tLc (iStr tw) (gName j) tYes te [j] σ H Q := by
  have hx : x.cps.size ≤ 100000 := hz
  refine hw _ ⟨x, rfl, fun D hD => ?_⟩
  refine lc_str (fun i H' => H' D = some (.lst (((x.cps.toList.take i).map p).map V.bl)) ∧ Same H H') ⟨upd_same, fun b o e => by rw [upd_ne (ne_of_none e hD)]; exact e⟩ (fun i c H' hc ⟨hDb, sm⟩ => ?_) (fun H' ⟨hDb, sm⟩ => ?_)
  · have hc2 : x.cps.toList[i]? = some c := by rw [← hc, Array.getElem?_toList]
    refine ⟨hwp _, lcTurnS (hte c H' _ ⟨_, hDb, ?_, ?_, ?_⟩)⟩
    · rw [List.length_map, List.length_map, List.length_take, Array.length_toList]
      have z : min i x.cps.size ≤ 100000 := Nat.le_trans (Nat.min_le_right _ _) hx
      exact Nat.lt_of_le_of_lt z (by decide)
    · rw [upd_same, List.take_succ, hc2]
      simp
    · intro b o e
      rw [upd_ne (ne_of_none e hD)]
      exact sm _ _ e
  · refine k D H' hD sm ?_
    rw [hDb, List.take_of_length_le (by rw [Array.length_toList]; exact Nat.le_refl _)]
theorem all_map {α : Type} (p : α → Bool) (l : List α) : (l.map p).all id = l.all p := by
  rw [List.all_map]
  rfl
/-- all([test for sign in text]) -/
theorem read_all {K : PySem.W.Frag} {j : Nat} {p : Nat → Bool} {te tw : TE} {x : Str} {σ : L2.St} {H : Hp} {Q : VK} (hw : ∀ R : V → Hp → Prop, R (.str x) H → tw σ H R) (hwp : ∀ v, wipe ((wipe σ [j]).set j (some v)) [j] = wipe σ [j])
    (hte : ∀ c H' Q', Q' (.bl (p c)) H' → te ((wipe σ [j]).set j (some (.str ⟨#[c]⟩))) H' Q') (hz : x.length ≤ 100000) (k : ∀ H', Same H H' → Q (.bl (x.cps.toList.all p)) H') :
    tCB (rAll K) (tCons (tLc (iStr tw) (gName j) tYes te [j]) tNil) σ H Q :=
  show tLc (iStr tw) (gName j) tYes te [j] σ H (fun v H1 => rAll K [v] H1 Q) from read_signs (K := K) hw hwp hte hz fun D H' hD sm hDl => ⟨D, x.cps.toList.map p, rfl, SqL.of hDl, by rw [all_map]; exact k _ sm⟩
/-! ### the letters, the figures -/
theorem range_mem {lo n c : Nat} : c ∈ (List.range n).map (lo + ·) ↔ lo ≤ c ∧ c < lo + n := by
  rw [List.mem_map]
  refine ⟨fun ⟨k, hk, e⟩ => ?_, fun ⟨h1, h2⟩ => ⟨c - lo, List.mem_range.mpr (by omega), by omega⟩⟩
  have hk := List.mem_range.mp hk
  have e : lo + k = c := e
  omega
theorem letters_are : (("abcdefghijklmnopqrstuvwxyz" : Str)).cps.toList = (List.range 26).map (97 + ·) := by decide +kernel
theorem figures_are : (("0123456789" : Str)).cps.toList = (List.range 10).map (48 + ·) := by decide +kernel
theorem letter_in (c : Nat) : decide (c ∈ (("abcdefghijklmnopqrstuvwxyz" : Str)).cps.toList) = isL c := by
  rw [letters_are, Bool.eq_iff_iff]
  unfold isL
  simp only [decide_eq_true_eq, Bool.and_eq_true]
  rw [range_mem]
  omega
theorem figure_in (c : Nat) : decide (c ∈ (("0123456789" : Str)).cps.toList) = isF c := by
  rw [figures_are, Bool.eq_iff_iff]
  unfold isF
  simp only [decide_eq_true_eq, Bool.and_eq_true]
  rw [range_mem]
  omega
end K91
set_option Elab.async false
set_option linter.all false
set_option maxRecDepth 100000
set_option maxHeartbeats 2000000
/-! K91, J: word_of. -/
namespace K91
open PySem PySem.Spec PyProof.Rows L2 TL
mutual
/-- sizes that the interpreter bears -/
def D.Fine : D → Prop
  | .int i => i.natAbs < 10 ^ 100
  | .str s => s.length ≤ 1000
  | .tup ds => FineL ds
  | .pap _ ds => FineL ds
  | .non => True
  | .bl _ => True
  | .dct => True
def FineL : List D → Prop
  | [] => True
  | d :: ds => d.Fine ∧ FineL ds
end
theorem FineL.get : ∀ {ds : List D}, FineL ds → ∀ d ∈ ds, d.Fine
  | [], _, d, h => absurd h List.not_mem_nil
  | x :: ds, ⟨h1, h2⟩, d, h => by
    rcases List.mem_cons.mp h with e | h
    · rw [e]; exact h1
    · exact FineL.get h2 d h
theorem FineL.of : ∀ {ds : List D}, (∀ d ∈ ds, d.Fine) → FineL ds
  | [], _ => True.intro
  | x :: ds, h => ⟨h x List.mem_cons_self, FineL.of fun d hd => h d (List.mem_cons_of_mem _ hd)⟩
def D.flat : D → Bool
  | .tup _ => false
  | .pap _ _ => false
  | _ => true
/-- the word of a datum that holds no other -/
def D.leaf : D → Option Str
  | .non => some wN
  | .int i => if okI i = true then some (Str.ofString (toString i)) else none
  | .str s => if okS s = true then some (wE ++ s) else none
  | _ => none
theorem leaf_ok {d : D} (h : d.flat = true) : d.ok = d.leaf.isSome ∧ ∀ x, d.leaf = some x → d.words = [x] := by
  cases d with
  | non => exact ⟨rfl, fun x e => by cases e; rfl⟩
  | int i =>
    show okI i = (if okI i = true then some (Str.ofString (toString i)) else none).isSome ∧ ∀ x, (if okI i = true then some (Str.ofString (toString i)) else none) = some x → _
    by_cases q : okI i = true
    · rw [if_pos q, q]
      exact ⟨rfl, fun x e => by cases e; rfl⟩
    · rw [if_neg q]
      have q2 : okI i = false := by simpa using q
      exact ⟨q2, fun x e => by cases e⟩
  | str s =>
    show okS s = (if okS s = true then some (wE ++ s) else none).isSome ∧ ∀ x, (if okS s = true then some (wE ++ s) else none) = some x → _
    by_cases q : okS s = true
    · rw [if_pos q, q]
      exact ⟨rfl, fun x e => by cases e; rfl⟩
    · rw [if_neg q]
      have q2 : okS s = false := by simpa using q
      exact ⟨q2, fun x e => by cases e⟩
  | bl b => exact ⟨rfl, fun x e => by cases e⟩
  | dct => exact ⟨rfl, fun x e => by cases e⟩
  | tup ds => cases h
  | pap w ds => cases h
theorem pow_small {n : Nat} (h : n < 10 ^ 100) : n.log2 < 1920 := by
  by_cases z : n = 0
  · rw [z]; decide
  · exact (Nat.log2_lt z).mpr (Nat.lt_trans h (by decide +kernel))
theorem decF {x y : V} (h : ¬ x = y) {A B : Prop} (b : B) : if decide (x = y) = true then A else B := by
  rw [decide_eq_false h]
  exact iteF b
theorem decT {x y : V} (h : x = y) {A B : Prop} (a : A) : if decide (x = y) = true then A else B := by
  rw [decide_eq_true h]
  exact iteT a
theorem abs_eq (i : Int) : (if i < 0 then -i else i) = ((i.natAbs : Nat) : Int) := by
  by_cases h : i < 0
  · rw [if_pos h]; omega
  · rw [if_neg h]; omega
def spWord : Sp := fun vs H Q E => ∃ (d : D) (v : V), vs = [v] ∧ Rep H d v ∧ d.Fine ∧ d.flat = true ∧ (∀ x, d.leaf = some x → ∀ H', Same H H' → Q (.str x) H') ∧
  (d.leaf = none → ∀ dd H', Same H H' → H' dd = some (.xd [(("part" : Str), .str ("paper" : Str))]) → E (.ref 161) (some dd) H')
section
variable {w : World} {K : PySem.W.Frag} {mg : Str → Option Value} {base : Heap}
theorem same_but {H H' : Hp} {d : Addr} (h : H d = none) (k : ∀ b, b ≠ d → H' b = H b) : Same H H' := fun b o e => by
  rw [k b (ne_of_none e h)]
  exact e
theorem takesD {P : Program} {N : List Str} {qual : Str} {scope : Scope} {f : Addr} {cd : Value} {A : Around} {outer : List Env} {s : Shared} {H : Hp} {E : XK} :
    Takes (cxOf (L2.CX P w) P w K mg base N qual scope f cd A outer s H E) (fun cls d _ H' => E cls d H') := takes_of rfl rfl rfl rfl
theorem ok_word_of (T : Ctx K mg) : FnOk PW w K mg base (L2.CX PW w) 3 316 (fdOf K 316) P_word_of spWord := by
  have F := T.fun_ r_word_of m_word_of
  have Fi := T.fun_ r_is_integer m_is_integer
  have bi : Binds K (fdOf K 21) P_is_integer [] := Fi.binds fun _ _ _ _ _ _ us hl => match us, hl with | [_], _ => rfl
  obtain ⟨tN, hN⟩ := T.str (x := "NOTHING") (z := "none")
  obtain ⟨tM, hM⟩ := T.str (x := "MARK") (z := "=")
  obtain ⟨tL, hL⟩ := T.str (x := "LETTERS") (z := "abcdefghijklmnopqrstuvwxyz")
  obtain ⟨tF, hF⟩ := T.figs40
  refine F.okX sc_word_of (fun vs H Q E h => ?_) (fun cdv A outer s H vs Q E hr h => ⟨_, pss_cons (ps_if (pt_cmpR op_isN (pv 0) pe_non (nomark _)) (pss_one (ps_ret (pe_glob (v := .str wN) rfl hN ⟨_, rfl⟩))) pss_nil)
    (pss_cons (ps_if (PW.pt (pw_and (pt_val (pe_call (ok_int T) (hr.mono (by decide)) rfl T.glo Fi.kp bi .nil pass0 (pa_cons (pv 0) pa_nil)))
        (pw_and1 (pt_cmpR op_le (pe_callB call_len rfl T.free (by decide +kernel) (pa_cons (pe_callTy call_str_int rfl T.free (by decide +kernel) (pa_cons (pe_callB call_abs rfl T.free (by decide +kernel) (pa_cons (pv 0) pa_nil)) pa_nil)) pa_nil)) (pe_glob (v := .int 40) rfl hF ⟨_, rfl⟩) (nomark _)))))
      (pss_one (ps_ret (pe_callTy call_str_int rfl T.free (by decide +kernel) (pa_cons (pv 0) pa_nil)))) pss_nil)
    (pss_cons (ps_if (PW.pt (pw_and (pt_val (pe_callB call_isi rfl T.free (by decide +kernel) (pa_cons (pv 0) (pa_cons (pe_bltn (v := .ty "str") rfl T.free (by decide +kernel) rfl) pa_nil))))
        (pw_and1 (pt_val (pe_callB (cr_all rfl) rfl T.free (by decide +kernel) (pa_cons
          (pe_lc (own := [("sign", 1)]) (g := gName 1) (tt := tYes) rfl sc_word_of.nd (pi_str (pv 0)) (blkOk_by (N := N_word_of) (sc := defScope s_word_of) (by decide +kernel)) (fun _ _ _ _ _ => pg_name (i := 1) sc_word_of.nd rfl (Or.inl rfl)) (fun _ _ _ _ _ => pts_nil)
            (fun _ _ _ _ _ => pe_cmpR op_in_sign (pv 1) (pe_glob (v := .str "abcdefghijklmnopqrstuvwxyz") rfl hL ⟨_, rfl⟩) rfl)) pa_nil))))))
      (pss_one (ps_ret (pe_op op_add_str (pe_glob (v := .str wE) rfl hM ⟨_, rfl⟩) (pv 0)))) pss_nil)
    (pss_one (ps_raise rfl takesD (pmk_value rfl T mono_c hr rfl (pa_cons pe_str pa_nil)))))), ?_⟩)
  · obtain ⟨d, v, rfl, _⟩ := h
    rfl
  · obtain ⟨d, v, rfl, hv, hf, hfl, kq, ke⟩ := h
    have fin : ∀ H', Same H H' → d.leaf = none → ∀ dd H2, H' dd = none → H2 dd = some (.xd [(("part" : Str), .str ("paper" : Str))]) → (∀ b, b ≠ dd → H2 b = H' b) → E (.ref 161) (some dd) H2 := fun H' sm hl dd H2 hd h2 h3 => ke hl dd H2 (sm.trans (same_but hd h3)) h2
    refine ⟨_, rfl, rfl, _, rfl, ?_⟩
    cases d with
    | tup ds => cases hfl
    | pap w ds => cases hfl
    | non =>
      obtain rfl : v = .non := hv
      exact decT rfl (kq wN rfl _ (Same.refl _))
    | int i =>
      obtain rfl : v = .int i := hv
      have hf : i.natAbs < 10 ^ 100 := hf
      refine decF (fun z => by cases z) ?_
      refine ⟨_, rfl, .int i, _, rfl, (rfl : V.int i = V.int i), _, rfl, iteT ?_⟩
      refine ⟨_, rfl, i, rfl, _, rfl, ?_, _, _, rfl, ⟨?_, rfl⟩, _, 40, rfl, rfl, _, rfl, ?_⟩
      · rw [abs_eq]
        exact pow_small hf
      · rw [abs_eq, len_tl, tl_num]
        exact Nat.le_trans (numL_len (by decide) hf) (by decide)
      · rw [abs_eq]
        have e : decide (((Str.ofString (toString ((i.natAbs : Nat) : Int))).length : Int) ≤ 40) = okI i := by
          unfold okI
          rw [len_tl, tl_num, Bool.eq_iff_iff]
          simp only [decide_eq_true_eq]
          omega
        rw [e]
        by_cases q : okI i = true
        · rw [q]
          exact iteT ⟨_, rfl, i, rfl, pow_small hf, kq _ (show (if okI i = true then some (Str.ofString (toString i)) else none) = _ from if_pos q) _ (Same.refl _)⟩
        · have q2 : okI i = false := by simpa using q
          rw [q2]
          refine iteF ?_
          refine ⟨_, rfl, .int i, .ty "str", .type "int", _, false, rfl, .ty _, .base (.int i), kit_ty (by decide +kernel), _, rfl, iteF ?_⟩
          exact fin H (Same.refl _) (if_neg q)
    | str z =>
      obtain rfl : v = .str z := hv
      have hf : z.length ≤ 1000 := hf
      refine decF (fun z => by cases z) ?_
      refine ⟨_, rfl, .str z, _, rfl, (rfl : V.str z = V.str z), _, rfl, iteF ?_⟩
      refine ⟨_, rfl, .str z, .ty "str", .type "str", _, true, rfl, .ty _, .base (.str z), kit_ty (by decide +kernel), _, rfl, iteT ?_⟩
      refine read_all (p := isL) (x := z) (fun R hR => ⟨_, rfl, hR⟩) (fun _ => rfl) (fun c H' Q' hq => ⟨_, rfl, c, _, rfl, rfl, by rw [letter_in]; exact hq⟩) (Nat.le_trans hf (by decide)) fun H' sm => ⟨_, rfl, ?_⟩
      by_cases q : okS z = true
      · have q' : z.cps.toList.all isL = true := q
        rw [q']
        exact iteT ⟨_, rfl, wE, z, rfl, rfl, Nat.le_trans (Nat.add_le_add_left hf _) (by decide +kernel), kq _ (show (if okS z = true then some (wE ++ z) else none) = _ from if_pos q) _ sm⟩
      · have q' : z.cps.toList.all isL = false := by
          cases q1 : z.cps.toList.all isL with
          | true => exact absurd q1 q
          | false => rfl
        rw [q']
        exact iteF (fin H' sm (if_neg q))
    | bl b =>
      obtain rfl : v = .bl b := hv
      refine decF (fun z => by cases z) ?_
      refine ⟨_, rfl, .bl b, _, rfl, (rfl : V.bl b = V.bl b), _, rfl, iteF ?_⟩
      refine ⟨_, rfl, .bl b, .ty "str", .type "bool", _, false, rfl, .ty _, .base (.bl b), kit_ty (by decide +kernel), _, rfl, iteF ?_⟩
      exact fin H (Same.refl _) rfl
    | dct =>
      obtain ⟨a, rfl, ea⟩ := id hv
      refine decF (fun z => by cases z) ?_
      refine ⟨_, rfl, .dct, _, rfl, hv, _, rfl, iteF ?_⟩
      refine ⟨_, rfl, .ref a, .ty "str", .type "dict", _, false, rfl, .ty _, .base (.dK ea), kit_ty (by decide +kernel), _, rfl, iteF ?_⟩
      exact fin H (Same.refl _) rfl
end
end K91
set_option Elab.async false
set_option linter.all false
set_option maxRecDepth 100000
set_option maxHeartbeats 4000000
/-! K91, L: words_of, paper_text. -/
namespace K91
open PySem PySem.Spec PyProof.Rows L2 TL
/-! ### list methods -/
section
variable {X : Cx} {o e : Expr} {to te : TE} {apos cpos : Pos}
theorem pe_lapp (ho : PE X o to) (he : PE X e te) (hbase : attributeBase o "append" X.env (eval o X.env) = eval o X.env := by rfl)
    (hfew : ((backTo cpos (starEach [e] X.env)).all (fun x => !x.1) && (backToKw cpos (keywordEach [] X.env)).all (fun x => x.1.isSome)
      && decide (([e] : List Expr).length + ([] : List Keyword).length + (if ([] : List Keyword).isEmpty then 0 else 1) < 30)) = true := by rfl)
    (hline : (apos.endLine == cpos.line) = true := by rfl) (hs : starEach [e] X.env = (false, eval e X.env) :: starEach [] X.env := by rfl) (hplain : (backTo cpos (starEach [] X.env)).any (·.1) = false := by rfl) :
    PE X (.Call (.Attribute o "append" apos) [e] [] cpos) (tBM X.K "list" rAppend to (tCons te tNil)) :=
  pe_bm PySem.F.plainAttrs_list PySem.F.slot_list_append PySem.F.type_list_append mt_append ho (pa_cons he pa_nil hs) hbase hfew hline hs hplain
theorem pe_lext (ho : PE X o to) (he : PE X e te) (hbase : attributeBase o "extend" X.env (eval o X.env) = eval o X.env := by rfl)
    (hfew : ((backTo cpos (starEach [e] X.env)).all (fun x => !x.1) && (backToKw cpos (keywordEach [] X.env)).all (fun x => x.1.isSome)
      && decide (([e] : List Expr).length + ([] : List Keyword).length + (if ([] : List Keyword).isEmpty then 0 else 1) < 30)) = true := by rfl)
    (hline : (apos.endLine == cpos.line) = true := by rfl) (hs : starEach [e] X.env = (false, eval e X.env) :: starEach [] X.env := by rfl) (hplain : (backTo cpos (starEach [] X.env)).any (·.1) = false := by rfl) :
    PE X (.Call (.Attribute o "extend" apos) [e] [] cpos) (tBM X.K "list" rExtend to (tCons te tNil)) :=
  pe_bm PySem.F.plainAttrs_list PySem.F.slot_list_extend PySem.F.type_list_extend mt_extend ho (pa_cons he pa_nil hs) hbase hfew hline hs hplain
theorem pe_lpop (ho : PE X o to) (hbase : attributeBase o "pop" X.env (eval o X.env) = eval o X.env := by rfl) (hline : (apos.endLine == cpos.line) = true := by rfl) :
    PE X (.Call (.Attribute o "pop" apos) [] [] cpos) (tBM0 X.K "list" rPop to) :=
  pe_bm0 PySem.F.plainAttrs_list PySem.F.slot_list_pop PySem.F.type_list_pop mt_pop ho hbase hline
end
/-! ### the stack of words_of, the top first: a datum, or the mark that shuts -/
abbrev Stk := List (Option D)
def mu : Stk → Nat
  | [] => 0
  | none :: L => 1 + mu L
  | some d :: L => 4 * d.sz + mu L
def okS' : Stk → Bool
  | [] => true
  | none :: L => okS' L
  | some d :: L => d.ok && okS' L
def wordsS : Stk → List Str
  | [] => []
  | none :: L => wC :: wordsS L
  | some d :: L => d.words ++ wordsS L
def FineS : Stk → Prop
  | [] => True
  | none :: L => FineS L
  | some d :: L => d.Fine ∧ FineS L
theorem mu_app (ds : List D) (L : Stk) : mu (ds.map some ++ none :: L) = 4 * szL ds + 1 + mu L := by
  induction ds with
  | nil => simp [mu, szL]
  | cons d ds ih =>
    show 4 * d.sz + mu (ds.map some ++ none :: L) = 4 * (d.sz + szL ds) + 1 + mu L
    rw [ih]
    omega
theorem okS_app (ds : List D) (L : Stk) : okS' (ds.map some ++ none :: L) = (okD ds && okS' L) := by
  induction ds with
  | nil => simp [okS', okD]
  | cons d ds ih =>
    show (d.ok && okS' (ds.map some ++ none :: L)) = (d.ok && okD ds && okS' L)
    rw [ih, Bool.and_assoc]
theorem wordsS_app (ds : List D) (L : Stk) : wordsS (ds.map some ++ none :: L) = wordsL ds ++ wC :: wordsS L := by
  induction ds with
  | nil => rfl
  | cons d ds ih =>
    show d.words ++ wordsS (ds.map some ++ none :: L) = d.words ++ wordsL ds ++ wC :: wordsS L
    rw [ih, List.append_assoc]
theorem FineS_app {ds : List D} {L : Stk} (h : FineL ds) (g : FineS L) : FineS (ds.map some ++ none :: L) := by
  induction ds with
  | nil => exact g
  | cons d ds ih => exact ⟨h.1, ih h.2⟩
def RepS (fo ln : Addr) (H : Hp) : Stk → List V → Prop
  | [], vs => vs = []
  | none :: L, vs => ∃ p r, vs = .ref p :: r ∧ H p = some (.lst []) ∧ p ≠ fo ∧ p ≠ ln ∧ RepS fo ln H L r
  | some d :: L, vs => ∃ v r, vs = v :: r ∧ Rep H d v ∧ RepS fo ln H L r
/-- all but the two lists stays -/
def But (fo ln : Addr) (H H' : Hp) : Prop := ∀ a o, H a = some o → a ≠ fo → a ≠ ln → H' a = some o
theorem But.sol {fo ln : Addr} {H H' : Hp} {xs ys : List V} (h : But fo ln H H') (hf : H fo = some (.lst xs)) (hl : H ln = some (.lst ys)) : Sol H H' := fun a o e s =>
  h a o e (fun z => by rw [z, hf] at e; cases e; exact s) (fun z => by rw [z, hl] at e; cases e; exact s)
theorem RepS.mono {fo ln : Addr} {H H' : Hp} {xs ys : List V} (h : But fo ln H H') (hf : H fo = some (.lst xs)) (hl : H ln = some (.lst ys)) : ∀ {L : Stk} {vs : List V}, RepS fo ln H L vs → RepS fo ln H' L vs
  | [], _, e => e
  | none :: L, _, ⟨p, r, e, hp, n1, n2, k⟩ => ⟨p, r, e, h p _ hp n1 n2, n1, n2, RepS.mono h hf hl k⟩
  | some d :: L, _, ⟨v, r, e, hv, k⟩ => ⟨v, r, e, Rep.mono (h.sol hf hl) d v hv, RepS.mono h hf hl k⟩
theorem RepS.app {fo ln p : Addr} {H : Hp} {L : Stk} {r : List V} (hp : H p = some (.lst [])) (n1 : p ≠ fo) (n2 : p ≠ ln) (k : RepS fo ln H L r) : ∀ {ds : List D} {xs : List V}, RepL H ds xs → RepS fo ln H (ds.map some ++ none :: L) (xs ++ .ref p :: r)
  | [], _, e => by
    have e : _ = [] := e
    rw [e]
    exact ⟨p, r, rfl, hp, n1, n2, k⟩
  | d :: ds, _, ⟨v, xs, e, h1, h2⟩ => ⟨v, xs ++ .ref p :: r, by rw [e]; rfl, h1, RepS.app hp n1 n2 k h2⟩
theorem RepS.len {fo ln : Addr} {H : Hp} : ∀ {L : Stk} {vs : List V}, RepS fo ln H L vs → vs.length ≤ mu L
  | [], _, e => by
    have e : _ = [] := e
    rw [e]
    exact Nat.zero_le _
  | none :: L, _, ⟨p, r, e, _, _, _, k⟩ => by
    have z := RepS.len k
    rw [e]
    show r.length + 1 ≤ 1 + mu L
    omega
  | some d :: L, _, ⟨v, r, e, _, k⟩ => by
    have z := RepS.len k
    have z2 := sz_pos d
    rw [e]
    show r.length + 1 ≤ 4 * d.sz + mu L
    omega
theorem But.new {fo ln q : Addr} {G : Hp} {o : HO} (h : G q = none) : But fo ln G (upd G q o) := fun a u e _ _ => by
  rw [upd_ne (ne_of_none e h)]
  exact e
theorem But.fo {fo ln : Addr} {G : Hp} {o : HO} : But fo ln G (upd G fo o) := fun a u e n _ => by
  rw [upd_ne n]
  exact e
theorem But.ln {fo ln : Addr} {G : Hp} {o : HO} : But fo ln G (upd G ln o) := fun a u e _ n => by
  rw [upd_ne n]
  exact e
theorem But.trans {fo ln : Addr} {G G1 G2 : Hp} (a : But fo ln G G1) (b : But fo ln G1 G2) : But fo ln G G2 := fun x o e n1 n2 => b x o (a x o e n1 n2) n1 n2
theorem But.of {fo ln : Addr} {G G1 : Hp} (a : Same G G1) : But fo ln G G1 := fun x o e _ _ => a x o e
theorem But.same {fo ln : Addr} {H G G1 : Hp} (b : But fo ln G G1) (s : Same H G) (h1 : H fo = none) (h2 : H ln = none) : Same H G1 := fun x o e => b x o (s x o e) (ne_of_none e h1) (ne_of_none e h2)
/-- the state of the loop -/
def WInv (H0 : Hp) (d0 : D) (fo ln : Addr) (m : Nat) (σ : L2.St) (H : Hp) : Prop := ∃ (L : Stk) (vs : List V) (fs : List Str) (pv : V) (o : Option V), σ = [some pv, some (.ref fo), some (.ref ln), o] ∧ H fo = some (.lst (fs.map V.str)) ∧ H ln = some (.lst vs.reverse) ∧
  RepS fo ln H L vs ∧ m = mu L ∧ fs.length + mu L ≤ 50000 ∧ FineS L ∧ Same H0 H ∧ okS' L = d0.ok ∧ (d0.ok = true → fs ++ wordsS L = d0.words)
def spWords : Sp := fun vs H Q E => ∃ (d : D) (v : V), vs = [v] ∧ Rep H d v ∧ d.Fine ∧ d.sz ≤ 10000 ∧ (d.ok = true → ∀ p H', H p = none → Same H H' → H' p = some (.lst (d.words.map V.str)) → Q (.ref p) H') ∧
  (d.ok = false → ∀ dd H', Same H H' → H' dd = some (.xd [(("part" : Str), .str ("paper" : Str))]) → E (.ref 161) (some dd) H')
theorem last_rev {v : V} {r : List V} : (v :: r).reverse[(v :: r).reverse.length - 1]? = some v ∧ (v :: r).reverse.dropLast = r.reverse := by
  rw [List.reverse_cons]
  refine ⟨?_, List.dropLast_concat⟩
  rw [List.length_append, List.length_singleton, Nat.add_sub_cancel]
  simp
theorem map_app {α β : Type} (f : α → β) (l : List α) (x : α) : l.map f ++ [f x] = (l ++ [x]).map f := by simp
/-- line.extend([[], *rows[::-1]]) -/
theorem push_rows {K : PySem.W.Frag} {fo ln a : Addr} {σ : L2.St} {G : Hp} {xs r fs : List V} {L : Stk} {ds : List D} {te : TE} {D' : Ends} (hσ : σ[2]? = some (some (.ref ln))) (hF : G fo = some (.lst fs)) (hL : G ln = some (.lst r.reverse)) (nfl : ln ≠ fo)
    (k : RepS fo ln G L r) (rl : RepL G ds xs) (ha : G a = some (.tup xs)) (hte : ∀ (G' : Hp) (R : V → Hp → Prop), But fo ln G G' → R (.ref a) G' → te σ G' R) (hz : r.length + xs.length + 1 ≤ 60000)
    (kk : ∀ (G' : Hp) (vs2 : List V), But fo ln G G' → G' fo = some (.lst fs) → G' ln = some (.lst vs2.reverse) → RepS fo ln G' (ds.map some ++ none :: L) vs2 → D'.nx σ G') :
    tDrop (tBM K "list" rExtend (tVar 2) (tCons (tLst (tCons (tLst tNil) (StX.tStar K (tRevT K te) tNil))) tNil)) D' σ G := by
  refine ⟨_, hσ, .inl ⟨rfl, _, SqL.of hL⟩, Nat.zero_le _, fun p hp => ?_⟩
  have b1 : But fo ln G (upd G p (.lst [])) := But.new hp
  have npf : p ≠ fo := fun z => by rw [z, hF] at hp; cases hp
  have npl : p ≠ ln := fun z => by rw [z, hL] at hp; cases hp
  have ha1 := b1.sol hF hL _ _ ha True.intro
  refine hte _ _ b1 ⟨a, xs, rfl, SqT.of ha1, fun t ht => ⟨t, xs.reverse, rfl, .inl (SqT.of upd_same), ?_, fun lq hlq => ?_⟩⟩
  · show (V.ref p :: (xs.reverse ++ [])).length ≤ sizeLine
    rw [List.append_nil, List.length_cons, List.length_reverse]
    exact Nat.le_trans (by omega : _ ≤ 60000) (by decide)
  have b2 : But fo ln G (upd (upd G p (.lst [])) t (.tup xs.reverse)) := b1.trans (But.new ht)
  have b3 := b2.trans (But.new (o := .lst (V.ref p :: (xs.reverse ++ []))) hlq)
  have hp0 : upd G p (.lst []) p = some (.lst []) := upd_same
  have hp1 : upd (upd G p (.lst [])) t (.tup xs.reverse) p = some (.lst []) := by rw [upd_ne (ne_of_none hp0 ht)]; exact hp0
  have hp2 : upd (upd (upd G p (.lst [])) t (.tup xs.reverse)) lq (.lst (V.ref p :: (xs.reverse ++ []))) p = some (.lst []) := by rw [upd_ne (ne_of_none hp1 hlq)]; exact hp1
  have at_ : ∀ b o, G b = some o → upd (upd (upd G p (.lst [])) t (.tup xs.reverse)) lq (.lst (V.ref p :: (xs.reverse ++ []))) b = some o := fun b o e => by
    have e1 : upd G p (.lst []) b = some o := by rw [upd_ne (ne_of_none e hp)]; exact e
    have e2 : upd (upd G p (.lst [])) t (.tup xs.reverse) b = some o := by rw [upd_ne (ne_of_none e1 ht)]; exact e1
    rw [upd_ne (ne_of_none e2 hlq)]
    exact e2
  have hF3 := at_ _ _ hF
  have hL3 := at_ _ _ hL
  have hq : upd (upd (upd G p (.lst [])) t (.tup xs.reverse)) lq (.lst (V.ref p :: (xs.reverse ++ []))) lq = some (.lst (V.ref p :: (xs.reverse ++ []))) := upd_same
  generalize upd (upd (upd G p (.lst [])) t (.tup xs.reverse)) lq (.lst (V.ref p :: (xs.reverse ++ []))) = G3 at b3 hp2 hF3 hL3 hq ⊢
  refine ⟨ln, lq, _, _, rfl, rfl, hL3, hq, ?_, ?_⟩
  · rw [List.append_nil, List.length_cons, List.length_reverse, List.length_reverse]
    exact Nat.le_trans (by omega : _ ≤ 60000) (by decide)
  · have b4 := b3.trans (But.ln (o := .lst (r.reverse ++ V.ref p :: (xs.reverse ++ []))))
    refine kk _ (xs ++ .ref p :: r) b4 (by rw [upd_ne (Ne.symm nfl)]; exact hF3) ?_ (RepS.app ?_ npf npl (RepS.mono b4 hF hL k) (RepL.mono (b4.sol hF hL) _ _ rl))
    · rw [upd_same]
      simp
    · rw [upd_ne npl]
      exact hp2
section
variable {w : World} {K : PySem.W.Frag} {mg : Str → Option Value} {base : Heap}
theorem ok_words_of (T : Ctx K mg) : FnOk PW w K mg base (L2.CX PW w) 4 323 (fdOf K 323) P_words_of spWords := by
  have F := T.fun_ r_words_of m_words_of
  have Ft := T.fun_ r_is_told_paper m_is_told_paper
  have bt : Binds K (fdOf K 311) P_is_told_paper [] := Ft.binds fun _ _ _ _ _ _ us hl => match us, hl with | [_], _ => rfl
  have Fw := T.fun_ r_word_of m_word_of
  have bw : Binds K (fdOf K 316) P_word_of [] := Fw.binds fun _ _ _ _ _ _ us hl => match us, hl with | [_], _ => rfl
  obtain ⟨tO, hO⟩ := T.str (x := "OPEN") (z := "(")
  obtain ⟨tC', hC⟩ := T.str (x := "CLOSE") (z := ")")
  refine F.okX sc_words_of (fun vs H Q E h => ?_) (fun cdv A outer s H vs Q E hr h => ⟨_, pss_cons (ps_par rfl sc_words_of.nd (i := 1) (j := 2) rfl rfl (by decide) rfl rfl (pa_cons (pe_lst pa_nil) (pa_cons (pe_lst (pa_cons (pv 0) pa_nil)) pa_nil)) rfl)
    (pss_cons (ps_while (passes_of (K := fun e s'' => L2.CX PW w outer H s E e s'') rfl) (pt_cmpR (op_neE (Nat.lt_of_le_of_lt (Nat.le_add_right _ _) hr.units)) (pv 2) (pe_lst pa_nil) (nomark _))
      (pss_cons (ps_asg (pe_lpop (pv 2)) (pg_name (i := 3) sc_words_of.nd rfl (Or.inl rfl)))
      (pss_one (ps_if (pt_val (pe_callB call_isi rfl T.free (by decide +kernel) (pa_cons (pv 3) (pa_cons (pe_bltn (v := .ty "list") rfl T.free (by decide +kernel) rfl) pa_nil))))
        (pss_one (ps_expr (pe_lapp (pv 1) (pe_glob (v := .str wC) rfl hC ⟨_, rfl⟩))))
      (pss_one (ps_if (pt_val (pe_callB call_isi rfl T.free (by decide +kernel) (pa_cons (pv 3) (pa_cons (pe_bltn (v := .ty "tuple") rfl T.free (by decide +kernel) rfl) pa_nil))))
        (pss_cons (ps_expr (pe_lapp (pv 1) (pe_glob (v := .str wO) rfl hO ⟨_, rfl⟩)))
        (pss_one (ps_expr (pe_lext (pv 2) (pe_lst (pa_cons (pe_lst pa_nil) (StX.pa_star (pe_revT (pv 3)) pa_nil)))))))
      (pss_one (ps_if (pt_val (pe_callB call_isi rfl T.free (by decide +kernel) (pa_cons (pv 3) (pa_cons (pe_glob (v := .ref 274) rfl T.glo rfl) pa_nil))))
        (pss_cons (ps_if (pt_not (pt_val (pe_call (ok_is_told T) (hr.mono (by decide)) rfl T.glo Ft.kp bt .nil pass0 (pa_cons (pv 3) pa_nil)))) (pss_one (ps_raise rfl takesD (pmk_value rfl T mono_c (hr.mono (by decide)) rfl (pa_cons pe_str pa_nil)))) pss_nil)
        (pss_cons (ps_expr (pe_lext (pv 1) (pe_lst (pa_cons (pe_fld (pv 3) rfl) (pa_cons (pe_glob (v := .str wO) rfl hO ⟨_, rfl⟩) pa_nil)))))
        (pss_one (ps_expr (pe_lext (pv 2) (pe_lst (pa_cons (pe_lst pa_nil) (StX.pa_star (pe_revT (pe_fld (pv 3) rfl)) pa_nil))))))))
      (pss_one (ps_expr (pe_lapp (pv 1) (pe_call (ok_word_of T) hr rfl T.glo Fw.kp bw .nil (passes_call takesD fun _ _ _ _ h => h) (pa_cons (pv 3) pa_nil))))))))))))) (pss_one (ps_ret (pv 1)))), ?_⟩)
  · obtain ⟨d, v, rfl, _⟩ := h
    rfl
  · obtain ⟨d0, v0, rfl, hv, hf, hsz, kq, ke⟩ := h
    refine ⟨Nat.zero_le _, fun fo hfo => ⟨_, rfl, (by show 1 ≤ sizeLine; decide), fun ln hln => ⟨_, _, rfl, ?_⟩⟩⟩
    have nfl : ln ≠ fo := fun z => by
      rw [z, upd_same] at hln
      cases hln
    have hln0 : H ln = none := by
      rw [upd_ne nfl] at hln
      exact hln
    have sm0 : Same H (upd (upd H fo (.lst [])) ln (.lst [v0])) := fun b o e => by
      rw [upd_ne (ne_of_none e hln0), upd_ne (ne_of_none e hfo)]
      exact e
    refine ⟨WInv H d0 fo ln, ⟨mu [some d0], [some d0], [v0], [], v0, none, rfl, ?_, upd_same, ⟨v0, [], rfl, Rep.mono (Sol.of sm0) _ _ hv, rfl⟩, rfl, ?_, ⟨hf, True.intro⟩, sm0, ?_, fun _ => ?_⟩, fun m σ G hw => ?_⟩
    · rw [upd_ne (Ne.symm nfl), upd_same]
      rfl
    · show 0 + (4 * d0.sz + 0) ≤ 50000
      omega
    · show (d0.ok && true) = d0.ok
      exact Bool.and_true _
    · show [] ++ (d0.words ++ []) = d0.words
      simp
    · obtain ⟨L, vs, fs, pv, o, rfl, hF, hL, hS, rfl, hM, hFi, hSm, hOk, hW⟩ := hw
      refine ⟨_, rfl, Nat.zero_le _, fun q hq => ⟨ln, q, vs.reverse, rfl, rfl, SqL.of (by rw [upd_ne (ne_of_none hL hq)]; exact hL), SqL.of upd_same, _, rfl, ?_⟩⟩
      have b1 : But fo ln G (upd G q (.lst [])) := But.new hq
      have hF1 : upd G q (.lst []) fo = some (.lst (fs.map V.str)) := by rw [upd_ne (ne_of_none hF hq)]; exact hF
      have hL1 : upd G q (.lst []) ln = some (.lst vs.reverse) := by rw [upd_ne (ne_of_none hL hq)]; exact hL
      have hS1 := RepS.mono b1 hF hL hS
      generalize upd G q (.lst []) = G1 at b1 hF1 hL1 hS1 ⊢
      cases L with
      | nil =>
        obtain rfl : vs = [] := hS
        refine iteF ⟨_, rfl, kq hOk.symm fo G1 hfo (b1.same hSm hfo hln0) ?_⟩
        have e : fs ++ [] = d0.words := hW hOk.symm
        rw [hF1, ← e, List.append_nil]
      | cons it L =>
        have hlen := RepS.len hS1
        have step : ∀ {G2 : Hp} {L2 : Stk} {vs2 : List V} {fs2 : List Str} {o2 : Option V}, But fo ln G1 G2 → G2 fo = some (.lst (fs2.map V.str)) → G2 ln = some (.lst vs2.reverse) → RepS fo ln G2 L2 vs2 → mu L2 < mu (it :: L) → fs2.length + mu L2 ≤ fs.length + mu (it :: L) → FineS L2 → okS' L2 = okS' (it :: L) →
            (d0.ok = true → fs2 ++ wordsS L2 = fs ++ wordsS (it :: L)) → ∃ m', m' < mu (it :: L) ∧ WInv H d0 fo ln m' [some pv, some (.ref fo), some (.ref ln), o2] G2 := fun {G2 L2 vs2 fs2 o2} b h1 h2 h3 h4 h5 h6 h7 h8 =>
          ⟨mu L2, h4, L2, vs2, fs2, pv, o2, rfl, h1, h2, h3, rfl, Nat.le_trans h5 hM, h6, (b1.trans b).same hSm hfo hln0, h7.trans hOk, fun z => (h8 z).trans (hW z)⟩
        have small : ∀ {n : Nat}, n ≤ 50000 → n < sizeLine := fun {n} h => Nat.lt_of_le_of_lt h (by decide)
        refine ite2 (fun _ => ?_) fun z => ?_
        · refine ⟨fun σ' G' => ∃ m', m' < mu (it :: L) ∧ WInv H d0 fo ln m' σ' G', fun _ _ h => h, ?_⟩
          obtain ⟨v, r, rfl, hS2⟩ : ∃ v r, vs = v :: r ∧ RepS fo ln G1 (it :: L) (v :: r) := by
            cases it with
            | none =>
              obtain ⟨p, r, e, h⟩ := id hS1
              exact ⟨_, r, e, by rw [← e]; exact hS1⟩
            | some d =>
              obtain ⟨v, r, e, h⟩ := id hS1
              exact ⟨v, r, e, by rw [← e]; exact hS1⟩
          refine ⟨_, rfl, .inl ⟨rfl, _, SqL.of hL1⟩, ln, _, v, rfl, rfl, hL1, last_rev.1, ?_⟩
          rw [last_rev.2]
          have b2 : But fo ln G1 (upd G1 ln (.lst r.reverse)) := But.ln
          have hF2 : upd G1 ln (.lst r.reverse) fo = some (.lst (fs.map V.str)) := by rw [upd_ne (Ne.symm nfl)]; exact hF1
          have hL2 : upd G1 ln (.lst r.reverse) ln = some (.lst r.reverse) := upd_same
          have hS3 := RepS.mono b2 hF1 hL1 hS2
          generalize upd G1 ln (.lst r.reverse) = G2 at b2 hF2 hL2 hS3 ⊢
          have hfl : (fs.map V.str).length = fs.length := List.length_map _
          cases it with
          | none =>
            obtain ⟨p, r', e, hp, n1, n2, k⟩ := hS3
            cases e
            have hM' : fs.length + (1 + mu L) ≤ 50000 := hM
            refine ⟨_, rfl, .ref p, .ty "list", .type "list", _, true, rfl, .ty _, .base (.lst hp), kit_ty (by decide +kernel), _, rfl, iteT ?_⟩
            refine ⟨_, rfl, .inl ⟨rfl, _, SqL.of hF2⟩, fo, _, .str wC, rfl, rfl, hF2, small (by omega), ?_⟩
            rw [map_app]
            refine step (b2.trans But.fo) upd_same (by rw [upd_ne nfl]; exact hL2) (RepS.mono But.fo hF2 hL2 k) (by show mu L < 1 + mu L; omega) ?_ hFi rfl fun _ => ?_
            · rw [List.length_append, List.length_singleton]
              show fs.length + 1 + mu L ≤ fs.length + (1 + mu L)
              omega
            · show fs ++ [wC] ++ wordsS L = fs ++ wC :: wordsS L
              simp
          | some d =>
            obtain ⟨v', r', e, hv2, k⟩ := hS3
            cases e
            obtain ⟨hFd, hFL⟩ : d.Fine ∧ FineS L := hFi
            have hM' : fs.length + (4 * d.sz + mu L) ≤ 50000 := hM
            have hpos := sz_pos d
            have e1 : d.isT "list" = false := by cases d <;> rfl
            refine ⟨_, rfl, v, .ty "list", d.ty, _, _, rfl, .ty _, Rep.tyx T hv2, kit_d T hv2 (by decide), _, rfl, ?_⟩
            rw [e1]
            refine iteF ⟨_, rfl, v, .ty "tuple", d.ty, _, _, rfl, .ty _, Rep.tyx T hv2, kit_d T hv2 (by decide), _, rfl, ?_⟩
            have hflat : d.flat = true → ∀ {D' : Ends}, (∀ σ G, (∃ m', m' < mu (some d :: L) ∧ WInv H d0 fo ln m' σ G) → D'.nx σ G) →
                tDrop (tBM K "list" rAppend (tVar 1) (tCons (tCall spWord [] E (tCons (tVar 3) tNil)) tNil)) D' [some pv, some (.ref fo), some (.ref ln), some v] G2 := fun hfl2 D' hD => by
              obtain ⟨l1, l2⟩ := leaf_ok hfl2
              refine ⟨_, rfl, .inl ⟨rfl, _, SqL.of hF2⟩, _, rfl, d, v, rfl, hv2, hFd, hfl2, fun x hx G3 sm3 => ⟨fo, _, .str x, rfl, rfl, sm3 _ _ hF2, small (by omega), hD _ _ ?_⟩, fun hx dd G3 sm3 h3 => ke ?_ dd G3 (Same.trans (b1.trans b2 |>.same hSm hfo hln0) sm3) h3⟩
              · rw [map_app]
                refine step ((b2.trans (But.of sm3)).trans But.fo) upd_same (by rw [upd_ne nfl]; exact sm3 _ _ hL2) (RepS.mono ((But.of sm3).trans But.fo) hF2 hL2 k) (by show mu L < 4 * d.sz + mu L; omega) ?_ hFL ?_ fun _ => ?_
                · rw [List.length_append, List.length_singleton]
                  show fs.length + 1 + mu L ≤ fs.length + (4 * d.sz + mu L)
                  omega
                · show okS' L = (d.ok && okS' L)
                  rw [l1, hx]
                  rfl
                · show fs ++ [x] ++ wordsS L = fs ++ (d.words ++ wordsS L)
                  rw [l2 x hx, List.append_assoc]
              · rw [← hOk]
                show (d.ok && okS' L) = false
                rw [l1, hx]
                rfl
            cases d with
            | non => exact iteF ⟨_, rfl, v, .ref 274, _, _, _, rfl, .own _, Rep.tyx T hv2, kit_pap T hv2, _, rfl, iteF (hflat rfl fun _ _ h => h)⟩
            | int i => exact iteF ⟨_, rfl, v, .ref 274, _, _, _, rfl, .own _, Rep.tyx T hv2, kit_pap T hv2, _, rfl, iteF (hflat rfl fun _ _ h => h)⟩
            | str i => exact iteF ⟨_, rfl, v, .ref 274, _, _, _, rfl, .own _, Rep.tyx T hv2, kit_pap T hv2, _, rfl, iteF (hflat rfl fun _ _ h => h)⟩
            | bl i => exact iteF ⟨_, rfl, v, .ref 274, _, _, _, rfl, .own _, Rep.tyx T hv2, kit_pap T hv2, _, rfl, iteF (hflat rfl fun _ _ h => h)⟩
            | dct => exact iteF ⟨_, rfl, v, .ref 274, _, _, _, rfl, .own _, Rep.tyx T hv2, kit_pap T hv2, _, rfl, iteF (hflat rfl fun _ _ h => h)⟩
            | tup ds =>
              obtain ⟨a, xs, rfl, ha, rl⟩ := id hv2
              have hM' : fs.length + (4 * (szL ds + 1) + mu L) ≤ 50000 := hM
              have hlr := RepS.len k
              have hlx := RepL.len rl
              have hlz := len_szL ds
              refine iteT ⟨_, rfl, .inl ⟨rfl, _, SqL.of hF2⟩, fo, _, .str wO, rfl, rfl, hF2, small (by omega), ?_⟩
              rw [map_app]
              have b3 : But fo ln G2 (upd G2 fo (.lst ((fs ++ [wO]).map V.str))) := But.fo
              have hL3 : upd G2 fo (.lst ((fs ++ [wO]).map V.str)) ln = some (.lst r.reverse) := by rw [upd_ne nfl]; exact hL2
              refine push_rows (fs := (fs ++ [wO]).map V.str) rfl upd_same hL3 nfl (RepS.mono b3 hF2 hL2 k) (RepL.mono (b3.sol hF2 hL2) _ _ rl) (b3.sol hF2 hL2 _ _ ha True.intro) (fun G' R b' hR => ⟨_, rfl, hR⟩) (by omega) fun G' vs2 b' h1 h2 h3 => ?_
              refine step ((b2.trans b3).trans b') h1 h2 h3 ?_ ?_ (FineS_app hFd hFL) (okS_app ds L) fun _ => ?_
              · rw [mu_app]
                show 4 * szL ds + 1 + mu L < 4 * (szL ds + 1) + mu L
                omega
              · rw [mu_app, List.length_append, List.length_singleton]
                show fs.length + 1 + (4 * szL ds + 1 + mu L) ≤ fs.length + (4 * (szL ds + 1) + mu L)
                omega
              · rw [wordsS_app]
                show fs ++ [wO] ++ (wordsL ds ++ wC :: wordsS L) = fs ++ ((wO :: (wordsL ds ++ [wC])) ++ wordsS L)
                simp
            | pap wd ds =>
              obtain ⟨a, dx, t0, xs, rfl, ha, ht0, kn, rl⟩ := id hv2
              obtain ⟨cl, nw, np⟩ := T.papA kn
              have hM' : fs.length + (4 * (szL ds + 1) + mu L) ≤ 50000 := hM
              have hlr := RepS.len k
              have hlx := RepL.len rl
              have hlz := len_szL ds
              refine iteF ⟨_, rfl, .ref a, .ref 274, _, _, _, rfl, .own _, Rep.tyx T hv2, kit_pap T hv2, _, rfl, iteT ?_⟩
              refine ⟨_, rfl, .pap wd ds, .ref a, rfl, hv2, ?_, fun G3 sm3 => ⟨_, rfl, ?_⟩⟩
              · show szL ds + 1 < 100000
                omega
              by_cases hc : cnt wd = some ds.length
              · have e : (D.pap wd ds).told1 = true := decide_eq_true hc
                rw [e]
                refine iteF ?_
                have b3 : But fo ln G2 G3 := But.of sm3
                have hF3 := sm3 _ _ hF2
                have hL3 := sm3 _ _ hL2
                have ha3 := sm3 _ _ ha
                have ht3 := sm3 _ _ ht0
                refine ⟨_, rfl, .inl ⟨rfl, _, SqL.of hF3⟩, _, rfl, a, _, dx, _, _, rfl, ha3, cl, nw, fs_word, by show 2 ≤ sizeLine; decide, fun lq hlq => ⟨fo, lq, _, _, rfl, rfl, by rw [upd_ne (ne_of_none hF3 hlq)]; exact hF3, upd_same, Nat.le_of_lt (small (by show (fs.map V.str).length + 2 ≤ 50000; omega)), ?_⟩⟩
                have b4 : But fo ln G3 (upd G3 lq (.lst [.str wd, .str wO])) := But.new hlq
                have hF4 : upd G3 lq (.lst [.str wd, .str wO]) fo = some (.lst (fs.map V.str)) := by rw [upd_ne (ne_of_none hF3 hlq)]; exact hF3
                have hL4 : upd G3 lq (.lst [.str wd, .str wO]) ln = some (.lst r.reverse) := by rw [upd_ne (ne_of_none hL3 hlq)]; exact hL3
                have b34 := b3.trans b4
                have k4 := RepS.mono b34 hF2 hL2 k
                have rl4 := RepL.mono (b34.sol hF2 hL2) _ _ rl
                have ha4 := b34.sol hF2 hL2 _ _ ha ⟨wd, t0, xs, rfl, rfl, by rw [hlx]; exact kn.le⟩
                have ht4 := b34.sol hF2 hL2 _ _ ht0 True.intro
                have em : fs.map V.str ++ [V.str wd, V.str wO] = (fs ++ [wd, wO]).map V.str := by simp
                rw [em]
                generalize upd G3 lq (.lst [.str wd, .str wO]) = G4 at b34 hF4 hL4 k4 rl4 ha4 ht4 ⊢
                have b5 : But fo ln G4 (upd G4 fo (.lst ((fs ++ [wd, wO]).map V.str))) := But.fo
                have hL5 : upd G4 fo (.lst ((fs ++ [wd, wO]).map V.str)) ln = some (.lst r.reverse) := by rw [upd_ne nfl]; exact hL4
                have s5 := b5.sol hF4 hL4
                have sol : ∃ w t vs, clsAt wd = clsAt w ∧ fsOf wd t0 xs = fsOf w t vs ∧ (attrsAt w).length ≤ vs.length := ⟨wd, t0, xs, rfl, rfl, by rw [hlx]; exact kn.le⟩
                refine push_rows (fs := (fs ++ [wd, wO]).map V.str) rfl upd_same hL5 nfl (RepS.mono b5 hF4 hL4 k4) (RepL.mono s5 _ _ rl4) (s5 _ _ ht4 True.intro) (fun G' R b' hR => ⟨_, rfl, a, _, dx, _, _, rfl, b'.sol upd_same hL5 _ _ (s5 _ _ ha4 sol) sol, cl, np, fs_parts, hR⟩) (by omega) fun G' vs2 b' h1 h2 h3 => ?_
                refine step (((b2.trans b34).trans b5).trans b') h1 h2 h3 ?_ ?_ (FineS_app hFd hFL) ?_ fun _ => ?_
                · rw [mu_app]
                  show 4 * szL ds + 1 + mu L < 4 * (szL ds + 1) + mu L
                  omega
                · rw [mu_app, List.length_append]
                  show fs.length + 2 + (4 * szL ds + 1 + mu L) ≤ fs.length + (4 * (szL ds + 1) + mu L)
                  omega
                · rw [okS_app]
                  show (okD ds && okS' L) = (decide (cnt wd = some ds.length) && okD ds && okS' L)
                  rw [decide_eq_true hc, Bool.true_and]
                · rw [wordsS_app]
                  show fs ++ [wd, wO] ++ (wordsL ds ++ wC :: wordsS L) = fs ++ ((wd :: wO :: (wordsL ds ++ [wC])) ++ wordsS L)
                  simp
              · have e : (D.pap wd ds).told1 = false := decide_eq_false hc
                rw [e]
                refine iteT fun dd G4 hdd h1 h2 => ke ?_ dd G4 (Same.trans (Same.trans ((b1.trans b2).same hSm hfo hln0) sm3) (same_but hdd h2)) h1
                rw [← hOk]
                show (decide (cnt wd = some ds.length) && okD ds && okS' L) = false
                rw [decide_eq_false hc]
                rfl
        · refine absurd ?_ z
          cases it with
          | none =>
            obtain ⟨p, r, e, h⟩ := id hS1
            rw [e]
            simp
          | some d =>
            obtain ⟨v, r, e, h⟩ := id hS1
            rw [e]
            simp
def spText : Sp := fun vs H Q E => ∃ (d : D) (v : V), vs = [v] ∧ Rep H d v ∧ d.Fine ∧ d.sz ≤ 10000 ∧ (d.words.map (·.length)).sum + d.words.length ≤ 16777216 ∧ (d.isPap = true → d.ok = true → ∀ H', Same H H' → Q (.str (Txt.join ⟨#[32]⟩ d.words)) H') ∧
  ((d.isPap && d.ok) = false → ∀ dd H', Same H H' → H' dd = some (.xd [(("part" : Str), .str ("paper" : Str))]) → E (.ref 161) (some dd) H')
theorem told_ok {d : D} (h : d.told1 = false) : (d.isPap && d.ok) = false := by
  cases d with
  | pap w ds =>
    have h : decide (cnt w = some ds.length) = false := h
    show (decide (cnt w = some ds.length) && okD ds) = false
    rw [h]
    rfl
  | _ => rfl
theorem told_pap {d : D} (h : d.told1 = true) : d.isPap = true := by
  cases d with
  | pap w ds => rfl
  | _ => cases h
theorem space_is : ((" " : Str)) = ⟨#[32]⟩ := by decide +kernel
theorem ok_paper_text (T : Ctx K mg) : FnOk PW w K mg base (L2.CX PW w) 5 330 (fdOf K 330) P_paper_text spText := by
  have F := T.fun_ r_paper_text m_paper_text
  have Ft := T.fun_ r_is_told_paper m_is_told_paper
  have bt : Binds K (fdOf K 311) P_is_told_paper [] := Ft.binds fun _ _ _ _ _ _ us hl => match us, hl with | [_], _ => rfl
  have Fw := T.fun_ r_words_of m_words_of
  have bw : Binds K (fdOf K 323) P_words_of [] := Fw.binds fun _ _ _ _ _ _ us hl => match us, hl with | [_], _ => rfl
  refine F.okX sc_paper_text (fun vs H Q E h => ?_) (fun cdv A outer s H vs Q E hr h => ⟨_, pss_cons (ps_if (pt_not (pt_val (pe_call (ok_is_told T) (hr.mono (by decide)) rfl T.glo Ft.kp bt .nil pass0 (pa_cons (pv 0) pa_nil)))) (pss_one (ps_raise rfl takesD (pmk_value rfl T mono_c (hr.mono (by decide)) rfl (pa_cons pe_str pa_nil)))) pss_nil)
    (pss_one (ps_ret (pe_join pe_str (pe_call (ok_words_of T) hr rfl T.glo Fw.kp bw .nil (passes_call takesD fun _ _ _ _ h => h) (pa_cons (pv 0) pa_nil))))), ?_⟩)
  · obtain ⟨d, v, rfl, _⟩ := h
    rfl
  · obtain ⟨d, v, rfl, hv, hf, hsz, hj, kq, ke⟩ := h
    refine ⟨_, rfl, d, v, rfl, hv, by omega, fun G sm => ⟨_, rfl, ?_⟩⟩
    cases e : d.told1 with
    | false => exact iteT fun dd G4 hdd h1 h2 => ke (told_ok e) dd G4 (sm.trans (same_but hdd h2)) h1
    | true =>
      refine iteF ⟨⟨_, rfl⟩, _, rfl, d, v, rfl, Rep.mono (Sol.of sm) _ _ hv, hf, hsz, fun hok p G2 hp sm2 hw => ⟨_, p, d.words, rfl, rfl, .inl (SqL.of hw), ?_, ?_⟩, fun hno dd G2 sm2 h2 => ke ?_ dd G2 (sm.trans sm2) h2⟩
      · have e1 : ((" " : Str)).length = 1 := by decide +kernel
        rw [e1, Nat.mul_one]
        exact hj
      · have z := kq (told_pap e) hok G2 (sm.trans sm2)
        rw [← space_is] at z
        exact z
      · rw [hno, Bool.and_false]
end
end K91
set_option Elab.async false
set_option linter.all false
set_option maxRecDepth 100000
set_option maxHeartbeats 2000000
/-! K91, M: is_written, is_plain, value_of. -/
namespace K91
open PySem PySem.Spec PyProof.Rows L2 TL
/-! ### z[:1], z[1:] -/
theorem cut_take (z : Str) : cutS z none (some 1) = ⟨((tl z).take 1).toArray⟩ := by
  have e : z.length = (tl z).length := len_tl z
  unfold cutS
  rw [e]
  congr 2
  show ((tl z).drop 0).take ((if (1 : Int) < 0 then ((1 : Int) + ((tl z).length : Int)).toNat else min (1 : Int).toNat (tl z).length) - 0) = (tl z).take 1
  rw [if_neg (by decide), List.drop_zero, Nat.sub_zero]
  show (tl z).take (min 1 (tl z).length) = _
  cases tl z with
  | nil => rfl
  | cons a r =>
    rw [List.length_cons, Nat.min_eq_left (by omega)]
theorem cut_drop (z : Str) : cutS z (some 1) none = ⟨((tl z).drop 1).toArray⟩ := by
  have e : z.length = (tl z).length := len_tl z
  unfold cutS
  rw [e]
  congr 2
  show ((tl z).drop (if (1 : Int) < 0 then ((1 : Int) + ((tl z).length : Int)).toNat else min (1 : Int).toNat (tl z).length)).take ((tl z).length - (if (1 : Int) < 0 then ((1 : Int) + ((tl z).length : Int)).toNat else min (1 : Int).toNat (tl z).length)) = (tl z).drop 1
  rw [if_neg (by decide)]
  show ((tl z).drop (min 1 (tl z).length)).take ((tl z).length - min 1 (tl z).length) = _
  cases tl z with
  | nil => rfl
  | cons a r =>
    rw [List.length_cons, Nat.min_eq_left (by omega)]
    show r.take (r.length + 1 - 1) = r
    rw [Nat.add_sub_cancel, List.take_length]
theorem str_tl (z : Str) : z = ⟨(tl z).toArray⟩ := by
  obtain ⟨⟨l⟩⟩ := z
  rfl
theorem tl_mk (l : List Nat) : tl ⟨l.toArray⟩ = l := rfl
theorem vstr {a b : List Nat} : (V.str ⟨a.toArray⟩ = V.str ⟨b.toArray⟩) ↔ a = b := by
  refine ⟨fun h => ?_, fun h => by rw [h]⟩
  have h1 := V.str.inj h
  have h2 := congrArg tl h1
  exact h2
theorem minus_is : (("-" : Str)) = ⟨[45].toArray⟩ := by decide +kernel
theorem mark_is : wE = ⟨[61].toArray⟩ := by decide +kernel
theorem nought_is : (("0" : Str)) = ⟨[48].toArray⟩ := by decide +kernel
/-- the figures, as a text -/
def fz (z : Str) : Str := ⟨(figs (tl z)).toArray⟩
theorem fz_yes {z : Str} (h : V.str (cutS z none (some 1)) = V.str "-") : cutS z (some 1) none = fz z := by
  rw [cut_take, minus_is, vstr] at h
  rw [cut_drop]
  unfold fz
  cases e : tl z with
  | nil => rw [e] at h; cases h
  | cons a r =>
    rw [e] at h
    cases h
    rfl
theorem fz_no {z : Str} (h : ¬ V.str (cutS z none (some 1)) = V.str "-") : z = fz z := by
  rw [cut_take, minus_is, vstr] at h
  refine (str_tl z).trans ?_
  unfold fz figs
  split
  · rename_i r q
    rw [q] at h
    exact absurd rfl h
  · rfl
theorem figs_len (l : List Nat) : (figs l).length ≤ l.length := by
  unfold figs
  split
  · exact Nat.le_succ _
  · exact Nat.le_refl _
theorem at0 {α : Type} (a : α) (r : List α) : atI (a :: r) 0 = some a := by
  have h1 : ixN (a :: r).length (0 : Int) = some 0 := by
    unfold ixN
    rw [if_pos (by decide), if_pos (by rw [List.length_cons]; omega)]
    all_goals rfl
  unfold atI
  rw [h1]
  rfl
/-- x = a if c else b, whose parts change nothing -/
theorem asg_if {c : TT} {ta tb : TE} {g : TG} {D : Ends} {σ : L2.St} {H : Hp} {b : Bool} {y : V} (hc : ∀ R : Bool → Hp → Prop, R b H → c σ H R) (ht : b = true → ∀ R : V → Hp → Prop, R y H → ta σ H R) (hf : b = false → ∀ R : V → Hp → Prop, R y H → tb σ H R)
    (hg : g y σ H D.nx) : tAsg (tIf c ta tb) g D σ H := by
  refine hc _ ?_
  cases b with
  | true => exact iteT (ht rfl _ hg)
  | false => exact iteF (hf rfl _ hg)
def spWritten : Sp := fun vs H Q _ => ∃ z : Str, vs = [.str z] ∧ z.length ≤ 1000 ∧ ∀ H', Same H H' → Q (.bl (writtenL (tl z))) H'
section
variable {w : World} {K : PySem.W.Frag} {mg : Str → Option Value} {base : Heap}
theorem ok_written (T : Ctx K mg) : FnOk PW w K mg base CX0 1 951 (fdOf K 951) P_is_written spWritten := by
  have F := T.fun_ r_is_written m_is_written
  obtain ⟨tF, hF⟩ := T.figs40
  refine F.ok sc_is_written (fun vs H Q E h => ?_) (fun cdv A outer s H vs Q E hr h => ⟨_, pss_cons (ps_asg (pe_ifExp (pt_cmpR op_eq (pe_slice sl_str (pv 0) po_none (po_some pe_int)) pe_str (nomark _)) (pe_slice sl_str (pv 0) (po_some pe_int) po_none) (pv 0)) (pg_name (i := 1) sc_is_written.nd rfl (Or.inl rfl)))
    (pss_cons (ps_if (PW.pt (pw_or (pt_not (pt_chain op_le op_le pe_int (pe_callB call_len rfl T.free (by decide +kernel) (pa_cons (pv 1) pa_nil)) (pe_glob (v := .int 40) rfl hF ⟨_, rfl⟩)))
        (pw_or1 (pt_not (pt_val (pe_callB (cr_all rfl) rfl T.free (by decide +kernel) (pa_cons
          (pe_lc (own := [("sign", 2)]) (g := gName 2) (tt := tYes) rfl sc_is_written.nd (pi_str (pv 1)) (blkOk_by (N := N_is_written) (sc := defScope s_is_written) (by decide +kernel)) (fun _ _ _ _ _ => pg_name (i := 2) sc_is_written.nd rfl (Or.inl rfl)) (fun _ _ _ _ _ => pts_nil)
            (fun _ _ _ _ _ => pe_cmpR op_in_sign (pv 2) pe_str rfl)) pa_nil)))))))
      (pss_one (ps_ret pe_bl)) pss_nil)
    (pss_one (ps_ret (pe_or (pe_cmpR op_eq (pv 0) pe_str (nomark _)) (pe_one (pe_cmpR op_ne (pe_ix ix_str (pv 1) pe_int (fun _ _ => rfl)) pe_str (nomark _))))))), ?_⟩)
  · obtain ⟨z, rfl, _⟩ := h
    rfl
  · obtain ⟨z, rfl, hz, k⟩ := h
    have hz2 : z.length ≤ sizeLine := Nat.le_trans hz (by decide)
    have hfl : (fz z).length ≤ 1000 := by
      have h1 := figs_len (tl z)
      have h2 : z.length = (tl z).length := len_tl z
      show (figs (tl z)).toArray.size ≤ 1000
      rw [List.size_toArray]
      omega
    have hl : (fz z).length = (figs (tl z)).length := by
      show (figs (tl z)).toArray.size = _
      rw [List.size_toArray]
    refine asg_if (b := decide (V.str (cutS z none (some 1)) = V.str "-")) (y := .str (fz z)) (fun R hR => ⟨_, rfl, 1, rfl, z, rfl, hz2, rfl, _, rfl, hR⟩) (fun h R hR => ⟨_, rfl, 1, rfl, z, rfl, hz2, by rw [fz_yes (of_decide_eq_true h)]; exact hR⟩)
      (fun h R hR => ⟨_, rfl, by rw [← fz_no (of_decide_eq_false h)] at hR; exact hR⟩) ?_
    refine ⟨_, rfl, _, _, rfl, ⟨Nat.le_trans hfl (by decide), rfl⟩, 1, _, rfl, rfl, _, rfl, ?_⟩
    have tail : decide ((1 : Int) ≤ ((fz z).length : Nat)) = decide (1 ≤ (figs (tl z)).length) := by
      rw [hl, Bool.eq_iff_iff]
      simp only [decide_eq_true_eq]
      omega
    have tail2 : decide ((((fz z).length : Nat) : Int) ≤ 40) = decide ((figs (tl z)).length ≤ 40) := by
      rw [hl, Bool.eq_iff_iff]
      simp only [decide_eq_true_eq]
      omega
    rw [tail]
    cases e1 : decide (1 ≤ (figs (tl z)).length) with
    | false =>
      refine iteF ⟨_, rfl, iteT ?_⟩
      have e : writtenL (tl z) = false := by
        unfold writtenL
        rw [e1]
        rfl
      have z := k H (Same.refl _)
      rw [e] at z
      exact iteT z
    | true =>
      refine iteT ⟨_, 40, rfl, rfl, _, rfl, ?_⟩
      rw [tail2]
      cases e2 : decide ((figs (tl z)).length ≤ 40) with
      | false =>
        have e : writtenL (tl z) = false := by
          unfold writtenL
          rw [e1, e2]
          rfl
        have z := k H (Same.refl _)
        rw [e] at z
        exact iteT (iteT z)
      | true =>
        refine iteF ?_
        refine read_all (p := isF) (x := fz z) (fun R hR => ⟨_, rfl, hR⟩) (fun _ => rfl) (fun c H' Q' hq => ⟨_, rfl, c, _, rfl, rfl, by rw [figure_in]; exact hq⟩) (Nat.le_trans hfl (by decide)) fun H' sm => ⟨_, rfl, ?_⟩
        cases e3 : (fz z).cps.toList.all isF with
        | false =>
          have e3' : (figs (tl z)).all isF = false := e3
          have e : writtenL (tl z) = false := by
            unfold writtenL
            rw [e1, e2, e3']
            rfl
          have z := k H' sm
          rw [e] at z
          exact iteT z
        | true =>
          have e3' : (figs (tl z)).all isF = true := e3
          refine iteF ⟨_, rfl, rfl, _, rfl, ?_⟩
          have e4 : decide (V.str z = V.str "0") = decide (tl z = [48]) := by
            rw [nought_is]
            conv => lhs; rw [str_tl z]
            rw [Bool.eq_iff_iff]
            simp only [decide_eq_true_eq]
            exact vstr
          rw [e4]
          cases e5 : decide (tl z = [48]) with
          | true =>
            have e : writtenL (tl z) = true := by
              unfold writtenL
              rw [e1, e2, e3', e5]
              rfl
            have z := k H' sm
            rw [e] at z
            exact iteT z
          | false =>
            obtain ⟨a, r, ef⟩ : ∃ a r, figs (tl z) = a :: r := by
              cases q : figs (tl z) with
              | nil => rw [q] at e1; cases e1
              | cons a r => exact ⟨a, r, rfl⟩
            refine iteF ⟨_, rfl, fz z, 0, a, rfl, rfl, Nat.le_trans hfl (by decide), ?_, rfl, ?_⟩
            · have e6 : (fz z).cps.toList = a :: r := ef
              rw [e6]
              exact at0 a r
            · have e : (!decide (V.str ⟨#[a]⟩ = V.str "0")) = writtenL (tl z) := by
                have e7 : decide (V.str ⟨#[a]⟩ = V.str "0") = decide ((figs (tl z)).head? = some 48) := by
                  rw [ef, nought_is, Bool.eq_iff_iff]
                  simp only [decide_eq_true_eq, List.head?_cons, Option.some.injEq]
                  refine (vstr (a := [a]) (b := [48])).trans ?_
                  simp
                rw [e7]
                unfold writtenL
                rw [e1, e2, e3', e5]
                rfl
              rw [e]
              exact k H' sm
/-- word[1:], its mark left out -/
theorem word_if {l : List Nat} : (decide (l.take 1 = [61]) && (l.drop 1).all isL) = wordL l := by
  unfold wordL
  cases l with
  | nil => rfl
  | cons a r =>
    by_cases h : a = 61
    · subst h
      simp
    · have e : decide ((a :: r).take 1 = [61]) = false := decide_eq_false fun z => h (by simpa using z)
      rw [e]
      split
      · rename_i q
        cases q
        exact absurd rfl h
      · rfl
theorem take_mark {z : Str} : decide (V.str (cutS z none (some 1)) = V.str wE) = decide ((tl z).take 1 = [61]) := by
  rw [cut_take, mark_is, Bool.eq_iff_iff]
  simp only [decide_eq_true_eq]
  exact vstr
def spPlain : Sp := fun vs H Q _ => ∃ z : Str, vs = [.str z] ∧ z.length ≤ 1000 ∧ ∀ H', Same H H' → Q (.bl (isPlain z)) H'
theorem ok_plain (T : Ctx K mg) : FnOk PW w K mg base CX0 2 956 (fdOf K 956) P_is_plain spPlain := by
  have F := T.fun_ r_is_plain m_is_plain
  have Fw := T.fun_ r_is_written m_is_written
  have bw : Binds K (fdOf K 951) P_is_written [] := Fw.binds fun _ _ _ _ _ _ us hl => match us, hl with | [_], _ => rfl
  obtain ⟨tN, hN⟩ := T.str (x := "NOTHING") (z := "none")
  obtain ⟨tM, hM⟩ := T.str (x := "MARK") (z := "=")
  obtain ⟨tL, hL⟩ := T.str (x := "LETTERS") (z := "abcdefghijklmnopqrstuvwxyz")
  refine F.ok sc_is_plain (fun vs H Q E h => ?_) (fun cdv A outer s H vs Q E hr h => ⟨_, pss_cons (ps_if (PW.pt (pw_or (pt_cmpR op_eq (pv 0) (pe_glob (v := .str wN) rfl hN ⟨_, rfl⟩) (nomark _)) (pw_or1 (pt_val (pe_call (ok_written T) hr rfl T.glo Fw.kp bw .nil pass0 (pa_cons (pv 0) pa_nil))))))
      (pss_one (ps_ret pe_bl)) pss_nil)
    (pss_one (ps_ret (pe_and (pe_cmpR op_eq (pe_slice sl_str (pv 0) po_none (po_some pe_int)) (pe_glob (v := .str wE) rfl hM ⟨_, rfl⟩) (nomark _))
      (pe_one (pe_callB (cr_all rfl) rfl T.free (by decide +kernel) (pa_cons
          (pe_lc (own := [("sign", 1)]) (g := gName 1) (tt := tYes) rfl sc_is_plain.nd (pi_str (pe_slice sl_str (pv 0) (po_some pe_int) po_none)) (blkOk_by (N := N_is_plain) (sc := defScope s_is_plain) (by decide +kernel)) (fun _ _ _ _ _ => pg_name (i := 1) sc_is_plain.nd rfl (Or.inl rfl)) (fun _ _ _ _ _ => pts_nil)
            (fun _ _ _ _ _ => pe_cmpR op_in_sign (pv 1) (pe_glob (v := .str "abcdefghijklmnopqrstuvwxyz") rfl hL ⟨_, rfl⟩) rfl)) pa_nil)))))), ?_⟩)
  · obtain ⟨z, rfl, _⟩ := h
    rfl
  · obtain ⟨z, rfl, hz, k⟩ := h
    have hz2 : z.length ≤ sizeLine := Nat.le_trans hz (by decide)
    refine ⟨_, rfl, rfl, _, rfl, ?_⟩
    have e0 : decide (V.str z = V.str wN) = decide (z = wN) := by
      rw [Bool.eq_iff_iff]
      simp only [decide_eq_true_eq, V.str.injEq]
    rw [e0]
    cases e1 : decide (z = wN) with
    | true =>
      have e : isPlain z = true := by
        unfold isPlain
        rw [e1]
        rfl
      have q := k H (Same.refl _)
      rw [e] at q
      exact iteT (iteT q)
    | false =>
      refine iteF ⟨_, rfl, z, rfl, hz, fun G sm => ⟨_, rfl, ?_⟩⟩
      cases e2 : writtenL (tl z) with
      | true =>
        have e : isPlain z = true := by
          unfold isPlain
          rw [e1, e2]
          rfl
        have q := k G sm
        rw [e] at q
        exact iteT q
      | false =>
        have e : isPlain z = (decide ((tl z).take 1 = [61]) && ((tl z).drop 1).all isL) := by
          rw [word_if]
          unfold isPlain
          rw [e1, e2]
          rfl
        refine iteF ⟨_, rfl, 1, rfl, z, rfl, hz2, rfl, _, rfl, ?_⟩
        rw [take_mark]
        cases e3 : decide ((tl z).take 1 = [61]) with
        | false =>
          have q := k G sm
          rw [e, e3] at q
          exact iteF q
        | true =>
          refine iteT (read_all (p := isL) (x := cutS z (some 1) none) (fun R hR => ⟨_, rfl, 1, rfl, z, rfl, hz2, hR⟩) (fun _ => rfl) (fun c H' Q' hq => ⟨_, rfl, c, _, rfl, rfl, by rw [letter_in]; exact hq⟩) ?_ fun H' sm' => ?_)
          · exact Nat.le_trans (cutS_length z (some 1) none) (Nat.le_trans hz (by decide))
          · have q := k H' (sm.trans sm')
            rw [e, e3, Bool.true_and] at q
            rw [cut_drop]
            exact q
/-- value_of: a plain word's datum -/
def spValue : Sp := fun vs H Q _ => ∃ z : Str, vs = [.str z] ∧ z.length ≤ 600 ∧ isPlain z = true ∧ ∀ v H', Same H H' → Rep H' (valueOf z) v → Q v H'
theorem ok_value (T : Ctx K mg) : FnOk PW w K mg base CX0 1 963 (fdOf K 963) P_value_of spValue := by
  have F := T.fun_ r_value_of m_value_of
  obtain ⟨tN, hN⟩ := T.str (x := "NOTHING") (z := "none")
  obtain ⟨tM, hM⟩ := T.str (x := "MARK") (z := "=")
  refine F.ok sc_value_of (fun vs H Q E h => ?_) (fun cdv A outer s H vs Q E hr h => ⟨_, pss_cons (ps_if (pt_cmpR op_eq (pv 0) (pe_glob (v := .str wN) rfl hN ⟨_, rfl⟩) (nomark _)) (pss_one (ps_ret pe_non)) pss_nil)
    (pss_one (ps_ret (pe_ifExp (pt_cmpR op_eq (pe_slice sl_str (pv 0) po_none (po_some pe_int)) (pe_glob (v := .str wE) rfl hM ⟨_, rfl⟩) (nomark _)) (pe_slice sl_str (pv 0) (po_some pe_int) po_none) (pe_callTy call_int_str rfl T.free (by decide +kernel) (pa_cons (pv 0) pa_nil))))), ?_⟩)
  · obtain ⟨z, rfl, _⟩ := h
    rfl
  · obtain ⟨z, rfl, hz, hp, k⟩ := h
    have hz2 : z.length ≤ sizeLine := Nat.le_trans hz (by decide)
    have hzl : z.length = (tl z).length := len_tl z
    refine ⟨_, rfl, rfl, _, rfl, ?_⟩
    have e0 : decide (V.str z = V.str wN) = decide (z = wN) := by
      rw [Bool.eq_iff_iff]
      simp only [decide_eq_true_eq, V.str.injEq]
    rw [e0]
    by_cases e1 : z = wN
    · rw [decide_eq_true e1]
      refine iteT (k .non H (Same.refl _) ?_)
      unfold valueOf
      rw [if_pos e1]
      rfl
    · rw [decide_eq_false e1]
      refine iteF ⟨_, rfl, 1, rfl, z, rfl, hz2, rfl, _, rfl, ?_⟩
      rw [take_mark]
      have hp2 : (writtenL (tl z) || wordL (tl z)) = true := by
        have hp : (decide (z = wN) || (writtenL (tl z) || wordL (tl z))) = true := hp
        rw [decide_eq_false e1] at hp
        exact hp
      by_cases e2 : (tl z).take 1 = [61]
      · rw [decide_eq_true e2]
        refine iteT ⟨_, rfl, 1, rfl, z, rfl, hz2, k _ H (Same.refl _) ?_⟩
        unfold valueOf
        rw [if_neg e1, cut_drop]
        cases q : tl z with
        | nil => rw [q] at e2; cases e2
        | cons a r =>
          rw [q] at e2
          cases e2
          rfl
      · rw [decide_eq_false e2]
        have hw : writtenL (tl z) = true := by
          rw [← word_if, decide_eq_false e2, Bool.false_and, Bool.or_false] at hp2
          exact hp2
        have hw2 := hw
        unfold writtenL at hw2
        simp only [Bool.and_eq_true, decide_eq_true_eq] at hw2
        obtain ⟨⟨⟨w1, w2⟩, w3⟩, w4⟩ := hw2
        have hint : intText? z = some (numOf (tl z)) := by
          cases q : tl z with
          | nil =>
            rw [q] at w1
            exact absurd w1 (by decide)
          | cons a r =>
            by_cases h45 : a = 45
            · subst h45
              rw [q] at w1 w3
              have hr : r ≠ [] := fun e => by
                rw [e] at w1
                exact absurd w1 (by decide)
              exact intText_neg q (allF w3) hr (by omega)
            · have ef : figs (a :: r) = a :: r := by
                unfold figs
                split
                · rename_i e
                  cases e
                  exact absurd rfl h45
                · rfl
              rw [q, ef] at w3
              have z1 := intText_digits (x := z) (by rw [show z.cps.toList = a :: r from q]; exact allF w3) (by rw [show z.cps.toList = a :: r from q]; exact List.cons_ne_nil _ _) (by omega)
              rw [show z.cps.toList = a :: r from q] at z1
              rw [z1]
              unfold numOf
              split
              · rename_i e
                cases e
                exact absurd rfl h45
              · rfl
        refine iteF ⟨_, rfl, z, _, rfl, hint, by omega, k _ H (Same.refl _) ?_⟩
        unfold valueOf
        rw [if_neg e1]
        split
        · rename_i r q
          rw [q] at e2
          exact absurd rfl e2
        · rfl
end
end K91
set_option Elab.async false
set_option linter.all false
set_option maxRecDepth 100000
set_option maxHeartbeats 4000000
/-! K91, O: Opened, word_at, opened_at. -/
namespace K91
open PySem PySem.Spec PyProof.Rows L2 TL
def oV : Option Str → V
  | none => .non
  | some w => .str w
/-- what is opened: its object at a, its list at l -/
def RepO (H : Hp) (f : Fr) (a l : Addr) : Prop := ∃ dx xs, H a = some (.ins 1001 dx [(("word" : Str), oV f.o), (("some" : Str), .ref l)]) ∧ H l = some (.lst xs) ∧ RepL H f.ds xs
def KnF (f : Fr) : Prop := ∀ w, f.o = some w → (cnt w).isSome = true
/-- what is asked of BadText(l, i) -/
def BadT (E : XK) (H : Hp) (l i : Int) : Prop := ∀ dd H', Same H H' → H' dd = some (.xd [(("word" : Str), .int i), (("line" : Str), .int l)]) → E (.ref 182) (some dd) H'
theorem BadT.same {E : XK} {H H' : Hp} {l i : Int} (b : BadT E H l i) (s : Same H H') : BadT E H' l i := fun dd G sm h => b dd G (s.trans sm) h
theorem RepO.mono {H H' : Hp} {f : Fr} {a l : Addr} (h : Same H H') : RepO H f a l → RepO H' f a l := fun ⟨dx, xs, h1, h2, h3⟩ => ⟨dx, xs, h _ _ h1, h _ _ h2, RepL.mono (Sol.of h) _ _ h3⟩
def opK : List (Str × V) → Prop := fun _ => True
section
variable {w : World} {K : PySem.W.Frag} {mg : Str → Option Value} {base : Heap}
structure OpC (K : PySem.W.Frag) : Prop where
  cl : Cls K 1001
  nw : NoAttr K 1001 "word"
  ns : NoAttr K 1001 "some"
  mkc : Mk K 1001 977
  mr : Meth K 1001 "has_room" 984
  mw : Meth K 1001 "is_whole" 991
  mt : Meth K 1001 "told" 998
theorem Ctx.op (T : Ctx K mg) : OpC K := by
  obtain ⟨c1, c⟩ := ba T.a11
  obtain ⟨c2, c⟩ := ba c
  obtain ⟨c3, c⟩ := ba c
  obtain ⟨c4, c⟩ := ba c
  obtain ⟨c5, c⟩ := ba c
  obtain ⟨c6, c⟩ := ba c
  obtain ⟨c7, c⟩ := ba c
  obtain ⟨c8, c⟩ := ba c
  obtain ⟨c9, c10⟩ := ba c
  exact ⟨cls_of c1, noat_of c4, noat_of c5, mk_of c6, meth_of c7, meth_of c8, meth_of c9⟩
theorem op_word {o : V} {l : Addr} : ([(("word" : Str), o), (("some" : Str), V.ref l)] : List (Str × V)).lookup ("word" : Str) = some o := by
  rw [List.lookup_cons, show (("word" : Str) == ("word" : Str)) = true by decide +kernel]
theorem op_some {o : V} {l : Addr} : ([(("word" : Str), o), (("some" : Str), V.ref l)] : List (Str × V)).lookup ("some" : Str) = some (.ref l) := by
  rw [List.lookup_cons, show (("some" : Str) == ("word" : Str)) = false by decide +kernel, List.lookup_cons, show (("some" : Str) == ("some" : Str)) = true by decide +kernel]
theorem put_op (o s : V) : putF "some" s (putF "word" o []) = ([("word", o), ("some", s)] : List (Str × V)) := by
  show (if ("word" : Str) = "some" then _ else _) = _
  rw [if_neg (by decide +kernel)]
  rfl
/-- Opened.__init__ -/
def spOpInit : Sp := fun vs H Q _ => ∃ (x dx : Addr) (o : Option Str), vs = [.ref x, oV o] ∧ H x = some (.ins 1001 dx []) ∧ ∀ l H', H l = none → l ≠ x → (∀ b u, H b = some u → b ≠ x → H' b = some u) → H' x = some (.ins 1001 dx [(("word" : Str), oV o), (("some" : Str), .ref l)]) → H' l = some (.lst []) → Q .non H'
theorem ok_op_init (T : Ctx K mg) : FnOk PW w K mg base CX0 1 977 (fdOf K 977) P_Opened_init spOpInit := by
  have F := T.fun_ r_Opened_init m_Opened_init
  have C := T.op
  refine F.ok sc_Opened_init (fun vs H Q E h => ?_) (fun cdv A outer s H vs Q E hr h => ⟨_, pss_cons (ps_fld (pv 0) (pv 1) rfl) (pss_one (ps_fld (pv 0) (pe_lst pa_nil) rfl)), ?_⟩)
  · obtain ⟨x, dx, o, rfl, _⟩ := h
    rfl
  · obtain ⟨x, dx, o, rfl, hx, k⟩ := h
    refine ⟨_, rfl, _, rfl, x, 1001, dx, [], rfl, hx, C.cl, C.nw, by show 0 < 1000; decide, ?_⟩
    refine ⟨Nat.zero_le _, fun l hl => ?_⟩
    have nlx : l ≠ x := fun z => by
      rw [z, upd_same] at hl
      cases hl
    have hl0 : H l = none := by
      rw [upd_ne nlx] at hl
      exact hl
    refine ⟨_, rfl, x, 1001, dx, _, rfl, by rw [upd_ne (Ne.symm nlx), upd_same], C.cl, C.ns, by show 1 < 1000; decide, ?_⟩
    rw [put_op]
    refine k l _ hl0 nlx (fun b u e nb => ?_) upd_same (by rw [upd_ne nlx, upd_same])
    rw [upd_ne nb, upd_ne (ne_of_none e hl0), upd_ne nb]
    exact e
/-- Opened(word) -/
theorem make_op {H1 : Hp} {o : Option Str} {R : VK} {E : XK} {x dx : Addr} (hx : H1 x = none) (hdx : H1 dx = none) (ne : dx ≠ x) (k : ∀ l H', H1 l = none → Same H1 H' → RepO H' ⟨o, []⟩ x l → R .non H') :
    spOpInit (.ref x :: ([oV o] ++ [])) (upd (upd H1 dx (.own x)) x (.ins 1001 dx [])) R E := by
  have at0 : ∀ b u, H1 b = some u → upd (upd H1 dx (.own x)) x (.ins 1001 dx []) b = some u := fun b u e => by
    rw [upd_ne (ne_of_none e hx), upd_ne (ne_of_none e hdx)]
    exact e
  refine ⟨x, dx, o, rfl, upd_same, fun l H' hl nl kp h1 h2 => k l H' ?_ (fun b u e => kp b u (at0 b u e) (ne_of_none e hx)) ⟨dx, [], h1, h2, rfl⟩⟩
  rw [upd_ne nl] at hl
  cases e : H1 l with
  | none => rfl
  | some u =>
    rw [upd_ne (ne_of_none e hdx), e] at hl
    cases hl
theorem pe_mkop {X : Cx} {e : Expr} {t : TA} {p pos : Pos} (hP : X.prog = PW) (T : Ctx X.K X.mg) (hr : Room 2 X.A) (hg : Gl X "Opened") (ha : PA X [e] t) (he : starEach [e] X.env = (false, eval e X.env) :: starEach [] X.env := by rfl)
    (hpl : (backTo pos (starEach [] X.env)).any (·.1) = false := by rfl) : PE X (.Call (.Name "Opened" p) [e] [] pos) (tMake 1001 spOpInit [] E0 t) := by
  have F := ok_op_init (w := X.w) (base := X.base) T
  rw [show PW = X.prog from hP.symm] at F
  have b : Binds X.K (fdOf X.K 977) P_Opened_init [] := (T.fun_ r_Opened_init m_Opened_init).binds fun _ _ _ _ _ _ us hl => match us, hl with | [_, _], _ => rfl
  exact pe_make T.op.mkc F hr hg (T.glo (x := "Opened") (a := 1001)) b .nil pass0 ha (by decide) he hpl
/-- has_room, is_whole -/
def spOp (g : Fr → Bool) : Sp := fun vs H Q _ => ∃ (f : Fr) (a l : Addr), vs = [.ref a] ∧ RepO H f a l ∧ KnF f ∧ f.ds.length ≤ 100000 ∧ ∀ H', Same H H' → Q (.bl (g f)) H'
theorem ok_room (T : Ctx K mg) : FnOk PW w K mg base CX0 2 984 (fdOf K 984) P_Opened_has_room (spOp Fr.room) := by
  have F := T.fun_ r_Opened_has_room m_Opened_has_room
  have C := T.op
  have Fc := T.fun_ r_counts m_counts
  have bc : Binds K (fdOf K 304) P_counts [] := Fc.binds fun _ _ _ _ _ _ us hl => match us, hl with | [], _ => rfl
  refine F.ok sc_Opened_has_room (fun vs H Q E h => ?_) (fun cdv A outer s H vs Q E hr h => ⟨_, pss_one (ps_ret (pe_or (pe_cmpR op_isN (pe_fld (pv 0) rfl) pe_non (nomark _)) (pe_one (pe_cmpR op_lt (pe_callB call_len rfl T.free (by decide +kernel) (pa_cons (pe_fld (pv 0) rfl) pa_nil))
    (pe_dget (hu_of hr) (pe_call0 (ok_counts T) hr rfl T.glo Fc.kp bc .nil pass0) (pe_fld (pv 0) rfl) (fun _ _ => rfl)) (nomark _))))), ?_⟩)
  · obtain ⟨f, a, l, rfl, _⟩ := h
    rfl
  · obtain ⟨⟨o, ds⟩, a, l, rfl, hO, hk, hz, k⟩ := h
    obtain ⟨dx, xs, ha, hl, rl⟩ := hO
    refine ⟨_, rfl, a, 1001, dx, _, _, rfl, ha, C.cl, C.nw, op_word, rfl, _, rfl, ?_⟩
    cases o with
    | none => exact decT rfl (k H (Same.refl _))
    | some wd =>
      obtain ⟨n, hn⟩ := Option.isSome_iff_exists.mp (hk wd rfl)
      refine decF (fun z => by cases z) ⟨_, rfl, a, 1001, dx, _, _, rfl, ha, C.cl, C.ns, op_some, _, _, rfl, .inl ⟨xs, SqL.of hl, rfl⟩, rfl, fun p G hp sm hc => ⟨_, rfl, a, 1001, dx, _, _, rfl, sm _ _ ha, C.cl, C.nw, op_word, p, V.int n, rfl, ?_, _, _, rfl, rfl, ?_⟩⟩
      · have z := DGet.k (k := Sum.inr wd) hc
        rw [ctab_val, hn] at z
        exact z
      · have e : decide (((xs.length : Nat) : Int) < (n : Int)) = (⟨some wd, ds⟩ : Fr).room := by
          show _ = decide (ds.length < (cnt wd).getD 0)
          rw [hn, RepL.len rl, Bool.eq_iff_iff]
          simp only [decide_eq_true_eq, Option.getD_some]
          omega
        show Q (.bl (decide (((xs.length : Nat) : Int) < (n : Int)))) G
        rw [e]
        exact k G sm
theorem ok_whole (T : Ctx K mg) : FnOk PW w K mg base CX0 2 991 (fdOf K 991) P_Opened_is_whole (spOp Fr.whole) := by
  have F := T.fun_ r_Opened_is_whole m_Opened_is_whole
  have C := T.op
  have Fc := T.fun_ r_counts m_counts
  have bc : Binds K (fdOf K 304) P_counts [] := Fc.binds fun _ _ _ _ _ _ us hl => match us, hl with | [], _ => rfl
  refine F.ok sc_Opened_is_whole (fun vs H Q E h => ?_) (fun cdv A outer s H vs Q E hr h => ⟨_, pss_one (ps_ret (pe_or (pe_cmpR op_isN (pe_fld (pv 0) rfl) pe_non (nomark _)) (pe_one (pe_cmpR op_eq (pe_callB call_len rfl T.free (by decide +kernel) (pa_cons (pe_fld (pv 0) rfl) pa_nil))
    (pe_dget (hu_of hr) (pe_call0 (ok_counts T) hr rfl T.glo Fc.kp bc .nil pass0) (pe_fld (pv 0) rfl) (fun _ _ => rfl)) (nomark _))))), ?_⟩)
  · obtain ⟨f, a, l, rfl, _⟩ := h
    rfl
  · obtain ⟨⟨o, ds⟩, a, l, rfl, hO, hk, hz, k⟩ := h
    obtain ⟨dx, xs, ha, hl, rl⟩ := hO
    refine ⟨_, rfl, a, 1001, dx, _, _, rfl, ha, C.cl, C.nw, op_word, rfl, _, rfl, ?_⟩
    cases o with
    | none => exact decT rfl (k H (Same.refl _))
    | some wd =>
      obtain ⟨n, hn⟩ := Option.isSome_iff_exists.mp (hk wd rfl)
      refine decF (fun z => by cases z) ⟨_, rfl, a, 1001, dx, _, _, rfl, ha, C.cl, C.ns, op_some, _, _, rfl, .inl ⟨xs, SqL.of hl, rfl⟩, rfl, fun p G hp sm hc => ⟨_, rfl, a, 1001, dx, _, _, rfl, sm _ _ ha, C.cl, C.nw, op_word, p, V.int n, rfl, ?_, rfl, ?_⟩⟩
      · have z := DGet.k (k := Sum.inr wd) hc
        rw [ctab_val, hn] at z
        exact z
      · have e : decide (V.int (xs.length : Nat) = V.int (n : Nat)) = (⟨some wd, ds⟩ : Fr).whole := by
          show _ = decide (ds.length = (cnt wd).getD 0)
          rw [hn, RepL.len rl, Bool.eq_iff_iff]
          simp only [decide_eq_true_eq, V.int.injEq, Option.getD_some]
          omega
        rw [e]
        exact k G sm
/-- told -/
def spToldO (n : Nat) : Sp := fun vs H Q _ => ∃ (f : Fr) (a l : Addr), vs = [.ref a] ∧ RepO H f a l ∧ KnF f ∧ f.whole = true ∧ szL f.ds < 100000 ∧ depL f.ds < n ∧ ∀ v H', Same H H' → Rep H' f.told v → Q v H'
theorem ok_toldO (T : Ctx K mg) (n : Nat) : FnOk PW w K mg base CX0 (n + 8) 998 (fdOf K 998) P_Opened_told (spToldO n) := by
  have F := T.fun_ r_Opened_told m_Opened_told
  have C := T.op
  have Fm := T.fun_ r_made_paper m_made_paper
  have bm : Binds K (fdOf K 946) P_made_paper [] := Fm.binds fun _ _ _ _ _ _ us hl => match us, hl with | [_, _], _ => rfl
  refine F.ok sc_Opened_told (fun vs H Q E h => ?_) (fun cdv A outer s H vs Q E hr h => ⟨_, pss_one (ps_ret (pe_ifExp (pt_cmpR op_isN (pe_fld (pv 0) rfl) pe_non (nomark _)) (pe_callTy call_tuple_of rfl T.free (by decide +kernel) (pa_cons (pe_fld (pv 0) rfl) pa_nil))
    (pe_call (ok_made_paper T n) hr rfl T.glo Fm.kp bm .nil pass0 (pa_cons (pe_fld (pv 0) rfl) (pa_cons (pe_fld (pv 0) rfl) pa_nil))))), ?_⟩)
  · obtain ⟨f, a, l, rfl, _⟩ := h
    rfl
  · obtain ⟨⟨o, ds⟩, a, l, rfl, hO, hk, hw, hz, hd, k⟩ := h
    obtain ⟨dx, xs, ha, hl, rl⟩ := hO
    refine ⟨_, rfl, a, 1001, dx, _, _, rfl, ha, C.cl, C.nw, op_word, rfl, _, rfl, ?_⟩
    cases o with
    | none =>
      refine decT rfl ⟨_, rfl, a, 1001, dx, _, _, rfl, ha, C.cl, C.ns, op_some, l, xs, rfl, .inl ⟨SqL.of hl, fun p hp => ?_⟩⟩
      exact k _ _ (same_new hp) ⟨p, xs, rfl, upd_same, RepL.mono (Sol.new hp) _ _ rl⟩
    | some wd =>
      obtain ⟨m, hm⟩ := Option.isSome_iff_exists.mp (hk wd rfl)
      have hw : decide (ds.length = (cnt wd).getD 0) = true := hw
      have hw2 : ds.length = m := by
        have z := of_decide_eq_true hw
        rw [hm] at z
        exact z
      refine decF (fun z => by cases z) ⟨_, rfl, a, 1001, dx, _, _, rfl, ha, C.cl, C.nw, op_word, _, rfl, a, 1001, dx, _, _, rfl, ha, C.cl, C.ns, op_some, wd, ds, l, xs, rfl, SqL.of hl, rl, by rw [hm, hw2], True.intro, hz, hd, k⟩
/-! ### word_at, opened_at -/
def spWordAt (K : PySem.W.Frag) : Sp := fun vs H Q E => ∃ (wl : Addr) (ws : List Str) (i : Nat), vs = [.ref wl, .int i] ∧ SqL K H wl (ws.map V.str) ∧ ws.length ≤ 10000 ∧ i ≤ 20000 ∧ (∀ x, ws[i]? = some x → Q (.str x) H) ∧ (ws[i]? = none → BadT E H 0 i)
theorem badT_of {E : XK} {H : Hp} {l i : Int} (b : BadT E H l i) : ∀ d H', H d = none → H' d = some (.xd [(("word" : Str), V.int i), (("line" : Str), V.int l)]) → (∀ b, b ≠ d → H' b = H b) → E (.ref 182) (some d) H' := fun d H' h1 h2 h3 => b d H' (same_but h1 h3) h2
theorem mono_op {r : R2} {ta tb : TE} (h1 : Mono ta) (h2 : Mono tb) (hr : ∀ x y H (Q Q' : VK), (∀ v H, Q v H → Q' v H) → r x y H Q → r x y H Q') : Mono (tOp r ta tb) := fun σ H Q Q' k h => h1 _ _ _ _ (fun v H1 z => h2 _ _ _ _ (fun v H2 z => hr _ _ _ _ _ k z) z) h
theorem mono_add : ∀ x y H (Q Q' : VK), (∀ v H, Q v H → Q' v H) → rI0 (fun i j => .int (i + j)) x y H Q → rI0 (fun i j => .int (i + j)) x y H Q' := fun x y H Q Q' k ⟨i, j, e1, e2, q⟩ => ⟨i, j, e1, e2, k _ _ q⟩
theorem atI_str {ws : List Str} {i : Nat} {x : Str} (h : ws[i]? = some x) : atI (ws.map V.str) (i : Int) = some (.str x) := atI_nat (by rw [List.getElem?_map, h]; rfl)
theorem ok_word_at (T : Ctx K mg) : FnOk PW w K mg base (L2.CX PW w) 3 1012 (fdOf K 1012) P_word_at (spWordAt K) := by
  have F := T.fun_ r_word_at m_word_at
  refine F.okX sc_word_at (fun vs H Q E h => ?_) (fun cdv A outer s H vs Q E hr h => ⟨_, pss_cons (ps_if (pt_cmpR op_ge (pv 1) (pe_callB call_len rfl T.free (by decide +kernel) (pa_cons (pv 0) pa_nil)) (nomark _)) (pss_one (ps_raise rfl takesD (pmk_text rfl T mono_c mono_var hr rfl (pa_cons pe_int (pa_cons (pv 1) pa_nil))))) pss_nil)
    (pss_one (ps_ret (pe_ix ix_list (pv 0) (pv 1) (fun _ _ => rfl)))), ?_⟩)
  · obtain ⟨wl, ws, i, rfl, _⟩ := h
    rfl
  · obtain ⟨wl, ws, i, rfl, hs, hl, hi, k1, k2⟩ := h
    have hlm : (ws.map V.str).length = ws.length := List.length_map _
    refine ⟨_, rfl, _, rfl, _, _, rfl, .inl ⟨_, hs, rfl⟩, _, _, rfl, rfl, _, rfl, ?_⟩
    rw [hlm]
    by_cases h : i < ws.length
    · rw [decide_eq_false (show ¬ ((ws.length : Nat) : Int) ≤ (i : Int) by omega)]
      exact iteF ⟨_, rfl, _, rfl, wl, _, _, _, rfl, rfl, hs, atI_str (List.getElem?_eq_getElem h), k1 _ (List.getElem?_eq_getElem h)⟩
    · rw [decide_eq_true (show ((ws.length : Nat) : Int) ≤ (i : Int) by omega)]
      exact iteT ⟨_, rfl, badT_of (k2 (List.getElem?_eq_none (by omega)))⟩
def spOpenAt (K : PySem.W.Frag) : Sp := fun vs H Q E => ∃ (wl : Addr) (ws : List Str) (i : Nat) (first : Bool), vs = [.ref wl, .int i, .bl first] ∧ SqL K H wl (ws.map V.str) ∧ ws.length ≤ 10000 ∧ i ≤ 10000 ∧
  (match openAt ws i first with
  | .bad j => BadT E H 0 j
  | .nope => ∀ t H', Same H H' → H' t = some (.tup [.non, .int i]) → Q (.ref t) H'
  | .opened o j => ∀ t a l H', Same H H' → H a = none → H l = none → H' t = some (.tup [.ref a, .int j]) → RepO H' ⟨o, []⟩ a l → Q (.ref t) H')
theorem ok_open_at (T : Ctx K mg) : FnOk PW w K mg base (L2.CX PW w) 4 1019 (fdOf K 1019) P_opened_at (spOpenAt K) := by
  have F := T.fun_ r_opened_at m_opened_at
  have Fc := T.fun_ r_counts m_counts
  have bc : Binds K (fdOf K 304) P_counts [] := Fc.binds fun _ _ _ _ _ _ us hl => match us, hl with | [], _ => rfl
  have Fw := T.fun_ r_word_at m_word_at
  have bw : Binds K (fdOf K 1012) P_word_at [] := Fw.binds fun _ _ _ _ _ _ us hl => match us, hl with | [_, _], _ => rfl
  obtain ⟨tO, hO⟩ := T.str (x := "OPEN") (z := "(")
  refine F.okX sc_opened_at (fun vs H Q E h => ?_) (fun cdv A outer s H vs Q E hr h => ⟨_, pss_cons (ps_asg (pe_call (ok_word_at T) hr rfl T.glo Fw.kp bw .nil (passes_call takesD fun _ _ _ _ h => h) (pa_cons (pv 0) (pa_cons (pv 1) pa_nil))) (pg_name (i := 3) sc_opened_at.nd rfl (Or.inl rfl)))
    (pss_cons (ps_if (pt_cmp (pc_din (hu_of hr) (pv 3) (pe_call0 (ok_counts T) (hr.mono (by decide)) rfl T.glo Fc.kp bc .nil pass0)))
      (pss_cons (ps_if (pt_cmpR op_ne (pe_call (ok_word_at T) hr rfl T.glo Fw.kp bw .nil (passes_call takesD fun _ _ _ _ h => h) (pa_cons (pv 0) (pa_cons (pe_op op_add (pv 1) pe_int) pa_nil))) (pe_glob (v := .str wO) rfl hO ⟨_, rfl⟩) (nomark _))
        (pss_one (ps_raise rfl takesD (pmk_text rfl T mono_c (mono_op mono_var mono_c mono_add) (hr.mono (by decide)) rfl (pa_cons pe_int (pa_cons (pe_op op_add (pv 1) pe_int) pa_nil))))) pss_nil)
      (pss_one (ps_ret (pe_tup (pa_cons (pe_mkop rfl T (hr.mono (by decide)) rfl (pa_cons (pv 3) pa_nil)) (pa_cons (pe_op op_add (pv 1) pe_int) pa_nil)))))) pss_nil)
    (pss_one (ps_ret (pe_ifExp (PW.pt (pw_and (pt_cmpR op_eq (pv 3) (pe_glob (v := .str wO) rfl hO ⟨_, rfl⟩) (nomark _)) (pw_and1 (pt_not (pt_val (pv 2))))))
      (pe_tup (pa_cons (pe_mkop rfl T (hr.mono (by decide)) rfl (pa_cons pe_non pa_nil)) (pa_cons (pe_op op_add (pv 1) pe_int) pa_nil))) (pe_tup (pa_cons pe_non (pa_cons (pv 1) pa_nil))))))), ?_⟩)
  · obtain ⟨wl, ws, i, first, rfl, _⟩ := h
    rfl
  · obtain ⟨wl, ws, i, first, rfl, hs, hl, hi, k⟩ := h
    refine ⟨_, rfl, _, rfl, wl, ws, i, rfl, hs, hl, by omega, fun x hx => ?_, fun hx => ?_⟩
    · refine ⟨_, rfl, rfl, fun p G hp sm hc => ⟨p, _, rfl, DGet.k (k := Sum.inr x) hc, _, rfl, ?_⟩⟩
      rw [ctab_val]
      cases hcn : cnt x with
      | none =>
        have e : openAt ws i first = if x = wO ∧ first = false then .opened none (i + 1) else .nope := openAt_else hx (by rw [hcn]; exact Bool.false_ne_true)
        rw [e] at k
        refine iteF ⟨_, rfl, rfl, _, rfl, ?_⟩
        have e0 : decide (V.str x = V.str wO) = decide (x = wO) := by
          rw [Bool.eq_iff_iff]
          simp only [decide_eq_true_eq, V.str.injEq]
        rw [e0]
        have nope : (∀ t H', Same H H' → H' t = some (.tup [.non, .int i]) → Q (.ref t) H') → ∃ v, (([some (V.ref wl), some (V.int i), some (V.bl first), some (V.str x)] : L2.St)[1]? = some (some v)) ∧ [V.non, v].length ≤ sizeLine ∧ ∀ p, G p = none → Q (.ref p) (upd G p (.tup [V.non, v])) := fun z =>
          ⟨_, rfl, by show 2 ≤ sizeLine; decide, fun t ht => z t _ (sm.trans (same_new ht)) upd_same⟩
        by_cases h1 : x = wO
        · rw [decide_eq_true h1]
          cases first with
          | true =>
            rw [if_neg (fun z => by cases z.2)] at k
            exact iteT ⟨_, rfl, _, rfl, iteF (nope k)⟩
          | false =>
            rw [if_pos ⟨h1, rfl⟩] at k
            refine iteT ⟨_, rfl, _, rfl, iteT fun a dx ha hdx ne => make_op (o := none) ha hdx ne fun l G2 hl2 sm2 hO2 => ⟨rfl, _, rfl, _, _, rfl, rfl, by show 2 ≤ sizeLine; decide, fun t ht => ?_⟩⟩
            exact k t a l _ ((sm.trans sm2).trans (same_new ht)) (sm.free ha) (sm.free hl2) upd_same (RepO.mono (same_new ht) hO2)
        · rw [decide_eq_false h1]
          rw [if_neg (fun z => h1 z.1)] at k
          exact iteF (iteF (nope k))
      | some n =>
        have e := openAt_named (b := first) hx (by rw [hcn]; rfl)
        rw [e] at k
        refine iteT ⟨_, rfl, _, rfl, _, _, rfl, rfl, wl, ws, i + 1, rfl, ?_, hl, by omega, fun y hy => ?_, fun hy => ?_⟩
        · exact sm.seq hs
        · rw [hy] at k
          have e0 : decide (V.str y = V.str wO) = decide (y = wO) := by
            rw [Bool.eq_iff_iff]
            simp only [decide_eq_true_eq, V.str.injEq]
          refine ⟨rfl, _, rfl, ?_⟩
          rw [e0]
          by_cases h1 : y = wO
          · have k2 : ∀ t a l H', Same H H' → H a = none → H l = none → H' t = some (.tup [.ref a, .int ((i + 2 : Nat) : Int)]) → RepO H' ⟨some x, []⟩ a l → Q (.ref t) H' := by
              simp only [if_pos h1] at k
              exact k
            rw [decide_eq_true h1]
            refine iteF ⟨V.str x, rfl, fun a dx ha hdx ne => make_op (o := some x) ha hdx ne fun l G2 hl2 sm2 hO2 => ⟨rfl, _, rfl, _, _, rfl, rfl, by show 2 ≤ sizeLine; decide, fun t ht => ?_⟩⟩
            exact k2 t a l _ ((sm.trans sm2).trans (same_new ht)) (sm.free ha) (sm.free hl2) upd_same (RepO.mono (same_new ht) hO2)
          · have k2 : BadT E H 0 ((i + 1 : Nat) : Int) := by
              simp only [if_neg h1] at k
              exact k
            rw [decide_eq_false h1]
            exact iteT ⟨_, rfl, _, _, rfl, rfl, badT_of (k2.same sm)⟩
        · rw [hy] at k
          have k2 : BadT E H 0 ((i + 1 : Nat) : Int) := k
          exact k2.same sm
    · have e : openAt ws i first = .bad i := by
        unfold openAt
        rw [hx]
      rw [e] at k
      exact k
end
end K91
set_option Elab.async false
set_option linter.all false
set_option maxRecDepth 100000
set_option maxHeartbeats 4000000
/-! K91, AA: read_paper. -/
namespace K91
open PySem PySem.Spec PyProof.Rows L2 TL
mutual
theorem dep_sz : ∀ d : D, d.dep ≤ d.sz
  | .tup ds => Nat.succ_le_succ (dep_szL ds)
  | .pap w ds => Nat.zero_le _
  | .non => Nat.zero_le _
  | .int _ => Nat.zero_le _
  | .str _ => Nat.zero_le _
  | .bl _ => Nat.zero_le _
  | .dct => Nat.zero_le _
theorem dep_szL : ∀ ds : List D, depL ds ≤ szL ds
  | [] => Nat.le_refl _
  | d :: ds => by
    have h1 := dep_sz d
    have h2 := dep_szL ds
    show max d.dep (depL ds) ≤ d.sz + szL ds
    omega
end
/-- the stack on the heap, the top first -/
def RepT (G : Hp) : List Fr → List Addr → List Addr → Prop
  | [], as, ls => as = [] ∧ ls = []
  | f :: st, as, ls => ∃ a as' l ls', as = a :: as' ∧ ls = l :: ls' ∧ RepO G f a l ∧ RepT G st as' ls'
def szF : List Fr → Nat
  | [] => 0
  | f :: st => szL f.ds + 1 + szF st
theorem RepO.upd {G : Hp} {f : Fr} {a l x : Addr} {us ys : List V} (h : RepO G f a l) (hx : G x = some (.lst us)) (n : x ≠ l) : RepO (upd G x (.lst ys)) f a l := by
  obtain ⟨dx, xs, h1, h2, h3⟩ := h
  have nax : a ≠ x := fun z => by
    rw [z, hx] at h1
    cases h1
  exact ⟨dx, xs, by rw [upd_ne nax]; exact h1, by rw [upd_ne (Ne.symm n)]; exact h2, RepL.mono (Sol.mut hx lst_not) _ _ h3⟩
theorem RepT.upd {G : Hp} {x : Addr} {us ys : List V} (hx : G x = some (.lst us)) : ∀ {st : List Fr} {as ls : List Addr}, x ∉ ls → RepT G st as ls → RepT (upd G x (.lst ys)) st as ls
  | [], _, _, _, h => h
  | f :: st, _, _, n, ⟨a, as', l, ls', e1, e2, h, k⟩ => by
    rw [e2] at n
    exact ⟨a, as', l, ls', e1, e2, RepO.upd h hx (fun z => n (by rw [z]; exact List.mem_cons_self)), RepT.upd hx (fun z => n (List.mem_cons_of_mem _ z)) k⟩
theorem RepT.same {G G' : Hp} (s : Same G G') : ∀ {st : List Fr} {as ls : List Addr}, RepT G st as ls → RepT G' st as ls
  | [], _, _, h => h
  | f :: st, _, _, ⟨a, as', l, ls', e1, e2, h, k⟩ => ⟨a, as', l, ls', e1, e2, RepO.mono s h, RepT.same s k⟩
theorem RepT.there {G : Hp} : ∀ {st : List Fr} {as ls : List Addr}, RepT G st as ls → ∀ l ∈ ls, ∃ xs, G l = some (.lst xs)
  | [], _, _, ⟨_, e⟩, l, hl => by
    rw [e] at hl
    exact absurd hl List.not_mem_nil
  | f :: st, _, _, ⟨a, as', l', ls', e1, e2, ⟨dx, xs, h1, h2, h3⟩, k⟩, l, hl => by
    rw [e2] at hl
    rcases List.mem_cons.mp hl with z | hl
    · rw [z]
      exact ⟨xs, h2⟩
    · exact RepT.there k l hl
theorem none_bad {ws : List Str} {n i : Nat} {top : Fr} {rest : List Fr} (h : ws[i]? = none) : ofRun ws (runR ws n (top :: rest) i) = .bad i := by
  cases n with
  | zero => rfl
  | succ n =>
    have e : stepR ws top rest i = .bad i := by
      unfold stepR
      rw [h]
    show ofRun ws (match stepR ws top rest i with
      | .go st' i' => runR ws n st' i'
      | r => r) = _
    rw [e]
    rfl
/-- the state of the loop -/
def RInv (H0 : Hp) (z : Str) (ws lns : List Str) (R0 : Rd) (lL wl ln a0 : Addr) (n : Nat) (σ : L2.St) (G : Hp) : Prop := ∃ (st : List Fr) (as ls : List Addr) (i : Nat) (o1 o2 o3 o4 : Option V),
  σ = [some (.str z), some (.ref lL), some (.ref wl), some (.ref a0), some (.int i), some (.ref ln), o1, o2, o3, o4] ∧ RepT G st as ls ∧ ls.Nodup ∧ ln ∉ ls ∧ wl ∉ ls ∧ lL ∉ ls ∧ (∀ l ∈ ls, H0 l = none) ∧ G ln = some (.lst (as.map V.ref).reverse) ∧ G wl = some (.lst (ws.map V.str)) ∧ G lL = some (.lst (lns.map V.str)) ∧
  st ≠ [] ∧ as.getLast? = some a0 ∧ Same H0 G ∧ (∀ f ∈ st, KnF f) ∧ szF st ≤ i ∧ i ≤ ws.length ∧ ofRun ws (runR ws n st i) = R0 ∧ ws.length ≤ n + i
/-- .. behind it -/
def RFin (H0 : Hp) (z : Str) (ws lns : List Str) (R0 : Rd) (lL wl ln a0 : Addr) (σ : L2.St) (G : Hp) : Prop := ∃ (f : Fr) (l : Addr) (i : Nat) (o1 o2 o3 o4 : Option V),
  σ = [some (.str z), some (.ref lL), some (.ref wl), some (.ref a0), some (.int i), some (.ref ln), o1, o2, o3, o4] ∧ RepO G f a0 l ∧ G wl = some (.lst (ws.map V.str)) ∧ G lL = some (.lst (lns.map V.str)) ∧
  Same H0 G ∧ KnF f ∧ f.whole = true ∧ szL f.ds ≤ i ∧ i ≤ ws.length ∧ ofRun ws (.fin f.told i) = R0
theorem at_last {α : Type} (xs : List α) (x : α) : atI (xs ++ [x]) (-1) = some x := by
  have h1 : ixN (xs ++ [x]).length (-1 : Int) = some xs.length := by
    unfold ixN
    rw [if_neg (by decide), if_pos (by rw [List.length_append, List.length_singleton]; omega)]
    congr 1
    rw [List.length_append, List.length_singleton]
    omega
  unfold atI
  rw [h1]
  show (xs ++ [x])[xs.length]? = some x
  simp
theorem at_lastR {a : Addr} {as : List Addr} : atI ((a :: as).map V.ref).reverse (-1) = some (.ref a) := by
  rw [List.map_cons, List.reverse_cons]
  exact at_last _ _
theorem last_revR {a : Addr} {as : List Addr} : ((a :: as).map V.ref).reverse[((a :: as).map V.ref).reverse.length - 1]? = some (.ref a) ∧ ((a :: as).map V.ref).reverse.dropLast = (as.map V.ref).reverse := by
  rw [List.map_cons]
  exact last_rev
theorem op_none {o s : V} : ∀ m ∈ ([("has_room" : Str), ("is_whole" : Str), ("told" : Str)] : List Str), ([(("word" : Str), o), (("some" : Str), s)] : List (Str × V)).lookup m = none := by
  intro m hm
  rw [List.lookup_cons, List.lookup_cons]
  rcases List.mem_cons.mp hm with rfl | hm
  · rw [show (("has_room" : Str) == ("word" : Str)) = false by decide +kernel, show (("has_room" : Str) == ("some" : Str)) = false by decide +kernel] <;> rfl
  rcases List.mem_cons.mp hm with rfl | hm
  · rw [show (("is_whole" : Str) == ("word" : Str)) = false by decide +kernel, show (("is_whole" : Str) == ("some" : Str)) = false by decide +kernel] <;> rfl
  rcases List.mem_cons.mp hm with rfl | hm
  · rw [show (("told" : Str) == ("word" : Str)) = false by decide +kernel, show (("told" : Str) == ("some" : Str)) = false by decide +kernel] <;> rfl
  · exact absurd hm List.not_mem_nil
theorem opened_is {ws : List Str} {i : Nat} {b : Bool} {o : Option Str} {j : Nat} (h : openAt ws i b = .opened o j) : (∀ w, o = some w → (cnt w).isSome = true) ∧ i < j ∧ j ≤ ws.length := by
  cases e : ws[i]? with
  | none =>
    unfold openAt at h
    rw [e] at h
    cases h
  | some w =>
    have hi := get_lt e
    by_cases hn : (cnt w).isSome = true
    · rw [openAt_named e hn] at h
      cases e2 : ws[i + 1]? with
      | none => rw [e2] at h; cases h
      | some x =>
        rw [e2] at h
        have hi2 := get_lt e2
        by_cases hx : x = wO
        · simp only [if_pos hx] at h
          cases h
          exact ⟨fun w' e' => (by cases e'; exact hn), by omega, by omega⟩
        · simp only [if_neg hx] at h
          cases h
    · rw [openAt_else e hn] at h
      by_cases hx : w = wO ∧ b = false
      · rw [if_pos hx] at h
        cases h
        exact ⟨fun w' e' => (by cases e'), by omega, by omega⟩
      · rw [if_neg hx] at h
        cases h
theorem and_read {tA tB : TT} {σ : L2.St} {G : Hp} {Q : Bool → Hp → Prop} {p wh : Bool} (hA : ∀ R : Bool → Hp → Prop, R p G → tA σ G R) (hB : ∀ R : Bool → Hp → Prop, (∀ G', Same G G' → R wh G') → tB σ G R) (k : ∀ G', Same G G' → Q (p && wh) G') : tAnd tA tB σ G Q := by
  refine hA _ ?_
  cases p with
  | true => exact iteT (hB _ fun G' s => by rw [← Bool.true_and wh]; exact k G' s)
  | false => exact iteF (k G (Same.refl _))
theorem iteNT {c A B : Prop} [Decidable c] (hc : ¬ c) (h : A) : if (!decide c) = true then A else B := by
  rw [decide_eq_false hc]
  exact iteT h
theorem RepT.len {G : Hp} : ∀ {st : List Fr} {as ls : List Addr}, RepT G st as ls → as.length = st.length
  | [], _, _, ⟨e, _⟩ => by rw [e] <;> rfl
  | f :: st, _, _, ⟨a, as', l, ls', e1, e2, h, k⟩ => by
    rw [e1, List.length_cons, List.length_cons, RepT.len k]
theorem szF_len : ∀ st : List Fr, st.length ≤ szF st
  | [] => Nat.le_refl _
  | f :: st => by
    have z := szF_len st
    show st.length + 1 ≤ szL f.ds + 1 + szF st
    omega
theorem step_rest {ws : List Str} {i : Nat} {top : Fr} {rest : List Fr} {x : Str} (hx : ws[i]? = some x) (hn : ¬ (x = wC ∧ top.whole = true)) : stepR ws top rest i = if top.room = false then .bad i else onOpen top rest i x (openAt ws i false) := by
  unfold stepR
  rw [hx]
  exact if_neg hn
theorem szL_snoc (ds : List D) (d : D) : szL (ds ++ [d]) = szL ds + d.sz := by
  rw [szL_append]
  simp [szL]
theorem told_sz (f : Fr) : f.told.sz = szL f.ds + 1 := by
  unfold Fr.told
  split <;> rfl
theorem value_sz (w : Str) : (valueOf w).sz = 1 := by
  unfold valueOf
  split
  · rfl
  · split <;> rfl
def NL : Str := "\n"
def SPC : Str := " "
/-- read_paper: a text in lines, the first of them in words -/
def spRead : Sp := fun vs H Q E => ∃ (d : D) (v : V), vs = [v] ∧ Rep H d v ∧ (match d with
  | .str z => ∃ (l0 : Str) (more ws : List Str), Txt.split z NL = l0 :: more ∧ Txt.split l0 SPC = ws ∧ z.length ≤ 100000 ∧ l0.length ≤ 100000 ∧ ws.length ≤ 200 ∧ more.length ≤ 1000 ∧ (∀ x ∈ ws, x.length ≤ 600) ∧
      (match readW ws with
      | .bad k => BadT E H 0 k
      | .ok d => if more = [] then ∀ v H', Same H H' → Rep H' d v → Q v H' else BadT E H 1 0)
  | _ => BadT E H 0 0)
section
variable {w : World} {K : PySem.W.Frag} {mg : Str → Option Value} {base : Heap}
theorem ok_read (T : Ctx K mg) : FnOk PW w K mg base (L2.CX PW w) 219 1026 (fdOf K 1026) P_read_paper spRead := by
  have F := T.fun_ r_read_paper m_read_paper
  have C := T.op
  have Fo := T.fun_ r_opened_at m_opened_at
  have bo : Binds K (fdOf K 1019) P_opened_at [] := Fo.binds fun _ _ _ _ _ _ us hl => match us, hl with | [_, _, _], _ => rfl
  have Fw := T.fun_ r_word_at m_word_at
  have bw : Binds K (fdOf K 1012) P_word_at [] := Fw.binds fun _ _ _ _ _ _ us hl => match us, hl with | [_, _], _ => rfl
  have Fp := T.fun_ r_is_plain m_is_plain
  have bp : Binds K (fdOf K 956) P_is_plain [] := Fp.binds fun _ _ _ _ _ _ us hl => match us, hl with | [_], _ => rfl
  have Fv := T.fun_ r_value_of m_value_of
  have bv : Binds K (fdOf K 963) P_value_of [] := Fv.binds fun _ _ _ _ _ _ us hl => match us, hl with | [_], _ => rfl
  have br : Binds K (fdOf K 984) P_Opened_has_room [] := (T.fun_ r_Opened_has_room m_Opened_has_room).binds fun _ _ _ _ _ _ us hl => match us, hl with | [_], _ => rfl
  have bh : Binds K (fdOf K 991) P_Opened_is_whole [] := (T.fun_ r_Opened_is_whole m_Opened_is_whole).binds fun _ _ _ _ _ _ us hl => match us, hl with | [_], _ => rfl
  have bt : Binds K (fdOf K 998) P_Opened_told [] := (T.fun_ r_Opened_told m_Opened_told).binds fun _ _ _ _ _ _ us hl => match us, hl with | [_], _ => rfl
  obtain ⟨tC', hC⟩ := T.str (x := "CLOSE") (z := ")")
  refine F.okX sc_read_paper (fun vs H Q E h => ?_) (fun cdv A outer s H vs Q E hr h => ⟨_, pss_cons (ps_if (pt_not (pt_val (pe_callB call_isi rfl T.free (by decide +kernel) (pa_cons (pv 0) (pa_cons (pe_bltn (v := .ty "str") rfl T.free (by decide +kernel) rfl) pa_nil))))) (pss_one (ps_raise rfl takesD (pmk_text rfl T mono_c mono_c (hr.mono (by decide)) rfl (pa_cons pe_int (pa_cons pe_int pa_nil))))) pss_nil)
    (pss_cons (ps_asg (pe_split (pv 0) pe_str) (pg_name (i := 1) sc_read_paper.nd rfl (Or.inl rfl)))
    (pss_cons (ps_asg (pe_split (pe_ix ix_list (pv 1) pe_int (fun _ _ => rfl)) pe_str) (pg_name (i := 2) sc_read_paper.nd rfl (Or.inl rfl)))
    (pss_cons (ps_asg (pe_call (ok_open_at T) (hr.mono (by decide)) rfl T.glo Fo.kp bo .nil (passes_call takesD fun _ _ _ _ h => h) (pa_cons (pv 2) (pa_cons pe_int (pa_cons pe_bl pa_nil)))) (pg_tup rfl (pgs_cons (pg_name (i := 3) sc_read_paper.nd rfl (Or.inl rfl)) (pgs_cons (pg_name (i := 4) sc_read_paper.nd rfl (Or.inl rfl)) pgs_nil))))
    (pss_cons (ps_if (pt_cmpR op_isN (pv 3) pe_non (nomark _)) (pss_one (ps_raise rfl takesD (pmk_text rfl T mono_c mono_c (hr.mono (by decide)) rfl (pa_cons pe_int (pa_cons pe_int pa_nil))))) pss_nil)
    (pss_cons (ps_asg (pe_lst (pa_cons (pv 3) pa_nil)) (pg_name (i := 5) sc_read_paper.nd rfl (Or.inl rfl)))
    (pss_cons (ps_while (passes_of (K := fun e s'' => L2.CX PW w outer H s E e s'') rfl) (pt_val pe_bl)
      (pss_cons (ps_par rfl sc_read_paper.nd (i := 6) (j := 7) rfl rfl (by decide) rfl rfl (pa_cons (pe_ix ix_list (pv 5) (pe_un un_neg pe_int) (fun _ _ => rfl)) (pa_cons (pe_call (ok_word_at T) (hr.mono (by decide)) rfl T.glo Fw.kp bw .nil (passes_call takesD fun _ _ _ _ h => h) (pa_cons (pv 2) (pa_cons (pv 4) pa_nil))) pa_nil)) rfl)
      (pss_cons (ps_if (PW.pt (pw_and (pt_cmpR op_eq (pv 7) (pe_glob (v := .str wC) rfl hC ⟨_, rfl⟩) (nomark _)) (pw_and1 (pt_val (pe_meth0 (pv 6) C.cl C.mw (ok_whole T) (hr.mono (by decide)) bh .nil pass0)))))
        (pss_cons (ps_expr (pe_lpop (pv 5)))
        (pss_cons (ps_asg (pe_op op_add (pv 4) pe_int) (pg_name (i := 4) sc_read_paper.nd rfl (Or.inl rfl)))
        (pss_cons (ps_if (pt_cmpR (op_eqE (Nat.lt_of_le_of_lt (Nat.le_add_right _ _) hr.units)) (pv 5) (pe_lst pa_nil) (nomark _)) (pss_one ps_break) pss_nil)
        (pss_cons (ps_expr (pe_lapp (pe_fld (pe_ix ix_list (pv 5) (pe_un un_neg pe_int) (fun _ _ => rfl)) rfl) (pe_meth0 (pv 6) C.cl C.mt (ok_toldO T 210) hr bt .nil pass0)))
        (pss_one ps_continue))))) pss_nil)
      (pss_cons (ps_if (pt_not (pt_val (pe_meth0 (pv 6) C.cl C.mr (ok_room T) (hr.mono (by decide)) br .nil pass0))) (pss_one (ps_raise rfl takesD (pmk_text rfl T mono_c mono_var (hr.mono (by decide)) rfl (pa_cons pe_int (pa_cons (pv 4) pa_nil))))) pss_nil)
      (pss_cons (ps_asg (pe_call (ok_open_at T) (hr.mono (by decide)) rfl T.glo Fo.kp bo .nil (passes_call takesD fun _ _ _ _ h => h) (pa_cons (pv 2) (pa_cons (pv 4) (pa_cons pe_bl pa_nil)))) (pg_tup rfl (pgs_cons (pg_name (i := 8) sc_read_paper.nd rfl (Or.inl rfl)) (pgs_cons (pg_name (i := 9) sc_read_paper.nd rfl (Or.inl rfl)) pgs_nil))))
      (pss_one (ps_if (pt_cmpR op_notN (pv 8) pe_non (nomark _)) (pss_cons (ps_expr (pe_lapp (pv 5) (pv 8))) (pss_one (ps_asg (pv 9) (pg_name (i := 4) sc_read_paper.nd rfl (Or.inl rfl)))))
        (pss_one (ps_if (pt_val (pe_call (ok_plain T) (hr.mono (by decide)) rfl T.glo Fp.kp bp .nil pass0 (pa_cons (pv 7) pa_nil)))
          (pss_cons (ps_expr (pe_lapp (pe_fld (pv 6) rfl) (pe_call (ok_value T) (hr.mono (by decide)) rfl T.glo Fv.kp bv .nil pass0 (pa_cons (pv 7) pa_nil)))) (pss_one (ps_asg (pe_op op_add (pv 4) pe_int) (pg_name (i := 4) sc_read_paper.nd rfl (Or.inl rfl)))))
          (pss_one (ps_raise rfl takesD (pmk_text rfl T mono_c mono_var (hr.mono (by decide)) rfl (pa_cons pe_int (pa_cons (pv 4) pa_nil))))))))))))))
    (pss_cons (ps_if (pt_cmpR op_lt (pv 4) (pe_callB call_len rfl T.free (by decide +kernel) (pa_cons (pv 2) pa_nil)) (nomark _)) (pss_one (ps_raise rfl takesD (pmk_text rfl T mono_c mono_var (hr.mono (by decide)) rfl (pa_cons pe_int (pa_cons (pv 4) pa_nil))))) pss_nil)
    (pss_cons (ps_if (pt_cmpR op_gt (pe_callB call_len rfl T.free (by decide +kernel) (pa_cons (pv 1) pa_nil)) pe_int (nomark _)) (pss_one (ps_raise rfl takesD (pmk_text rfl T mono_c mono_c (hr.mono (by decide)) rfl (pa_cons pe_int (pa_cons pe_int pa_nil))))) pss_nil)
    (pss_one (ps_ret (pe_meth0 (pv 3) C.cl C.mt (ok_toldO T 210) hr bt .nil pass0))))))))))), ?_⟩)
  · obtain ⟨d, v, rfl, _⟩ := h
    rfl
  · obtain ⟨d, v, rfl, hv, k⟩ := h
    refine ⟨_, rfl, v, .ty "str", d.ty, _, _, rfl, .ty _, Rep.tyx T hv, kit_d T hv (by decide), _, rfl, ?_⟩
    cases d with
    | non => exact iteT (badT_of k)
    | int i => exact iteT (badT_of k)
    | bl b => exact iteT (badT_of k)
    | dct => exact iteT (badT_of k)
    | tup ds => exact iteT (badT_of k)
    | pap wd ds => exact iteT (badT_of k)
    | str z =>
      obtain rfl : v = .str z := hv
      obtain ⟨l0, more, ws, hl, hw, hz, hz0, hws, hmore, hlen, k⟩ := k
      refine iteF ⟨_, rfl, ⟨_, rfl⟩, z, NL, rfl, rfl, by decide +kernel, Nat.le_trans (Nat.add_le_add_right hz 2) (by decide), ?_⟩
      rw [hl]
      intro lL hlL
      have sm1 : Same H (upd H lL (.lst ((l0 :: more).map V.str))) := same_new hlL
      have hL1 : upd H lL (.lst ((l0 :: more).map V.str)) lL = some (.lst ((l0 :: more).map V.str)) := upd_same
      generalize upd H lL (.lst ((l0 :: more).map V.str)) = G1 at sm1 hL1 ⊢
      refine ⟨_, rfl, lL, _, 0, .str l0, rfl, rfl, SqL.of hL1, at0 _ _, ⟨_, rfl⟩, l0, SPC, rfl, rfl, by decide +kernel, Nat.le_trans (Nat.add_le_add_right hz0 2) (by decide), ?_⟩
      rw [hw]
      intro wl hwl
      have sm2 : Same G1 (upd G1 wl (.lst (ws.map V.str))) := same_new hwl
      have hL2 := sm2 _ _ hL1
      have hW2 : upd G1 wl (.lst (ws.map V.str)) wl = some (.lst (ws.map V.str)) := upd_same
      have nwl : wl ≠ lL := fun e => by
        rw [e, hL1] at hwl
        cases hwl
      generalize upd G1 wl (.lst (ws.map V.str)) = G2 at sm2 hL2 hW2 ⊢
      have sm3 := sm1.trans sm2
      refine ⟨_, rfl, wl, ws, 0, true, rfl, SqL.of hW2, by omega, by omega, ?_⟩
      have kE : ∀ j : Nat, readW ws = .bad j → BadT E H 0 j := fun j e => by
        rw [e] at k
        exact k
      have kOK : ∀ d, readW ws = .ok d → if more = [] then ∀ v H', Same H H' → Rep H' d v → Q v H' else BadT E H 1 0 := fun d e => by
        rw [e] at k
        exact k
      clear k
      have hrd : readW ws = onFirst ws (openAt ws 0 true) := rfl
      cases eo : openAt ws 0 true with
      | bad j =>
        rw [eo] at hrd
        exact (kE j hrd).same sm3
      | nope =>
        rw [eo] at hrd
        intro t G3 sm4 ht
        exact ⟨t, _, rfl, SqT.of ht, rfl, _, _, rfl, _, _, rfl, rfl, _, rfl, rfl, _, rfl, decT rfl (badT_of ((kE 0 hrd).same (sm3.trans sm4)))⟩
      | opened o j =>
        rw [eo] at hrd
        obtain ⟨hko, _, hj⟩ := opened_is eo
        intro t a0 l G3 sm4 ha0 hl0 ht hO
        refine ⟨t, _, rfl, SqT.of ht, rfl, _, _, rfl, _, _, rfl, rfl, _, rfl, rfl, _, rfl, decF (fun e => by cases e) ⟨_, rfl, by show 1 ≤ sizeLine; decide, fun ln hln => ?_⟩⟩
        have hW3 := sm4 _ _ hW2
        have hL3 := sm4 _ _ hL2
        have smn : Same G3 (upd G3 ln (.lst [.ref a0])) := same_new hln
        obtain ⟨dx0, xs0, hO1, hO2, hO3⟩ := id hO
        have nl1 : ln ≠ l := fun e => by rw [e, hO2] at hln; cases hln
        have nl2 : wl ≠ l := fun e => by rw [← e, hW2] at hl0; cases hl0
        have nl3 : lL ≠ l := fun e => by rw [← e, hL2] at hl0; cases hl0
        refine ⟨RInv H z ws (l0 :: more) (readW ws) lL wl ln a0, ⟨ws.length + 1, [⟨o, []⟩], [a0], [l], j, none, none, none, none, rfl, ⟨a0, [], l, [], rfl, rfl, RepO.mono smn hO, rfl, rfl⟩, by simp, by simpa using nl1, by simpa using nl2, by simpa using nl3, fun l' hl' => (by rw [List.mem_singleton.mp hl']; exact sm3.free hl0), upd_same, smn _ _ hW3, smn _ _ hL3, by simp, rfl, (sm3.trans sm4).trans smn, ?_, ?_, hj, hrd.symm, by omega⟩, ?_⟩
        · intro f hf
          have e := List.mem_singleton.mp hf
          rw [e]
          exact hko
        · show 0 + 1 + 0 ≤ j
          have := (opened_is eo).2.1
          omega
        · have nwl : wl ≠ ln := ne_of_none hW3 hln
          have nlL : lL ≠ ln := ne_of_none hL3 hln
          have hlnH : H ln = none := (sm3.trans sm4).free hln
          clear hO hO1 hO2 hO3 hln smn ht ha0 hl0 hW3 hL3 hW2 hL2 sm4 nl1 nl2 nl3
          intro n σ G hinv
          obtain ⟨st, as, ls, i, o1, o2, o3, o4, rfl, hT, hnd, hnln, hnwl, hnlL, hyoung, hLn, hW, hLL, hne, hlast, hsm, hkn, hsz, hi, hR, hn⟩ := hinv
          cases st with
          | nil => exact absurd rfl hne
          | cons top rest =>
            obtain ⟨a, as, l1, ls, rfl, rfl, hO, hT⟩ := hT
            have hkt : KnF top := hkn top List.mem_cons_self
            have hszt : szL top.ds + 1 + szF rest ≤ i := hsz
            have hlt := len_szL top.ds
            refine ⟨_, rfl, iteT ⟨fun σ' G' => ∃ m', m' < n ∧ RInv H z ws (l0 :: more) (readW ws) lL wl ln a0 m' σ' G', fun _ _ h => h, ?_⟩⟩
            refine ⟨_, rfl, 1, rfl, ln, _, -1, .ref a, rfl, rfl, SqL.of hLn, at_lastR, _, rfl, _, rfl, wl, ws, i, rfl, SqL.of hW, by omega, by omega, fun x hx => ⟨_, _, rfl, ?_⟩, fun hx => (kE i (by rw [← hR]; exact none_bad hx)).same hsm⟩
            have hil := get_lt hx
            obtain ⟨n, rfl⟩ : ∃ n', n = n' + 1 := ⟨n - 1, by omega⟩
            have hR1 : ofRun ws (match stepR ws top rest i with
              | .go st' i' => runR ws n st' i'
              | r => r) = readW ws := hR
            have hst := fun hh => step_rest (rest := rest) (top := top) hx hh
            have again : ∀ {st2 : List Fr} {as2 ls2 : List Addr} {i2 : Nat} {p1 p2 p3 p4 : Option V} {G2 : Hp}, stepR ws top rest i = .go st2 i2 → RepT G2 st2 as2 ls2 → ls2.Nodup → ln ∉ ls2 → wl ∉ ls2 → lL ∉ ls2 → (∀ l ∈ ls2, H l = none) → G2 ln = some (.lst (as2.map V.ref).reverse) → G2 wl = some (.lst (ws.map V.str)) → G2 lL = some (.lst ((l0 :: more).map V.str)) →
                st2 ≠ [] → as2.getLast? = some a0 → Same H G2 → (∀ f ∈ st2, KnF f) → szF st2 ≤ i2 → i2 ≤ ws.length → i < i2 →
                ∃ m', m' < n + 1 ∧ RInv H z ws (l0 :: more) (readW ws) lL wl ln a0 m' [some (.str z), some (.ref lL), some (.ref wl), some (.ref a0), some (.int i2), some (.ref ln), p1, p2, p3, p4] G2 :=
              fun {st2 as2 ls2 i2 p1 p2 p3 p4 G2} e1 e2 e3 e4 e5 e6 e6b e7 e8 e9 e10 e11 e12 e13 e14 e15 e16 => ⟨n, Nat.lt_succ_self n, st2, as2, ls2, i2, p1, p2, p3, p4, rfl, e2, e3, e4, e5, e6, e6b, e7, e8, e9, e10, e11, e12, e13, e14, e15, by rw [e1] at hR1; exact hR1, by omega⟩
            have ebad : ∀ j, stepR ws top rest i = .bad j → readW ws = .bad j := fun j e => by
              rw [e] at hR1
              exact hR1.symm
            have hdep : depL top.ds < 210 := by
              have z := dep_szL top.ds
              omega
            have hkr : ∀ f ∈ rest, KnF f := fun f hf => hkn f (List.mem_cons_of_mem _ hf)
            have hnd2 : ls.Nodup := (List.nodup_cons.mp hnd).2
            have nl1 : l1 ∉ ls := (List.nodup_cons.mp hnd).1
            have hln1 : ln ≠ l1 := fun e => hnln (by rw [e]; exact List.mem_cons_self)
            have hwl1 : wl ≠ l1 := fun e => hnwl (by rw [e]; exact List.mem_cons_self)
            have hlL1 : lL ≠ l1 := fun e => hnlL (by rw [e]; exact List.mem_cons_self)
            have hln2 : ln ∉ ls := fun e => hnln (List.mem_cons_of_mem _ e)
            have hwl2 : wl ∉ ls := fun e => hnwl (List.mem_cons_of_mem _ e)
            have hlL2 : lL ∉ ls := fun e => hnlL (List.mem_cons_of_mem _ e)
            have small : ∀ {n : Nat}, n ≤ 50000 → n < sizeLine := fun {n} h => Nat.lt_of_le_of_lt h (by decide)
            have e0 : decide (V.str x = V.str wC) = decide (x = wC) := by
              rw [Bool.eq_iff_iff]
              simp only [decide_eq_true_eq, V.str.injEq]
            obtain ⟨dx, xs, hO1, hO2, hO3⟩ := id hO
            dsimp only [tSeq, tIfS]
            refine and_read (p := decide (x = wC)) (wh := top.whole) (fun R hR => ⟨_, rfl, rfl, _, rfl, by rw [e0]; exact hR⟩) (fun R hR => ⟨_, rfl, a, dx, _, rfl, hO1, op_none _ (by decide), top, a, l1, rfl, hO, hkt, by omega, fun G' sm => ⟨_, rfl, hR G' sm⟩⟩) fun G1 sm1 => ?_
            have hO1' := RepO.mono sm1 hO
            have hT1 := RepT.same sm1 hT
            have hLn1 := sm1 _ _ hLn
            have hW1 := sm1 _ _ hW
            have hLL1 := sm1 _ _ hLL
            have hsm1 := hsm.trans sm1
            clear hO hT hLn hW hLL hsm hO1 hO2 hO3
            cases hc : (decide (x = wC) && top.whole) with
            | true =>
              obtain ⟨hc1, hc2⟩ := ba hc
              have hc1 : x = wC := of_decide_eq_true hc1
              rw [hc1] at hx
              refine iteT ⟨_, rfl, .inl ⟨rfl, _, SqL.of hLn1⟩, ln, _, .ref a, rfl, rfl, hLn1, last_revR.1, ?_⟩
              rw [last_revR.2]
              have hO2 : RepO (upd G1 ln (.lst (as.map V.ref).reverse)) top a l1 := RepO.upd hO1' hLn1 hln1
              have hT2 : RepT (upd G1 ln (.lst (as.map V.ref).reverse)) rest as ls := RepT.upd hLn1 hln2 hT1
              have hLn2 : upd G1 ln (.lst (as.map V.ref).reverse) ln = some (.lst (as.map V.ref).reverse) := upd_same
              have hW2 : upd G1 ln (.lst (as.map V.ref).reverse) wl = some (.lst (ws.map V.str)) := by rw [upd_ne nwl]; exact hW1
              have hLL2 : upd G1 ln (.lst (as.map V.ref).reverse) lL = some (.lst ((l0 :: more).map V.str)) := by rw [upd_ne nlL]; exact hLL1
              have hsm2 : Same H (upd G1 ln (.lst (as.map V.ref).reverse)) := fun b o e => by
                rw [upd_ne (ne_of_none e hlnH)]
                exact hsm1 _ _ e
              generalize upd G1 ln (.lst (as.map V.ref).reverse) = G2 at hO2 hT2 hLn2 hW2 hLL2 hsm2 ⊢
              refine ⟨_, rfl, _, _, rfl, rfl, ?_⟩
              refine ⟨_, rfl, Nat.zero_le _, fun q hq => ⟨ln, q, _, rfl, rfl, SqL.of (same_new hq _ _ hLn2), SqL.of upd_same, _, rfl, ?_⟩⟩
              have smq : Same G2 (upd G2 q (.lst [])) := same_new hq
              have hO3 := RepO.mono smq hO2
              have hT3 := RepT.same smq hT2
              have hLn3 := smq _ _ hLn2
              have hW3 := smq _ _ hW2
              have hLL3 := smq _ _ hLL2
              have hsm3 := hsm2.trans smq
              generalize upd G2 q (.lst []) = G3 at hO3 hT3 hLn3 hW3 hLL3 hsm3 ⊢
              cases rest with
              | nil =>
                obtain ⟨rfl, rfl⟩ := hT3
                have ea : a = a0 := Option.some.inj hlast
                subst ea
                have hfin : ofRun ws (.fin top.told (i + 1)) = readW ws := by
                  rw [step_end hx hc2] at hR1
                  exact hR1
                obtain ⟨dx3, xs3, hP1, hP2, hP3⟩ := id hO3
                have hwlen : (ws.map V.str).length = ws.length := List.length_map _
                refine iteT ⟨_, rfl, _, rfl, _, _, rfl, .inl ⟨_, SqL.of hW3, rfl⟩, _, _, rfl, rfl, _, rfl, ?_⟩
                rw [hwlen]
                by_cases hlt2 : i + 1 < ws.length
                · have hb : readW ws = .bad (i + 1) := by
                    rw [← hfin]
                    exact if_pos hlt2
                  rw [decide_eq_true (show ((i : Int) + 1 < (ws.length : Int)) by omega)]
                  exact iteT ⟨_, rfl, badT_of ((kE (i + 1) hb).same hsm3)⟩
                · have hb : readW ws = .ok top.told := by
                    rw [← hfin]
                    exact if_neg hlt2
                  rw [decide_eq_false (show ¬ ((i : Int) + 1 < (ws.length : Int)) by omega)]
                  refine iteF ⟨_, rfl, _, _, rfl, .inl ⟨_, SqL.of hLL3, rfl⟩, _, _, rfl, rfl, _, rfl, ?_⟩
                  have hk := kOK _ hb
                  cases more with
                  | nil =>
                    rw [if_pos rfl] at hk
                    refine iteF ⟨_, rfl, a, dx3, _, rfl, hP1, op_none _ (by decide), top, a, l1, rfl, hO3, hkt, hc2, by omega, hdep, fun v G4 sm4 hv4 => hk v G4 (hsm3.trans sm4) hv4⟩
                  | cons m ms =>
                    rw [if_neg (fun e => by cases e)] at hk
                    have e1 : decide ((1 : Int) < (((l0 :: m :: ms).map V.str).length : Nat)) = true := by
                      rw [List.length_map]
                      refine decide_eq_true ?_
                      rw [List.length_cons, List.length_cons]
                      omega
                    rw [e1]
                    exact iteT (badT_of (hk.same hsm3))
              | cons f r =>
                obtain ⟨a2, as2, l2, ls2, rfl, rfl, hOf, hTr⟩ := hT3
                have hgo := step_shut (top := top) (f := f) (r := r) hx hc2
                obtain ⟨dx3, xs3, hP1, hP2, hP3⟩ := id hO3
                obtain ⟨dx4, xs4, hF1, hF2, hF3⟩ := id hOf
                have hszf : szL top.ds + 1 + (szL f.ds + 1 + szF r) ≤ i := hszt
                have hlf := len_szL f.ds
                have hlx4 := RepL.len hF3
                have eb : (((a2 :: as2).map V.ref).reverse).isEmpty = false := by simp
                rw [eb]
                refine iteF ⟨_, rfl, 1, rfl, ln, _, -1, .ref a2, rfl, rfl, SqL.of hLn3, at_lastR, a2, 1001, dx4, _, _, rfl, hF1, C.cl, C.ns, op_some, .inl ⟨rfl, _, SqL.of hF2⟩, _, rfl, a, dx3, _, rfl, hP1, op_none _ (by decide), top, a, l1, rfl, hO3, hkt, hc2, by omega, hdep, fun v G4 sm4 hv4 => ?_⟩
                refine ⟨l2, _, v, rfl, rfl, sm4 _ _ hF2, small (by omega), ?_⟩
                have hnl2 : l2 ∉ ls2 := (List.nodup_cons.mp hnd2).1
                have nln : ln ≠ l2 := fun e => hln2 (by rw [e]; exact List.mem_cons_self)
                have nwl2 : wl ≠ l2 := fun e => hwl2 (by rw [e]; exact List.mem_cons_self)
                have nlL2 : lL ≠ l2 := fun e => hlL2 (by rw [e]; exact List.mem_cons_self)
                have hl2H : H l2 = none := hyoung l2 (List.mem_cons_of_mem _ List.mem_cons_self)
                have so : Sol G4 (upd G4 l2 (.lst (xs4 ++ [v]))) := Sol.mut (sm4 _ _ hF2) lst_not
                refine again (i2 := i + 1) hgo ⟨a2, as2, l2, ls2, rfl, rfl, ⟨dx4, xs4 ++ [v], ?_, upd_same, ?_⟩, RepT.upd (sm4 _ _ hF2) hnl2 (RepT.same sm4 hTr)⟩ hnd2 hln2 hwl2 hlL2 (fun l' hl' => hyoung l' (List.mem_cons_of_mem _ hl')) ?_ ?_ ?_ (by simp) ?_ ?_ ?_ ?_ (by omega) (by omega)
                · have na2 : a2 ≠ l2 := fun e => by
                    rw [e, hF2] at hF1
                    cases hF1
                  rw [upd_ne na2]
                  exact sm4 _ _ hF1
                · exact RepL.append (RepL.mono so _ _ (RepL.mono (Sol.of sm4) _ _ hF3)) (RepL.one (Rep.mono so _ _ hv4))
                · rw [upd_ne nln]
                  exact sm4 _ _ hLn3
                · rw [upd_ne nwl2]
                  exact sm4 _ _ hW3
                · rw [upd_ne nlL2]
                  exact sm4 _ _ hLL3
                · rw [← hlast]
                  exact (List.getLast?_cons_cons).symm
                · intro b o e
                  rw [upd_ne (ne_of_none e hl2H)]
                  exact sm4 _ _ (hsm3 _ _ e)
                · intro g hg
                  rcases List.mem_cons.mp hg with e | hg
                  · rw [e]
                    exact hkr f List.mem_cons_self
                  · exact hkr g (List.mem_cons_of_mem _ hg)
                · show szL (f.ds ++ [top.told]) + 1 + szF r ≤ i + 1
                  rw [szL_snoc, told_sz]
                  omega
            | false =>
              have hno : ¬ (x = wC ∧ top.whole = true) := fun z => by
                rw [decide_eq_true z.1, z.2] at hc
                cases hc
              have hst2 := step_rest (rest := rest) (top := top) hx hno
              obtain ⟨dx1, xs1, hP1, hP2, hP3⟩ := id hO1'
              refine iteF ⟨_, rfl, a, dx1, _, rfl, hP1, op_none _ (by decide), top, a, l1, rfl, hO1', hkt, by omega, fun G2 sm2 => ⟨_, rfl, ?_⟩⟩
              cases hroom : top.room with
              | false =>
                rw [if_pos hroom] at hst2
                exact iteT ⟨_, rfl, badT_of ((kE i (ebad i hst2)).same (hsm1.trans sm2))⟩
              | true =>
                rw [if_neg (by rw [hroom]; decide)] at hst2
                refine iteF ⟨_, rfl, _, rfl, wl, ws, i, false, rfl, SqL.of (sm2 _ _ hW1), by omega, by omega, ?_⟩
                cases eo2 : openAt ws i false with
                | bad j2 =>
                  rw [eo2] at hst2
                  exact (kE j2 (ebad j2 hst2)).same (hsm1.trans sm2)
                | nope =>
                  rw [eo2] at hst2
                  intro t2 G3 sm3' ht2
                  refine ⟨t2, _, rfl, SqT.of ht2, rfl, _, _, rfl, _, _, rfl, rfl, _, rfl, rfl, _, rfl, iteNS rfl ?_⟩
                  refine ⟨_, rfl, x, rfl, Nat.le_trans (hlen x (List.mem_of_getElem? hx)) (by decide), fun G4 sm4' => ⟨_, rfl, ?_⟩⟩
                  have sm5 := (sm2.trans sm3').trans sm4'
                  cases hpl : isPlain x with
                  | false =>
                    have hb : stepR ws top rest i = .bad i := hst2.trans (if_neg (by rw [hpl]; exact Bool.false_ne_true))
                    exact iteF ⟨_, rfl, badT_of ((kE i (ebad i hb)).same (hsm1.trans sm5))⟩
                  | true =>
                    have hg : stepR ws top rest i = .go (⟨top.o, top.ds ++ [valueOf x]⟩ :: rest) (i + 1) := hst2.trans (if_pos hpl)
                    have hlx1 := RepL.len hP3
                    refine iteT ⟨_, rfl, a, 1001, dx1, _, _, rfl, sm5 _ _ hP1, C.cl, C.ns, op_some, .inl ⟨rfl, _, SqL.of (sm5 _ _ hP2)⟩, _, rfl, x, rfl, hlen x (List.mem_of_getElem? hx), hpl, fun v G5 sm6 hv5 => ⟨l1, _, v, rfl, rfl, sm6 _ _ (sm5 _ _ hP2), small (by omega), ?_⟩⟩
                    have smA := sm5.trans sm6
                    have so : Sol G5 (upd G5 l1 (.lst (xs1 ++ [v]))) := Sol.mut (smA _ _ hP2) lst_not
                    have hl1H : H l1 = none := hyoung l1 List.mem_cons_self
                    refine ⟨_, rfl, _, _, rfl, rfl, ?_⟩
                    refine again (i2 := i + 1) hg ⟨a, as, l1, ls, rfl, rfl, ⟨dx1, xs1 ++ [v], ?_, upd_same, ?_⟩, RepT.upd (smA _ _ hP2) nl1 (RepT.same smA hT1)⟩ hnd hnln hnwl hnlL hyoung ?_ ?_ ?_ (by simp) hlast ?_ ?_ ?_ (by omega) (by omega)
                    · have na : a ≠ l1 := fun e => by
                        rw [e, hP2] at hP1
                        cases hP1
                      rw [upd_ne na]
                      exact smA _ _ hP1
                    · exact RepL.append (RepL.mono so _ _ (RepL.mono (Sol.of smA) _ _ hP3)) (RepL.one (Rep.mono so _ _ hv5))
                    · rw [upd_ne hln1]
                      exact smA _ _ hLn1
                    · rw [upd_ne hwl1]
                      exact smA _ _ hW1
                    · rw [upd_ne hlL1]
                      exact smA _ _ hLL1
                    · intro b o e
                      rw [upd_ne (ne_of_none e hl1H)]
                      exact smA _ _ (hsm1 _ _ e)
                    · intro g hg
                      rcases List.mem_cons.mp hg with e | hg
                      · rw [e]
                        exact hkt
                      · exact hkr g hg
                    · show szL (top.ds ++ [valueOf x]) + 1 + szF rest ≤ i + 1
                      rw [szL_snoc, value_sz]
                      omega
                | opened o j2 =>
                  rw [eo2] at hst2
                  obtain ⟨hko2, hij, hj2⟩ := opened_is eo2
                  intro t2 a1 l2 G3 sm3' ha1 hl2 ht2 hO2
                  have smA := sm2.trans sm3'
                  have hLn3 := smA _ _ hLn1
                  refine ⟨t2, _, rfl, SqT.of ht2, rfl, _, _, rfl, _, _, rfl, rfl, _, rfl, rfl, _, rfl, iteNT (fun e => by cases e) ?_⟩
                  have hal : ((a :: as).map V.ref).reverse.length ≤ 50000 := by
                    rw [List.length_reverse, List.length_map]
                    have z := RepT.len hT1
                    have z2 := szF_len rest
                    rw [List.length_cons]
                    omega
                  refine ⟨_, rfl, .inl ⟨rfl, _, SqL.of hLn3⟩, _, rfl, ln, _, .ref a1, rfl, rfl, hLn3, small hal, ?_⟩
                  refine ⟨_, rfl, ?_⟩
                  obtain ⟨dx2, xs2, hQ1, hQ2, hQ3⟩ := id hO2
                  have fr : ∀ {p : Addr} {u : HO}, G2 p = some u → p ≠ l2 := fun e => ne_of_none e hl2
                  have hnl2 : l2 ∉ l1 :: ls := fun hm => by
                    obtain ⟨us, e⟩ := RepT.there (RepT.same sm2 (show RepT G1 (top :: rest) (a :: as) (l1 :: ls) from ⟨a, as, l1, ls, rfl, rfl, hO1', hT1⟩)) l2 hm
                    exact fr e rfl
                  have nln2 : ln ≠ l2 := fr (sm2 _ _ hLn1)
                  refine again (i2 := j2) hst2 (RepT.upd hLn3 (ls := l2 :: l1 :: ls) ?_ ⟨a1, a :: as, l2, l1 :: ls, rfl, rfl, hO2, a, as, l1, ls, rfl, rfl, RepO.mono smA hO1', RepT.same smA hT1⟩) (List.nodup_cons.mpr ⟨hnl2, hnd⟩) ?_ ?_ ?_ ?_ ?_ ?_ ?_ (by simp) ?_ ?_ ?_ ?_ (by omega) (by omega)
                  · intro hm
                    rcases List.mem_cons.mp hm with e | hm
                    · exact nln2 e
                    · exact hnln hm
                  · intro hm
                    rcases List.mem_cons.mp hm with e | hm
                    · exact nln2 e
                    · exact hnln hm
                  · intro hm
                    rcases List.mem_cons.mp hm with e | hm
                    · exact fr (sm2 _ _ hW1) e
                    · exact hnwl hm
                  · intro hm
                    rcases List.mem_cons.mp hm with e | hm
                    · exact fr (sm2 _ _ hLL1) e
                    · exact hnlL hm
                  · intro l' hl'
                    rcases List.mem_cons.mp hl' with e | hm
                    · rw [e]
                      exact (hsm1.trans sm2).free hl2
                    · exact hyoung l' hm
                  · rw [upd_same]
                    simp
                  · rw [upd_ne nwl]
                    exact smA _ _ hW1
                  · rw [upd_ne nlL]
                    exact smA _ _ hLL1
                  · rw [← hlast]
                    exact List.getLast?_cons_cons
                  · intro b o e
                    rw [upd_ne (ne_of_none e hlnH)]
                    exact smA _ _ (hsm1 _ _ e)
                  · intro g hg
                    rcases List.mem_cons.mp hg with e | hg
                    · rw [e]
                      exact hko2
                    · exact hkn g hg
                  · show 0 + 1 + (szL top.ds + 1 + szF rest) ≤ j2
                    omega
end
end K91
set_option Elab.async false
set_option linter.all false
set_option maxRecDepth 100000
set_option maxHeartbeats 4000000
/-! K91, AB: papers that are equal: ==, !=; their truth. -/
namespace K91
open PySem PySem.Spec PyProof.Rows
section
variable {M : Model} {prog : Program} {w : World} {A : Around} {E : Value → Shared → Prop} {s : Shared} {K : PySem.W.Frag} {x y C f : Addr} {ox : Obj} {od : Option Obj}
theorem objNe_own {Q : Fin → Shared → Prop} (X : K.In s.heap) (I : PySem.W.InstAt s.heap x ox C od) (hs : PySem.W.findIn K (.ref C) "__eq__" = some (some (.ref f))) (hf : PySem.W.isFn K (.ref f) = true) (hu : A.units < cLine)
    (hcall : wpAny (model prog w) A (call (.ref f) [.ref x, .ref y]) (fun v s' => v = .bool true ∧ Q (.done (.ret (.bool false))) s') E s) :
    wpAny (model prog w) A (Builtin.«object.__ne__» ⟨[.ref x, .ref y], []⟩) Q E s := by
  unfold Builtin.«object.__ne__»
  repeat (first
    | with_reducible refine wpAny_cRoomFor hu ?_
    | (refine wpAny_bind (m := callSpecialIfBound? (.ref x) (Str.ofString "__eq__") [.ref y])
        (PySem.W.ifBound_K X I hs hf (wpAny_mono hcall (fun r s' hr => by
          obtain ⟨rfl, hq⟩ := hr
          repeat (first | exact hq | exact wpAny_pure hq | exact wpAny_truthy_bool hq | (refine wpAny_bind (m := truthy (.bool _)) (wpAny_truthy_bool ?_)) | wp_step)) fun _ _ e => e)))
    | wp_step)
theorem ifBound_objNe {args : List Value} {Q : Option Value → Shared → Prop} (X : K.In s.heap) (I : PySem.W.InstAt s.heap x ox C od) (hs : PySem.W.findIn K (.ref C) "__ne__" = some (some (.builtin "object.__ne__")))
    (h : wpAny M A (call (.builtin "object.__ne__") (.ref x :: args)) (fun v => Q (some v)) E s) : wpAny M A (callSpecialIfBound? (.ref x) "__ne__" args) Q E s := by
  simp only [callSpecialIfBound?, bindSpecialIfBound?]
  refine wpAny_holding (wpAny_bind (wpAny_bind (wpAny_bind (I.type.here ((PySem.W.looks_findIn X hs).here ?_)))))
  refine wpAny_bind (wpAny_askSetting (wpAny_ite ?_))
  have fin : wpAny M A (call (.builtin "object.__ne__") ([.ref x] ++ args) >>= fun v => pure (some v)) Q E s := wpAny_bind (wpAny_mono h (fun v s' h' => wpAny_pure h') fun _ _ h' => h')
  split
  · exact wpAny_bind (wpAny_of_eq (F.cmp_object.ne.bind _) (wpAny_pure (by exact fin)))
  · exact wpAny_tryCatch (wpAny_bind (wpAny_of_eq (F.cmp_object.ne.bind _) (wpAny_pure (by exact fin))))
/-- x != y, x's class with an __eq__ of its own -/
theorem ne_own {Q : Value → Shared → Prop} {oy : Obj} {ody : Option Obj} (hu : A.units + 1 < cLine) (X : K.In s.heap) (I : PySem.W.InstAt s.heap x ox C od) (Iy : PySem.W.InstAt s.heap y oy C ody) (hm : PySem.W.mroIn K C (.type "object") = some true)
    (hs : PySem.W.findIn K (.ref C) "__eq__" = some (some (.ref f))) (hf : PySem.W.isFn K (.ref f) = true) (hn : PySem.W.findIn K (.ref C) "__ne__" = some (some (.builtin "object.__ne__")))
    (h : wpAny (model prog w) A.in1 (call (.ref f) [.ref x, .ref y]) (fun v s' => v = .bool true ∧ Q (.bool false) s') E s) : wpAny (model prog w) A (richCompare .NotEq (.ref x) (.ref y)) Q E s := by
  have one : wpAny (model prog w) A (tryCompare (.ref x) "__ne__" (.ref y)) (fun r s' => r = some (.bool false) ∧ Q (.bool false) s') E s := by
    unfold tryCompare
    refine wpAny_bind (ifBound_objNe X I hn (wpAny_call (codeAny_call_builtin F.cmp_object.ne.plain F.cmpEntry_ne (PySem.W.check_slot F.cmpKind_ne F.cmpSplit_ne (I.type.andThen (PySem.W.looks_mroIn X hm)) (F.cmpArgs_ne _ _)
      (objNe_own (A := A.in1) X I hs hf hu (wpAny_mono h (fun v s' hv => ?_) fun _ _ e => e))))))
    obtain ⟨rfl, hq⟩ := hv
    first
      | exact ⟨rfl, wpAny_pure ⟨rfl, hq⟩⟩
      | exact ⟨rfl, wpAny_pure (wpAny_pure ⟨rfl, hq⟩)⟩
      | exact ⟨rfl, rfl, hq⟩
  unfold richCompare
  simp only [oneThing_ref]
  refine wpAny_holding ?_
  refine wpAny_bind (wpAny_cRoomFor (Nat.lt_of_succ_lt hu) ?_)
  rw [cmpInfo_NotEq]
  dsimp only
  refine wpAny_bind (I.type.here ?_)
  refine wpAny_bind (Iy.type.here ?_)
  rw [show (Value.ref C != Value.ref C) = false from by simp]
  simp only [Bool.false_eq_true, if_false]
  refine wpAny_bind (wpAny_pure ?_)
  simp only [Bool.false_eq_true, if_false]
  refine wpAny_bind (wpAny_mono one (fun v s' hv => ?_) fun _ _ e => e)
  obtain ⟨rfl, hq⟩ := hv
  first | exact wpAny_pure hq | exact wpAny_pure (wpAny_pure hq)
end
open L2
mutual
def D.fd : D → Nat
  | .tup ds => fdL ds + 1
  | .pap _ ds => fdL ds + 1
  | _ => 0
def fdL : List D → Nat
  | [] => 0
  | d :: ds => max d.fd (fdL ds)
end
theorem fdL_get : ∀ {ds : List D} {i : Nat} {d : D}, ds[i]? = some d → d.fd ≤ fdL ds
  | [], i, d, e => by simp at e
  | x :: ds, 0, d, e => by
    have e : x = d := by simpa using e
    rw [← e]
    exact Nat.le_max_left _ _
  | x :: ds, i + 1, d, e => Nat.le_trans (fdL_get (i := i) (by simpa using e)) (Nat.le_max_right _ _)
theorem okD_get : ∀ {ds : List D} {i : Nat} {d : D}, okD ds = true → ds[i]? = some d → d.ok = true
  | [], i, d, _, e => by simp at e
  | x :: ds, 0, d, h, e => by
    have e : x = d := by simpa using e
    rw [← e]
    exact (ba h).1
  | x :: ds, i + 1, d, h, e => okD_get (i := i) (ba h).2 (by simpa using e)
/-- two values of one datum -/
def DD (j : Nat) : L2.Eqv := fun x y H => ∃ d : D, d.ok = true ∧ d.fd ≤ j ∧ Rep H d x ∧ Rep H d y
theorem mon_DD {j : Nat} : L2.Mon (DD j) := fun x y H H' e ⟨d, h1, h2, h3, h4⟩ => ⟨d, h1, h2, Rep.mono (fun a o q _ => e a o q) _ _ h3, Rep.mono (fun a o q _ => e a o q) _ _ h4⟩
def RR (j : Nat) (a b : Addr) (H : Hp) : Prop := ∃ (wd : Str) (ds : List D), (D.pap wd ds).ok = true ∧ fdL ds ≤ j ∧ Rep H (.pap wd ds) (.ref a) ∧ Rep H (.pap wd ds) (.ref b)
theorem prs_of {j : Nat} {H : Hp} {ds : List D} {xs ys : List V} (ho : okD ds = true) (hf : fdL ds ≤ j) (h1 : RepL H ds xs) (h2 : RepL H ds ys) : L2.Prs (DD j) xs ys H :=
  ⟨by rw [RepL.len h1, RepL.len h2], fun i x y e1 e2 => by
    obtain ⟨d, hd, r1⟩ := RepL.get h1 e1
    obtain ⟨d', hd', r2⟩ := RepL.get h2 e2
    rw [hd] at hd'
    cases hd'
    exact ⟨d, okD_get ho hd, Nat.le_trans (fdL_get hd) hf, r1, r2⟩⟩
section
variable {w : World} {K : PySem.W.Frag} {mg : Str → Option Value} {base : Heap}
theorem ok_eq_of (T : Ctx K mg) (j : Nat) (h : ∀ X : Cx, X.prog = PW → X.K = K → X.mg = mg → L2.EqG X (2 * j) (DD j)) : FnOk PW w K mg base CX0 (2 * j + 2) 264 (fdOf K 264) P_Paper_eq (L2.spEq (RR j)) := by
  have F := T.fun_ r_Paper_eq m_Paper_eq
  refine F.ok sc_Paper_eq (fun vs H Q E h => ?_) (fun cdv A outer s H vs Q E hr h' => ⟨_, pss_cons (ps_if (PW.pt (pw_or (pt_not (pt_val (pe_callB call_isi rfl T.free (by decide +kernel) (pa_cons (pv 1) (pa_cons (pe_glob (v := .ref 274) rfl T.glo rfl) pa_nil))))) (pw_or1 (pt_cmpR op_ne (pe_fld (pv 0) rfl) (pe_fld (pv 1) rfl) (nomark _))))) (pss_one (ps_ret pe_bl)) pss_nil)
    (pss_one (ps_ret (pe_callTy call_bool1 rfl T.free (by decide +kernel) (pa_cons (pe_cmpR (L2.op_eqG (L2.rcG_tup mon_DD (h _ rfl rfl rfl)) hr) (pe_fld (pv 0) rfl) (pe_fld (pv 1) rfl) (nomark _)) pa_nil)))), ?_⟩)
  · obtain ⟨a, b, rfl, _⟩ := h
    rfl
  · obtain ⟨a, b, rfl, ⟨wd, ds, hok, hfd, ha, hb⟩, k⟩ := h'
    have hb0 := hb
    obtain ⟨a', dx, t, xs, ea, h1, h2, kn, rl⟩ := ha
    cases ea
    obtain ⟨b', dy, t', ys, eb, g1, g2, _, rl'⟩ := hb
    cases eb
    obtain ⟨cl, nw, np⟩ := T.papA kn
    have hok2 : okD ds = true := (ba hok).2
    refine ⟨_, rfl, .ref b, .ref 274, _, _, _, rfl, .own _, Rep.tyx T hb0, kit_pap T hb0, _, rfl, iteF ?_⟩
    refine ⟨_, rfl, a, _, dx, _, _, rfl, h1, cl, nw, fs_word, _, rfl, b, _, dy, _, _, rfl, g1, cl, nw, fs_word, rfl, _, rfl, iteNS rfl ?_⟩
    exact ⟨_, rfl, a, _, dx, _, _, rfl, h1, cl, np, fs_parts, _, rfl, b, _, dy, _, _, rfl, g1, cl, np, fs_parts, ⟨t, t', xs, ys, rfl, rfl, SqT.of h2, SqT.of g2, prs_of hok2 hfd rl rl'⟩, fun H' e => .inr ⟨true, rfl, k H' e⟩⟩
theorem cls_mem (T : Ctx K mg) {wd : Str} {n : Nat} (k : Kn wd n) : clsAt wd ∈ (274 :: 295 :: pcs.map (·.at_)) := by
  unfold clsAt
  cases e : pcAt wd with
  | some c => exact List.mem_cons_of_mem _ (List.mem_cons_of_mem _ (List.mem_map.mpr ⟨c, (pc_mem e).1, rfl⟩))
  | none =>
    show (if wd = "paper" then 274 else 295) ∈ _
    split
    · exact List.mem_cons_self
    · exact List.mem_cons_of_mem _ List.mem_cons_self
theorem Ctx.papE (T : Ctx K mg) {wd : Str} {n : Nat} (k : Kn wd n) : Meth K (clsAt wd) "__eq__" 264 ∧ Meth K (clsAt wd) "__bool__" (boolAt (denAt wd)) ∧ PySem.W.mroIn K (clsAt wd) (.type "object") = some true ∧ PySem.W.findIn K (.ref (clsAt wd)) "__ne__" = some (some (.builtin "object.__ne__")) := by
  have p := T.papN k
  exact ⟨p.eq, p.bo, eqB_ok (ba p.ty).2, T.ne _ (cls_mem T k)⟩
theorem eqG_DD (T : Ctx K mg) : ∀ j : Nat, ∀ X : Cx, X.prog = PW → X.K = K → X.mg = mg → L2.EqG X (2 * j) (DD j) := by
  have flat : ∀ (j : Nat) (X : Cx), ∀ (A : Around) (pins : List (Addr × Obj)) (s : Shared) (σ : L2.St) (H : Hp) (x : V) (u v : Value), L2.Sub X (2 * j) A → Inv X pins σ H s → RelV x u → RelV x v → flatV x = true → eqV x x = true →
      wpAny (model X.prog X.w) A (eqBool u v) (fun r s' => r = true ∧ ∃ H', Inv X pins σ H' s' ∧ L2.Ext H H') X.xe s := fun j X A pins s σ H x u v sb I rx ry h1 h2 => (L2.eqG_flat (X := X)).mono (Nat.zero_le _) A pins s σ H x x u v sb I rx ry ⟨h1, h1, h2⟩
  intro j
  induction j with
  | zero =>
    intro X hP hK hM A pins s σ H x y u v sb I rx ry ⟨d, hok, hfd, h1, h2⟩
    cases d with
    | non =>
      obtain rfl : x = .non := h1
      obtain rfl : y = .non := h2
      exact flat 0 X A pins s σ H _ u v sb I rx ry rfl (by simp [eqV])
    | int i =>
      obtain rfl : x = .int i := h1
      obtain rfl : y = .int i := h2
      exact flat 0 X A pins s σ H _ u v sb I rx ry rfl (by simp [eqV])
    | str i =>
      obtain rfl : x = .str i := h1
      obtain rfl : y = .str i := h2
      exact flat 0 X A pins s σ H _ u v sb I rx ry rfl (by simp [eqV])
    | bl b => cases hok
    | dct => cases hok
    | tup ds => exact absurd hfd (Nat.not_succ_le_zero _)
    | pap wd ds => exact absurd hfd (Nat.not_succ_le_zero _)
  | succ j ih =>
    intro X hP hK hM A pins s σ H x y u v sb I rx ry ⟨d, hok, hfd, h1, h2⟩
    cases d with
    | non =>
      obtain rfl : x = .non := h1
      obtain rfl : y = .non := h2
      exact flat (j + 1) X A pins s σ H _ u v sb I rx ry rfl (by simp [eqV])
    | int i =>
      obtain rfl : x = .int i := h1
      obtain rfl : y = .int i := h2
      exact flat (j + 1) X A pins s σ H _ u v sb I rx ry rfl (by simp [eqV])
    | str i =>
      obtain rfl : x = .str i := h1
      obtain rfl : y = .str i := h2
      exact flat (j + 1) X A pins s σ H _ u v sb I rx ry rfl (by simp [eqV])
    | bl b => cases hok
    | dct => cases hok
    | tup ds =>
      obtain ⟨a, xs, rfl, ha, rl⟩ := h1
      obtain ⟨b, ys, rfl, hb, rl'⟩ := h2
      exact (L2.eqG_tup mon_DD (ih X hP hK hM)) A pins s σ H _ _ u v (sb.mono (by omega)) I rx ry ⟨a, b, xs, ys, rfl, rfl, SqT.of ha, SqT.of hb, prs_of hok (Nat.le_of_succ_le_succ hfd) rl rl'⟩
    | pap wd ds =>
      obtain ⟨a, dx, t, xs, rfl, ha, ht, kn, rl⟩ := id h1
      obtain ⟨b, dy, t', ys, rfl, hb, ht', _, rl'⟩ := id h2
      subst hK
      subst hM
      have F := ok_eq_of (w := X.w) (base := X.base) T j ih
      rw [show PW = X.prog from hP.symm] at F
      have bE : Binds X.K (fdOf X.K 264) P_Paper_eq [] := (T.fun_ r_Paper_eq m_Paper_eq).binds fun _ _ _ _ _ _ us hl => match us, hl with | [_, _], _ => rfl
      obtain ⟨me, _⟩ := T.papE kn
      exact (L2.eqG_ins F me.at_ me.fn bE pass0) A pins s σ H _ _ u v (sb.mono (by omega)) I rx ry ⟨a, b, dx, dy, _, _, rfl, rfl, ha, hb, wd, ds, hok, Nat.le_of_succ_le_succ hfd, h1, h2⟩
end
/-! ### x != y of papers -/
def rNeP : R2 := fun x y H Q => ∃ (a b : Addr) (wd : Str) (ds : List D), x = .ref a ∧ y = .ref b ∧ (D.pap wd ds).ok = true ∧ fdL ds ≤ 20 ∧ Rep H (.pap wd ds) (.ref a) ∧ Rep H (.pap wd ds) (.ref b) ∧ ∀ H', Same H H' → Q (.bl false) H'
theorem op_neP {X : Cx} (hP : X.prog = PW) (T : Ctx X.K X.mg) (hr : Room 43 X.A) : OpR X (compareOp .NotEq) rNeP := by
  intro pins s σ H x y v u Q I rx ry h
  obtain ⟨a, b, wd, ds, rfl, rfl, hok, hfd, h1, h2, q⟩ := h
  cases rx
  cases ry
  obtain ⟨a', dx, t, xs, ea, ha, ht, kn, rl⟩ := id h1
  cases ea
  obtain ⟨b', dy, t', ys, eb, hb, ht', _, rl'⟩ := id h2
  cases eb
  obtain ⟨me, mb, mo, mn⟩ := T.papE kn
  have F := ok_eq_of (w := X.w) (base := X.base) T 20 (eqG_DD T 20)
  rw [show PW = X.prog from hP.symm] at F
  have bE : Binds X.K (fdOf X.K 264) P_Paper_eq [] := (T.fun_ r_Paper_eq m_Paper_eq).binds fun _ _ _ _ _ _ us hl => match us, hl with | [_, _], _ => rfl
  obtain ⟨mA, J, _⟩ := ins_get I.hok ha
  obtain ⟨mB, J', _⟩ := ins_get I.hok hb
  obtain ⟨od, J, _⟩ := J.look
  obtain ⟨od', J', _⟩ := J'.look
  have sb : L2.Sub X 43 X.A := ⟨hr, rfl⟩
  have sb1 := sb.in1
  show wpAny (model X.prog X.w) X.A (richCompare .NotEq (.ref a) (.ref b)) (EP X pins σ Q) X.xe s
  refine ne_own (hu_of hr) I.kIn J J' mo me.at_ me.fn mn ?_
  have hsp : spEq (RR 20) [.ref a, .ref b] H (fun v H' => v = .bl true ∧ Same H H') E0 := ⟨a, b, rfl, ⟨wd, ds, hok, hfd, h1, h2⟩, fun H' e => ⟨rfl, e⟩⟩
  have e0 : Env0 X.prog X.w X.K X.mg X.base X.A.in1 X.stack s H := by
    have e := I.env0
    exact ⟨by rw [sb1.fr]; exact e.frames, e.mod, e.bs, e.bsz, e.funs, e.frf, e.hok, e.bare⟩
  have hl := F.len _ _ _ _ hsp
  have r2 : Vals [V.ref a, V.ref b] [Value.ref a, Value.ref b] := .cons rfl (.cons rfl .nil)
  refine wpAny_call (codeAny_mono (F.run X.A.in1 X.stack s H ⟨[.ref a, .ref b], []⟩ [.ref a, .ref b] [.ref a, .ref b] _ E0 sb1.room e0 (by
    have := bE s [.ref a, .ref b] I.kIn (by simpa using hl)
    simpa using this) r2 hsp) fun r s' hq => ?_)
  cases r with
  | error e => exact pass0 pins σ H s e s' I hq
  | ok fl =>
    cases fl with
    | ret w =>
      obtain ⟨z, H', I', rz, ez, ex⟩ := I.after hq
      subst ez
      cases rz
      exact ⟨rfl, .bl false, H', I', rfl, q H' ex⟩
    | next => exact False.elim hq
    | brk => exact False.elim hq
    | cont => exact False.elim hq
/-! ### bool(x) of a paper -/
def spB (b : Bool) : Sp := fun vs H Q _ => ∃ v, vs = [v] ∧ Q (.bl b) H
section
variable {w : World} {K : PySem.W.Frag} {mg : Str → Option Value} {base : Heap}
theorem ok_bool (T : Ctx K mg) (den : Bool) : FnOk PW w K mg base CX0 1 (boolAt den) (fdOf K (boolAt den)) [("self" : Str)] (spB (!den)) := by
  cases den with
  | false =>
    have F := T.fun_ r_Paper_bool m_Paper_bool
    refine F.ok sc_Paper_bool (fun vs H Q E h => ?_) (fun cdv A outer s H vs Q E hr h => ⟨_, pss_one (ps_ret pe_bl), ?_⟩)
    · obtain ⟨v, rfl, _⟩ := h
      rfl
    · obtain ⟨v, rfl, q⟩ := h
      exact q
  | true =>
    have F := T.fun_ r_Denial_bool m_Denial_bool
    refine F.ok sc_Denial_bool (fun vs H Q E h => ?_) (fun cdv A outer s H vs Q E hr h => ⟨_, pss_one (ps_ret pe_bl), ?_⟩)
    · obtain ⟨v, rfl, _⟩ := h
      rfl
    · obtain ⟨v, rfl, q⟩ := h
      exact q
theorem binds_bool (T : Ctx K mg) (den : Bool) : Binds K (fdOf K (boolAt den)) [("self" : Str)] [] := by
  cases den with
  | false => exact (T.fun_ r_Paper_bool m_Paper_bool).binds fun _ _ _ _ _ _ us hl => match us, hl with | [_], _ => rfl
  | true => exact (T.fun_ r_Denial_bool m_Denial_bool).binds fun _ _ _ _ _ _ us hl => match us, hl with | [_], _ => rfl
end
theorem bool_meets {prog : Program} {w : World} (a : Addr) : MeetsIn prog w (Builtin.«bool.__new__» ⟨[.type "bool", .ref a], []⟩) (fun A R s => wpAny (model prog w) A.in1 (truthy (.ref a)) (fun c s' => R (.ok (.ret (.bool c))) s') (fun e s' => R (.error e) s') s) :=
  .of_wp fun A R s h => by
    obtain ⟨hp, g, d, tk, os⟩ := s
    have f1 := PySem.F.conv_sub_bool
    repeat (any_goals (first | assumption | (refine wpAny_bind (m := truthy (.ref a)) (wpAny_mono h (fun c s' hc => ?_) fun _ _ e => e)) | wp_step))
    all_goals first | exact ⟨_, rfl, hc⟩ | exact hc | exact wpAny_pure ⟨_, rfl, hc⟩ | skip
def rBoolP : List V → Hp → VK → Prop := fun xs H Q => ∃ (a : Addr) (wd : Str) (ds : List D), xs = [.ref a] ∧ Rep H (.pap wd ds) (.ref a) ∧ ∀ H', Same H H' → Q (.bl (!denAt wd)) H'
theorem call_boolP {X : Cx} (hP : X.prog = PW) (T : Ctx X.K X.mg) (hr : Room 4 X.A) : CallR X (.type "bool") rBoolP := by
  intro pins s σ H xs us Q I r h
  obtain ⟨a, wd, ds, rfl, h1, q⟩ := h
  obtain rfl := Vals.ref1 r
  obtain ⟨a', dx, t, xs, ea, ha, ht, kn, rl⟩ := id h1
  cases ea
  obtain ⟨me, mb, mo, mn⟩ := T.papE kn
  have F := ok_bool (w := X.w) (base := X.base) T (denAt wd)
  rw [show PW = X.prog from hP.symm] at F
  obtain ⟨mA, J, _⟩ := ins_get I.hok ha
  obtain ⟨od, J, _⟩ := J.look
  obtain ⟨m, hF⟩ := I.fr
  have sb : L2.Sub X 4 X.A := ⟨hr, rfl⟩
  refine callType_newIn PySem.F.called_bool PySem.F.newNe_bool (PySem.F.typeCall_bool_1 _) (PySem.F.newCall_bool_1 _) (fun obj => PySem.F.args_object_init_2 obj _) PySem.F.entry_bool_new (bool_meets a) ?_
  refine PySem.W.truthy_K hF I.ok.mod.kin J mb.at_ mb.fn ?_
  have sb1 := sb.in1.in1
  have hsp : spB (!denAt wd) [.ref a] H (fun v H' => v = .bl (!denAt wd) ∧ Same H H') E0 := ⟨_, rfl, rfl, Same.refl H⟩
  have e0 : Env0 X.prog X.w X.K X.mg X.base X.A.in1.in1 X.stack s H := by
    have e := I.env0
    exact ⟨by rw [sb1.fr]; exact e.frames, e.mod, e.bs, e.bsz, e.funs, e.frf, e.hok, e.bare⟩
  have hl := F.len _ _ _ _ hsp
  have r2 : Vals [V.ref a] [Value.ref a] := .cons rfl .nil
  refine wpAny_call (codeAny_mono (F.run X.A.in1.in1 X.stack s H ⟨[.ref a], []⟩ [.ref a] [.ref a] _ E0 (sb1.room.mono (by decide)) e0 (by
    have := binds_bool T (denAt wd) s [.ref a] I.kIn (by simpa using hl)
    simpa using this) r2 hsp) fun r s' hq => ?_)
  cases r with
  | error e => exact (pass0 pins σ H s e s' I hq : _)
  | ok fl =>
    cases fl with
    | ret w =>
      obtain ⟨z, H', I', rz, ez, ex⟩ := I.after hq
      subst ez
      cases rz
      exact ⟨rfl, .bl (!denAt wd), H', I', rfl, q H' ex⟩
    | next => exact False.elim hq
    | brk => exact False.elim hq
    | cont => exact False.elim hq
end K91
set_option Elab.async false
set_option linter.all false
set_option maxRecDepth 100000
set_option maxHeartbeats 2000000
/-! K91, Y: a caught exception that outlives its suite. -/
namespace K91
open PySem PySem.Spec PyProof.Rows L2
/-- at a: an exception of the class cls, its dict at d -/
def ExK (cls : Value) (d : Option Addr) (a : Addr) : HO := .ext fun h => ∃ oe vs, h.get? a = some oe ∧ Zc cls d oe ∧ oe.data = .fields vs
theorem exK_ok {P : Program} {w : World} {H : Hp} {h : Heap} {a : Addr} {cls : Value} {d : Option Addr} {oe : Obj} {vs : Array Value} (e : h.get? a = some oe) (z : Zc cls d oe) (hd : oe.data = .fields vs) : ObjOk P w H h a (ExK cls d a) :=
  ⟨⟨oe, vs, e, z, hd⟩, ⟨oe, e⟩, fun _ _ ⟨o, v, q, r⟩ k => ⟨o, v, k o q, r⟩⟩
theorem exK_at {P : Program} {w : World} {H : Hp} {h : Heap} {a : Addr} {cls : Value} {d : Option Addr} (hok : HOk P w H h) (he : H a = some (ExK cls d a)) : ∃ oe vs, h.get? a = some oe ∧ Zc cls d oe ∧ oe.data = .fields vs := by
  have x : ObjOk P w H h a (.ext fun h => ∃ oe vs, h.get? a = some oe ∧ Zc cls d oe ∧ oe.data = .fields vs) := hok a _ he
  exact x.1
section
variable {X : Cx} {pins : List (Addr × Obj)} {σ : L2.St} {H : Hp} {s : Shared}
/-- an object of ours is tracked from now on -/
theorem inv_track {a : Addr} {o : HO} (I : Inv X pins σ H s) (n0 : X.s_0.heap.get? a = none) (na : H a = none) (nL : a ≠ X.env.locals) (nC : ∀ x c, X.env.cells.lookup x = some c → c ≠ a) (np : ∀ p ∈ X.pn ++ pins, p.1 ≠ a)
    (new : ObjOk X.prog X.w (upd H a o) s.heap a o) : Inv X pins σ (upd H a o) s := by
  have nit : ∀ b u, H b = some u → b ≠ a := fun b u e z => by rw [z, na] at e; cases e
  have up : ∀ b u, H b = some u → upd H a o b = some u := fun b u e => by rw [upd_ne (nit b u e)]; exact e
  have n0' : ∀ b u, X.s_0.heap.get? b = some u → b ≠ a := fun b u e z => by rw [z, n0] at e; cases e
  refine ⟨I.ok, I.os, I.bare, ⟨I.base.keep, I.base.slot, fun b u e n hx => ?_, I.base.there, fun b xs e => ?_, fun b u v e => ?_, fun b ps e => ?_⟩, I.loc, I.cell, ?_, fun x c e => ?_, fun p hp => ?_, fun b u e => ?_, I.len⟩
  · rw [upd_ne (n0' b u e)]
    exact I.base.free b u e n hx
  · exact up b _ (I.base.tups b xs e)
  · exact up b _ (I.base.frzs b u v e)
  · obtain ⟨m, q⟩ := I.base.tbls b ps e
    exact ⟨m, up b _ q⟩
  · rw [upd_ne (Ne.symm nL)]
    exact I.free
  · rw [upd_ne (nC x c e)]
    exact I.freeC x c e
  · obtain ⟨e1, e2, e3, e4, e5⟩ := I.pin p hp
    exact ⟨e1, by rw [upd_ne (np p hp)]; exact e2, e3, e4, e5⟩
  · by_cases hb : b = a
    · rw [hb, upd_same] at e
      cases e
      rw [hb]
      exact new
    · rw [upd_ne hb] at e
      exact (I.hok b u e).stay (fun c v hc q => q) (fun c q => up c _ q) fun c _ q => up c _ q
theorem inv_suite (I : Inv X pins σ H s) (a : Addr) : Inv (X.suite a (X.pn ++ pins)) [] σ H s :=
  ⟨I.ok.suite _ _, I.os, I.bare, I.base, I.loc, I.cell, I.free, I.freeC, fun p hp => I.pin p (by rw [List.append_nil] at hp; exact hp), I.hok, I.len⟩
theorem inv_unsuite {a : Addr} (I : Inv (X.suite a (X.pn ++ pins)) [] σ H s) (ok : X.Ok) : Inv X pins σ H s :=
  ⟨ok, I.os, I.bare, I.base, I.loc, I.cell, I.free, I.freeC, fun p hp => I.pin p (List.mem_append_left _ hp), I.hok, I.len⟩
end
/-- what the clause wishes of an exception of the body; the exception is tracked from there on -/
def wKeep (K : PySem.W.Frag) (c : Value) (i : Nat) (ts : Addr → TS) (Wout : WX) (D : Ends) : WX := fun cls d σ H =>
  ∃ b, PySem.W.exmOne K cls c = some b ∧ (b = true → ∀ a, H a = none → ts a { nx := fun σ' H' => D.nx (σ'.set i none) H', rt := D.rt, bk := fun σ' H' => D.bk (σ'.set i none) H', ct := fun σ' H' => D.ct (σ'.set i none) H' } (σ.set i (some (.ref a))) (upd H a (ExK cls d a))) ∧
    (b = false → Wout cls d σ H)
section
variable {X : Cx} {x n : Str} {c : Value} {i : Nat} {body suite : List Stmt} {b₀ : Stmt} {np pos pos' : Pos} {tb : WX → TS} {ts : Addr → TS} {Wout : WX}
theorem ps_try_keep (hs : X.stack = X.env :: X.outer) (hf : X.env.frame = some X.env.locals) (hex : X.ex = []) (hN : X.N.Nodup) (hi : X.N[i]? = some n) (hln : X.env.kindOf n = some .local) (hc : Names X x c) (tk : Takes X Wout)
    (hb : ∀ (W : WX) (pn : List (Addr × Obj)) (xe : Value → Shared → Prop), Takes (X.tr pn xe) W → PassesOwn (model X.prog X.w) X.A X.env xe → PSs (X.tr pn xe) body (tb W))
    (hsu : ∀ (a : Addr) (pn : List (Addr × Obj)), PSs (X.suite a pn) (b₀ :: suite) (ts a)) :
    PS X (.Try body [.ExceptHandler (some (.Name x np)) (some n) (b₀ :: suite) pos'] [] [] pos) (fun D σ H => tb (wKeep X.K c i ts Wout D) D σ H) := by
  refine ⟨fun pins s σ H D I h => ?_⟩
  have ok := I.ok
  have hfr : X.A.frames = some (X.env :: X.outer) := by rw [ok.frames, hs]
  have hloc : Loc X.env.scope n := .inl hln
  refine wpAny_Try_except ?_
  refine wpAny_mono ((hb (wKeep X.K c i ts Wout D) (X.pn ++ pins) (fun e s₁ => wpAny (model X.prog X.w) X.A (noteFrame e X.env) (fun _ s₂ => wpAny (model X.prog X.w) X.A (setFlight e none) (fun _ s₃ =>
    wpAny (model X.prog X.w) X.A (handleBy e X.env [.ExceptHandler (some (.Name x np)) (some n) (b₀ :: suite) pos']) (SP X pins D) X.xe s₃) X.xe s₂) X.xe s₁) (fun u s' xx => ?_) PassesOwn.looking).run [] s σ H D (I.toTry _) h) (fun f s1 hsp => ?_) (fun e s1 he => he)
  · obtain ⟨a, B, sI, pins', σ', H', cls, d, rfl, J', nb, up, sky, na, os, ag, b, hb1, hyes, hno⟩ := xx
    have J : Inv X pins σ' H' sI := J'.ofTry ok
    have sky' : Sky B (X.env :: X.outer) a (Zc cls d) X.env.locals s'.heap := by rw [← hs]; exact sky
    show wpAny (model X.prog X.w) X.A (noteFrame (.ref a) X.env) _ _ _
    refine Sky.land Zc.steady hfr hf sky' fun h3 fl3 up3 => ?_
    have J3 : Inv X pins σ' H' { s' with heap := h3 } := J.landed nb fl3.1 (up.trans up3) os ag
    obtain ⟨oe3, vs3, he3, hz3, hd3⟩ := fl3.there
    have notFr : ∀ {h : Heap} {o : Obj} {vs : Array Value}, h.FunFrames B (X.env :: X.outer) → h.get? a = some o → o.data = .fields vs → a ∉ frs (X.env :: X.outer) := fun {h o vs} ff e dd hm => by
      obtain ⟨_, o', e', hnf⟩ := ff.mem hm
      rw [e] at e'; cases e'
      exact hnf _ dd
    have nfr := notFr fl3.2.2.1 he3 hd3
    have nL : a ≠ X.env.locals := fun z => nfr (List.mem_filterMap.mpr ⟨X.env, List.mem_cons_self, by rw [hf, z]⟩)
    have nF : a ∉ X.fs := fun hm => by
      obtain ⟨e, he, q⟩ := List.mem_filterMap.mp hm
      exact nfr (List.mem_filterMap.mpr ⟨e, List.mem_cons_of_mem _ he, q⟩)
    have nI : sI.heap.get? a = none := by
      cases e : sI.heap.get? a with
      | none => rfl
      | some o =>
        have z := nb a o e (by rw [hs]; exact nfr)
        rw [fl3.2.1] at z
        cases z
    have n0 : X.s_0.heap.get? a = none := by
      cases e : X.s_0.heap.get? a with
      | none => rfl
      | some o =>
        obtain ⟨o', q⟩ := J.base.there a o e (by rw [hex]; exact fun z => nomatch z)
        rw [nI] at q
        cases q
    have np' : ∀ p ∈ X.pn ++ pins, p.1 ≠ a := fun p hp z => by
      have q := (J.pin p hp).1
      rw [z, nI] at q
      cases q
    have S3 := J3.suite he3 hd3 na nL nF
    refine wpAny_handleBy_cons (codeAny_handlers_test ?_) (by intro q; cases q)
    have LT : PySem.W.Looks (model X.prog X.w) h3 (typeOf (.ref a)) cls := fun A Q E s k q => wpAny_typeOf_ref (k _ _ he3) (by rw [hz3.1]; exact q)
    have LM := PySem.W.exm_one (M := model X.prog X.w) (J3.kIn) LT hb1
    have test : ∀ {Q : Value → Shared → Prop} {E : Value → Shared → Prop}, Q c { s' with heap := h3 } → wpAny (model X.prog X.w) (X.A.mark (some (.ref a))) (eval (.Name x np) X.env) Q E { s' with heap := h3 } := fun {Q E} q => by
      obtain ⟨hg, hdbg, hm | ⟨hm, hv, hnn⟩⟩ := hc
      · exact ld_glob (X := X.suite a ((a, oe3) :: (X.pn ++ pins))) S3 hg hm q hdbg
      · exact ld_blt (X := X.suite a ((a, oe3) :: (X.pn ++ pins))) S3 hg hm hv q hnn hdbg
    refine test (LM.here ?_)
    cases b with
    | true =>
      refine codeAny_handlers_suite_as ?_
      refine HandSPX.lands_againZ fl3 fun h4 fl4 up4 => ?_
      have J4 : Inv X pins σ' H' { s' with heap := h4 } := J.landed nb fl4.1 ((up.trans up3).trans up4) os ag
      obtain ⟨oe4, vs4, he4, hz4, hd4⟩ := fl4.there
      have T4 : Inv X pins σ' (upd H' a (ExK cls d a)) { s' with heap := h4 } := inv_track J4 n0 na nL (fun x c e z => by
        obtain ⟨v, o, e1, e2⟩ := J4.cell x c e
        rw [z] at e1
        have e1 : h4.get? a = some o := e1
        rw [he4] at e1
        cases e1
        rw [hd4] at e2
        cases e2) np' (exK_ok he4 hz4 hd4)
      have S4 := inv_suite T4 a
      refine store_ok (X := X.suite a (X.pn ++ pins)) (v := .ref a) S4 hN hi hloc rfl (fun s5 S5 => ?_) (.inr hln)
      refine wpAny_mono ((hsu a (X.pn ++ pins)).run [] s5 _ _ _ S5 (hyes rfl a na)) (fun f s6 hsp => ?_) (fun _ _ z => False.elim z)
      have end_ : ∀ {σ6 : L2.St} {H6 : Hp} {Q : Shared → Prop}, Inv (X.suite a (X.pn ++ pins)) [] σ6 H6 s6 → (∀ s7, Inv X pins (σ6.set i none) H6 s7 → Q s7) →
          wpAny (model X.prog X.w) X.A (do bindName X.env n .none; unbindBehindTheSuite X.env n pos') (fun _ s7 => Q s7) X.xe s6 := fun {σ6 H6 Q} S6 hq => gone_ok (inv_unsuite S6 ok) hN hi hln hq
      cases f with
      | next =>
        obtain ⟨σ6, H6, S6, q6⟩ := hsp
        exact end_ S6 fun s7 J7 => ⟨_, _, J7, q6⟩
      | brk =>
        obtain ⟨σ6, H6, S6, q6⟩ := hsp
        exact end_ S6 fun s7 J7 => ⟨_, _, J7, q6⟩
      | cont =>
        obtain ⟨σ6, H6, S6, q6⟩ := hsp
        exact end_ S6 fun s7 J7 => ⟨_, _, J7, q6⟩
      | ret u =>
        obtain ⟨v6, σ6, H6, S6, r6, q6⟩ := hsp
        exact end_ S6 fun s7 J7 => ⟨_, _, _, J7, r6, q6⟩
    | false =>
      show wpAny _ X.A (handleBy (.ref a) X.env []) _ _ _
      refine wpAny_handleBy_nil ?_
      obtain ⟨k1, k2, k3, oe, vs, T, oT, ts', he, hz, hd, h1, hr⟩ := id fl3
      unfold PySem.passOn
      refine wpAny_bind (wpAny_field he hd h1 ?_)
      rw [if_neg (show ¬ ((Value.ref T == Value.none) = true) from by simp)]
      have fin : wpAny (model X.prog X.w) X.A (setFlight (.ref a) X.env.frame) (fun _ s4 => wpAny (model X.prog X.w) X.A (throw (.ref a) : Sem Flow) (SP X pins D) X.xe s4) X.xe { s' with heap := h3 } := by
        rw [hf]
        refine HandSPX.setFlight_upZ fl3 fun h4 hh4 up4 => wpAny_throw (tk _ _ ?_)
        exact ⟨a, B, sI, pins, σ', H', cls, d, rfl, J, nb, (up.trans up3).trans up4, .inr (.inr (by rw [hs]; exact hh4)), na, os, ag, hno rfl⟩
      first
        | exact wpAny_bind (wpAny_pure (wpAny_bind fin))
        | exact wpAny_bind fin
  · cases f with
    | next =>
      obtain ⟨σ', H', J', q⟩ := hsp
      exact wpAny_execs_nil ⟨σ', H', J'.ofTry ok, q⟩
    | brk =>
      obtain ⟨σ', H', J', q⟩ := hsp
      exact ⟨σ', H', J'.ofTry ok, q⟩
    | cont =>
      obtain ⟨σ', H', J', q⟩ := hsp
      exact ⟨σ', H', J'.ofTry ok, q⟩
    | ret u =>
      obtain ⟨v, σ', H', J', r, q⟩ := hsp
      exact ⟨v, σ', H', J'.ofTry ok, r, q⟩
end
/-! ### of a kept exception: isinstance, a field -/
theorem instK {X : Cx} {pins : List (Addr × Obj)} {σ : L2.St} {H : Hp} {s : Shared} {a C dd : Addr} {fs : List (Str × V)} (I : Inv X pins σ H s) (e : H a = some (ExK (.ref C) (some dd) a)) (ed : H dd = some (.xd fs)) :
    ∃ oe od, PySem.W.InstAt s.heap a oe C (some od) ∧ ∃ mA, s.heap.Ns1 dd mA ∧ (∀ f, RelO (fs.lookup f) (mA f)) ∧ s.heap.get? dd = some od ∧ ∀ n, PySem.W.lookIn n od = some (mA n) := by
  obtain ⟨oe, vs, ha, hz, hd⟩ := exK_at I.hok e
  have hx : ObjOk X.prog X.w H s.heap dd (.xd fs) := I.hok dd _ ed
  obtain ⟨mA, hns, hr⟩ := hx
  obtain ⟨od, ho, hl⟩ := lookIn_ns hns
  exact ⟨oe, od, ⟨ha, hz.1, by unfold PySem.W.notCls; rw [hd] <;> rfl, by rw [hz.2]; exact ho⟩, mA, hns, hr, ho, hl⟩
/-- isinstance(e, c) -/
def rIsK (K : PySem.W.Frag) : List V → Hp → VK → Prop := fun xs H Q => ∃ (a C dd : Addr) (fs : List (Str × V)) (c : V) (cv : Value) (b : Bool), xs = [.ref a, c] ∧ H a = some (ExK (.ref C) (some dd) a) ∧ H dd = some (.xd fs) ∧ ExcC K C ∧ (∀ u, RelV c u → u = cv) ∧ PySem.W.kitOne K (.ref C) cv = some b ∧ Q (.bl b) H
theorem call_isK {X : Cx} : CallR X (.builtin "isinstance") (rIsK X.K) := by
  intro pins s σ H xs us Q I r h
  obtain ⟨a, D, dd, fs, c, cv, b, rfl, ea, ed, C, hcv, e, q⟩ := h
  cases r with
  | cons rx rr =>
    cases rr with
    | cons rt rr =>
      cases rr
      cases rx
      have ec := hcv _ rt
      subst ec
      obtain ⟨oe, od, J, _⟩ := instK I ea ed
      exact PySem.W.kia_one (PySem.W.kitx_exc (od := some od) (by obtain ⟨cd, hc, _⟩ := PySem.W.any_some C.hd; rw [hc]; rfl) C.hg C.hk C.hs C.ha C.hn C.ht C.hm) I.kIn J e (fun z => nomatch z) fun tk => ⟨.bl b, H, I.kept (t' := tk) fun _ _ z => z, rfl, q⟩
/-- e.f -/
def tXk (K : PySem.W.Frag) (f : Str) (te : TE) : TE := fun σ H Q => te σ H fun x H1 => ∃ (a C dd : Addr) (fs : List (Str × V)) (v : V), x = .ref a ∧ H1 a = some (ExK (.ref C) (some dd) a) ∧ H1 dd = some (.xd fs) ∧ XfC K C ∧ PySem.W.findIn K (.ref C) f = some none ∧ fs.lookup f = some v ∧ Q v H1
theorem pe_xk {X : Cx} {e : Expr} {te : TE} {pos : Pos} {n : Str} (he : PE X e te) (hb : attributeBase e n X.env (eval e X.env) = eval e X.env := by rfl) : PE X (.Attribute e n pos) (tXk X.K n te) := by
  refine ⟨fun pins s σ H Q I h => ?_⟩
  refine attr_of hb (thn (he.run pins s σ H _ I h) fun u s1 hh => ?_)
  obtain ⟨x, H1, I1, rx, a, C, dd, fs, v, ex, ea, ed, T, hno, l, q⟩ := hh
  subst ex
  obtain rfl : u = Value.ref a := rx
  obtain ⟨oe, od, J, mA, hns, hr, ho, hl⟩ := instK I1 ea ed
  obtain ⟨u, hu, ru⟩ := RelO.some_of (v := v) (o := mA n) (by rw [← l]; exact hr n)
  exact HandSPX.exc_get I1.kIn J T.ga T.gg T.exC (PySem.W.findObj_own T.hdC hno rfl (by rw [hl, hu])) (handed_of ru) ⟨v, H1, I1.tok _, ru, q⟩
end K91
set_option Elab.async false
set_option linter.all false
set_option maxRecDepth 100000
set_option maxHeartbeats 4000000
/-! K91, AC: a lambda handed to _law_heard (lines of HandS.Lambda, turned to a clause that keeps its error). -/
namespace K91
open PySem PySem.Spec PyProof.Rows L2 LamX
section
variable {X : Cx} {pins : List (Addr × Obj)} {σ : L2.St} {H HZ : Hp} {s s1 : Shared}
/-- x(), in the def that got the lambda: Z is that def's context, entered at s -/
theorem pe_act2 {CXg : CXT} {Eg : XK} {Ng : List Str} {qg : Str} {sg : Scope} {g f c' : Addr} {cdg pm ctv : Value} {params : Arguments} {body : Expr} {scope : Scope} {k i : Nat} {a : Str} {pn : List (Addr × Obj)} {xe : Value → Shared → Prop} {W : WX} {E : XK} {tb : TE} {p1 p2 : Pos}
    (I : Inv X pins σ H s) (L : LamS X.env.scope scope) (hf : s.heap.get? f = some (PySem.W.kla_obj "<lambda>" (X.env.qual ++ "<lambda>") params body scope (cloFrom X.env.cells scope.names []) pm c' ctv)) (hfn : H f = none) (hfr : f ∉ frs X.stack)
    (hbind : bindArgs (PySem.W.kla_fn "<lambda>" (X.env.qual ++ "<lambda>") params body scope (cloFrom X.env.cells scope.names []) pm (.ref c') ctv) ⟨[], []⟩ = pure [])
    (tk : Takes ((cxOf CXg X.prog X.w X.K X.mg X.base Ng qg sg g cdg X.A X.stack s H Eg).tr pn xe) W) (hr : Room (k + 1) (X.A.deeper (envOfC qg sg s.heap.objs.size g cdg)))
    (hbody : ∀ (A : Around) (outer : List Env) (s : Shared) (H : Hp), Room k (A.deeper (lamEnv X scope s.heap.objs.size f c')) → PE (lamCx X A outer s H E scope f c') body tb)
    (hN : Ng[i]? = some a) (hv : Vis sg a) (hd : (a == ("__debug__" : Str)) = false := by decide) (hcd : (a == ("__classdict__" : Str)) = false := by decide) :
    PE ((cxOf CXg X.prog X.w X.K X.mg X.base Ng qg sg g cdg X.A X.stack s H Eg).tr pn xe) (.Call (.Name a p1) [] [] p2)
      (fun σZ HZ Q => σZ[i]? = some (some (.ref f)) ∧ HZ c' = some (CodeO c' (X.env.qual ++ "<lambda>")) ∧ (∀ cls d H', E cls d H' → W cls d σZ H') ∧ tb σ HZ Q) := by
  refine ⟨fun pinsZ sZ σZ HZ Q IZ h => ?_⟩
  obtain ⟨hs, hc, hW, ht⟩ := h
  refine wpAny_Call_Name_kw (thn ((pe_var (pos := p1) (i := i) hN hv hd hcd).run pinsZ sZ σZ HZ (fun v H1 => v = .ref f ∧ H1 = HZ) IZ ⟨.ref f, hs, rfl, rfl⟩) fun u s1 ⟨v, H1, I1, r1, q1⟩ => ?_)
  obtain ⟨ev, eH⟩ := q1
  subst ev
  rw [eH] at I1
  obtain rfl : u = Value.ref f := r1
  have of1 : s1.heap.get? f = some (PySem.W.kla_obj "<lambda>" (X.env.qual ++ "<lambda>") params body scope (cloFrom X.env.cells scope.names []) pm c' ctv) := I1.base.keep f _ hf hfn hfr (fun z => nomatch (show f ∈ ([] : List Addr) from z))
  refine PySem.W.callWith_F0 ⟨_, _, _, _, of1⟩ ?_
  have un : Un (frs X.stack) [] H HZ s.heap s1.heap := I1.base
  obtain ⟨⟨oc, vs, t, hoc, hdc, hvc⟩, _, _⟩ := I1.hok c' _ hc
  have rc : codeAny (model X.prog X.w) (X.A.deeper (envOfC qg sg s.heap.objs.size g cdg)) (.call (.ref f) ⟨[], []⟩) (CR (L2.CX X.prog X.w) (envOfC qg sg s.heap.objs.size g cdg :: X.stack) X.prog X.w HZ s1 Q E) s1 := by
    refine PySem.W.kla_callFunE hr.depth of1 rfl L.co L.gen rfl ⟨c', oc, vs, t, rfl, hoc, hdc, hvc⟩ ?_
    rw [hbind]
    refine wpAny_pure (wpAny_newFunctionEnv (fun y hy => (L.own y hy).2) (fun y hy => absurd hy (by simp)) (fun h₁ hns hsb => ⟨I1.nolimit.fresh _ hsb, ?_⟩) L.kind)
    show codeAny _ _ (.expr body (lamEnv X scope s1.heap.objs.size f c')) _ _
    have kp : ∀ b o, s1.heap.get? b = some o → h₁.get? b = some o := fun b o e => hsb.extBut b o (Nat.ne_of_lt (Heap.lt_size e)) (Heap.get?_push_of_some _ e)
    have J : Inv (lamCx X (X.A.deeper (envOfC qg sg s.heap.objs.size g cdg)) (envOfC qg sg s.heap.objs.size g cdg :: X.stack) s1 HZ E scope f c') [] σ HZ { s1 with heap := h₁, toks := s1.toks + ([] : List (Str × Value)).length } :=
      lam_start2 I L I1.env0 hr.hd un hns kp
    refine PySem.W.kla_codeExpr (wpAny_mono ((hbody _ _ s1 HZ (hr.deeper _)).run [] _ _ HZ Q J ht) (fun v s' hq => ?_) fun e s' hq => hq)
    obtain ⟨w', H', J', rv, q⟩ := hq
    exact ⟨w', H', J'.os, J'.bare, J'.base, J'.hok, rv, q⟩
  refine wpAny_call (codeAny_mono rc fun r s' hq => ?_)
  cases r with
  | error e => exact tk e s' (XE.of_call I1 hW hq)
  | ok fl =>
    cases fl with
    | ret u => exact I1.after hq
    | next => exact False.elim hq
    | brk => exact False.elim hq
    | cont => exact False.elim hq
end
/-- the def that calls what it got: a calls it; TT: what it makes of the lambda's reading -/
def GivesTo2 (X : Cx) (Ng : List Str) (x : Str) (sg : Scope) (g : Addr) (cdg : Value) (bg : List Stmt) (a : Str) (q : Str) (TT : (XK → Hp → VK → Prop) → Hp → VK → Prop) : Prop :=
  ∀ (f c' : Addr) (s : Shared) (H : Hp) (Q : VK) (tl : XK → Hp → VK → Prop),
    (∀ (W : WX) (pn : List (Addr × Obj)) (xe : Value → Shared → Prop) (E : XK) (p1 p2 : Pos), Takes ((cxOf C8.CX0 X.prog X.w X.K X.mg X.base Ng x sg g cdg X.A X.stack s H C8.E0).tr pn xe) W →
      PE ((cxOf C8.CX0 X.prog X.w X.K X.mg X.base Ng x sg g cdg X.A X.stack s H C8.E0).tr pn xe) (.Call (.Name a p1) [] [] p2) (fun σZ HZ Q => σZ[0]? = some (some (.ref f)) ∧ HZ c' = some (CodeO c' q) ∧ (∀ cls d H', E cls d H' → W cls d σZ H') ∧ tl E HZ Q)) →
    H c' = some (CodeO c' q) → TT tl H Q →
    ∃ t, PSs (cxOf C8.CX0 X.prog X.w X.K X.mg X.base Ng x sg g cdg X.A X.stack s H C8.E0).nox bg t ∧ t { nx := fun _ H' => Q .non H', rt := Q } (L2.start Ng [.ref f]) H
def tLam2 (T : List (Addr × Str)) (TT : (XK → Hp → VK → Prop) → Hp → VK → Prop) (t : XK → TE) : TE := fun σ H Q => Tabs T H ∧ ∀ H1, ExtN H H1 → Tabs T H1 → TT (fun E H' Q' => t E σ H' Q') H1 Q
section
variable {X : Cx}
/-- x(lambda: body) -/
theorem pe_lamcall2 {T : List (Addr × Str)} {TT : (XK → Hp → VK → Prop) → Hp → VK → Prop} {x a : Str} {g c P : Addr} {k : Nat} {pg : Arguments} {bg : List Stmt} {sg : Scope} {dV kV doc pm cdv ct oc : Value} {an od : Option Addr} {osl : Array (Option Value)} {Ng : List Str}
    {params : Arguments} {body : Expr} {scope : Scope} {t : XK → TE} {p lpos pos : Pos} (hg : Gl X x) (hm : X.mg x = some (.ref g)) (hk : PySem.W.keepIn X.K (.ref g) = true)
    (lk : X.K.lookup g = some ⟨oc, od, .func (PySem.W.fnOf x x pg bg sg dV kV doc pm an cdv ct), osl⟩) (hcg : PySem.W.codeIn X.K cdv x = true) (hb : L2.Binds X.K (PySem.W.fnOf x x pg bg sg dV kV doc pm an cdv ct) [a] []) (Sg : FnScope Ng [a] sg) (hNg : Ng[0]? = some a) (hva : Vis sg a)
    (hG : GivesTo2 X Ng x sg g cdv bg a (X.env.qual ++ "<lambda>") TT)
    (TB : TabB X.base X.mg c P) (hcode : X.env.code = .ref c) (hmT : (P, X.env.qual ++ "<lambda>") ∈ T) (hu : ∀ p ∈ T, p.1 = P → p.2 = X.env.qual ++ "<lambda>") (hr : Room (k + 2) X.A) (L : LamS X.env.scope scope) (hdef : defaultsOf params X.env = ([], []))
    (hbind : ∀ (q : Str) (cl : List (Str × Addr)) (pm cv ctv : Value), bindArgs (PySem.W.kla_fn "<lambda>" q params body scope cl pm cv ctv) ⟨[], []⟩ = pure [])
    (hbody : ∀ (A : Around) (outer : List Env) (s : Shared) (H : Hp) (E : XK) (f c' : Addr), Room k (A.deeper (lamEnv X scope s.heap.objs.size f c')) → PE (lamCx X A outer s H E scope f c') body (t E))
    (hdb : (x == ("__debug__" : Str)) = false := by decide) (hd : (a == ("__debug__" : Str)) = false := by decide) (hcd : (a == ("__classdict__" : Str)) = false := by decide) :
    PE X (.Call (.Name x p) [.Lambda params body scope lpos] [] pos) (tLam2 T TT t) := by
  refine ⟨fun pins s σ H Q I h => ?_⟩
  obtain ⟨hT, h⟩ := h
  refine wpAny_Call_Name_kw (ld_glob I hg hm ?_ hdb)
  refine PySem.W.callWith_K (h₀ := X.base) I.ok.mod.kin hk ?_ (by rfl) (by rfl)
  show wpAny _ _ (spliced ((false, eval (.Lambda params body scope lpos) X.env) :: backTo pos (starEach [] X.env))) _ _ s
  refine Calls.spliced_cons (lam_make2 I TB hcode hmT hu hT hdef (L.has I.ok) fun f c' pm' ctv H1 s' I1 eN T1 hf hfn hfr hco => ?_)
  refine Calls.spliced_nil ⟨I1.kIn, ?_⟩
  have rc : codeAny (model X.prog X.w) X.A (.call (.ref g) ⟨[.ref f], []⟩) (CR C8.CX0 X.stack X.prog X.w H1 s' Q C8.E0) s' := by
    refine run_ofS (N := Ng) (ps := [a]) (us := [.ref f]) (vs := [.ref f]) lk hcg Sg hr I1.env0 (hb s' [.ref f] I1.kIn rfl) (.cons rfl .nil) rfl fun hr' => ?_
    obtain ⟨t', ht', hq'⟩ := hG f c' s' H1 Q (fun E H' Q' => t E σ H' Q') (fun W pn xe E p1 p2 tk => pe_act2 (i := 0) I1 L hf hfn hfr (hbind _ _ _ _ _) tk hr' (fun A outer s H hr2 => hbody A outer s H E f c' hr2) hNg hva hd hcd) hco (h H1 eN T1)
    exact ⟨t', ht'.nox, hq'⟩
  refine wpAny_call (codeAny_mono rc fun r s2 hq => ?_)
  cases r with
  | error e => exact (show False from hq).elim
  | ok fl =>
    cases fl with
    | ret u => exact I1.after hq
    | next => exact False.elim hq
    | brk => exact False.elim hq
    | cont => exact False.elim hq
end
end K91
set_option Elab.async false
set_option linter.all false
set_option maxRecDepth 100000
set_option maxHeartbeats 4000000
/-! K91, AD: _law_heard. -/
namespace K91
open PySem PySem.Spec PyProof.Rows L2 LamX
/-- pairs of a word and a bool, as tuples -/
def RepP (H : Hp) : List (Str × Bool) → List V → Prop
  | [], xs => xs = []
  | (s, b) :: r, xs => ∃ t ys, xs = .ref t :: ys ∧ H t = some (.tup [.str s, .bl b]) ∧ RepP H r ys
theorem RepP.mono {H H' : Hp} (h : Same H H') : ∀ {ps : List (Str × Bool)} {xs : List V}, RepP H ps xs → RepP H' ps xs
  | [], _, e => e
  | (s, b) :: r, _, ⟨t, ys, e, h1, h2⟩ => ⟨t, ys, e, h _ _ h1, RepP.mono h h2⟩
theorem RepP.app {H : Hp} : ∀ {ps qs : List (Str × Bool)} {xs ys : List V}, RepP H ps xs → RepP H qs ys → RepP H (ps ++ qs) (xs ++ ys)
  | [], _, _, _, e, g => by
    have e : _ = [] := e
    rw [e]
    exact g
  | (s, b) :: r, _, _, _, ⟨t, ys, e, h1, h2⟩, g => ⟨t, _, by rw [e]; rfl, h1, RepP.app h2 g⟩
theorem RepP.len {H : Hp} : ∀ {ps : List (Str × Bool)} {xs : List V}, RepP H ps xs → xs.length = ps.length
  | [], _, e => by
    have e : _ = [] := e
    rw [e]
    rfl
  | (s, b) :: r, _, ⟨t, ys, e, h1, h2⟩ => by rw [e, List.length_cons, List.length_cons, RepP.len h2]
theorem RepP.get {H : Hp} : ∀ {ps : List (Str × Bool)} {xs : List V} {i : Nat} {x : V}, RepP H ps xs → xs[i]? = some x → ∃ s b t, ps[i]? = some (s, b) ∧ x = .ref t ∧ H t = some (.tup [.str s, .bl b])
  | [], _, i, x, e, h => by
    have e : _ = [] := e
    rw [e] at h
    simp at h
  | (s, b) :: r, _, 0, x, ⟨t, ys, e, h1, h2⟩, h => by
    rw [e] at h
    have h : V.ref t = x := by simpa using h
    exact ⟨s, b, t, rfl, h.symm, h1⟩
  | (s, b) :: r, _, i + 1, x, ⟨t, ys, e, h1, h2⟩, h => by
    rw [e] at h
    obtain ⟨s', b', t', e1, e2, e3⟩ := RepP.get (i := i) h2 (by simpa using h)
    exact ⟨s', b', t', by simpa using e1, e2, e3⟩
/-- ('s', isinstance(caught, C)), .. -/
def tRows (K : PySem.W.Frag) : List (Str × Addr) → TA
  | [] => tNil
  | (s, C) :: r => tCons (tTup (tCons (tC (.str s)) (tCons (tCB (rIsK K) (tCons (tVar 2) (tCons (tC (.ref C)) tNil))) tNil))) (tRows K r)
theorem rows_read {K : PySem.W.Frag} {mg : Str → Option Value} (T : Ctx K mg) {σ : L2.St} {a dd : Addr} {fs : List (Str × V)} (hσ : σ[2]? = some (some (.ref a))) : ∀ (cs : List (Str × Addr)) {H : Hp} {Q : List V → Hp → Prop}, (∀ p ∈ cs, p.2 ∈ xcs) → H a = some (ExK (.ref 161) (some dd) a) → H dd = some (.xd fs) →
    (∀ xs H', Same H H' → RepP H' (cs.map fun p => (p.1, decide (p.2 = 161))) xs → Q xs H') → tRows K cs σ H Q
  | [], H, Q, _, _, _, k => k [] H (Same.refl _) rfl
  | (s, C) :: r, H, Q, hc, ha, hd, k => by
    refine ⟨_, hσ, a, 161, dd, fs, .ref C, .ref C, _, rfl, ha, hd, T.xval.ec, fun u hu => hu, T.xval.kit C (hc _ List.mem_cons_self), by show 2 ≤ sizeLine; decide, fun t ht => ?_⟩
    refine rows_read T hσ r (fun p hp => hc p (List.mem_cons_of_mem _ hp)) (same_new ht _ _ ha) (same_new ht _ _ hd) fun xs H' sm rp => ?_
    exact k _ _ ((same_new ht).trans sm) ⟨t, xs, rfl, sm _ _ upd_same, rp⟩
/-- what _law_heard makes of a call -/
def heardE (Q : VK) : XK := fun cls d H' => ∃ dd, d = some dd ∧ ((cls = .ref 182 ∧ ∃ l i : V, H' dd = some (.xd [(("word" : Str), i), (("line" : Str), l)]) ∧ ∀ t G, Same H' G → G t = some (.tup [.str "text", l, i]) → Q (.ref t) G) ∨
  (cls = .ref 161 ∧ ∃ p : V, H' dd = some (.xd [(("part" : Str), p)]) ∧ ∀ t G, Same H' G → G t = some (.tup [.str "value", p]) → Q (.ref t) G))
def TTheard : (XK → Hp → VK → Prop) → Hp → VK → Prop := fun tl H Q => ∀ (H1 : Hp) (R : V → Hp → Prop), Same H H1 → (∀ v H', (∀ t G, Same H' G → G t = some (.lst [v]) → Q (.ref t) G) → R v H') → tl (heardE Q) H1 R
def pickd (ps : List (Str × Bool)) : List V := (ps.filter (·.2)).map fun p => V.str p.1
theorem pickd_take {ps : List (Str × Bool)} {i : Nat} {s : Str} {b : Bool} (h : ps[i]? = some (s, b)) : pickd (ps.take (i + 1)) = if b = true then pickd (ps.take i) ++ [V.str s] else pickd (ps.take i) := by
  unfold pickd
  rw [List.take_succ, h]
  cases b with
  | true => simp
  | false => simp
theorem heard_gives {X : Cx} (T : Ctx X.K X.mg) {cdg : Value} {q : Str} : GivesTo2 X N_l_heard "_law_heard" (defScope s_l_heard) 1050 cdg (defBody s_l_heard) "ask" q TTheard := by
  intro f c' s H Q tl act hc h
  have hu : (cxOf C8.CX0 X.prog X.w X.K X.mg X.base N_l_heard "_law_heard" (defScope s_l_heard) 1050 cdg X.A X.stack s H C8.E0).nox.mg = X.mg := rfl
  refine ⟨_, pss_cons (ps_asg (pe_tup (pa_cons pe_non (pa_cons pe_non pa_nil))) (pg_tup rfl (pgs_cons (pg_name (i := 1) sc_l_heard.nd rfl (Or.inl rfl)) (pgs_cons (pg_name (i := 2) sc_l_heard.nd rfl (Or.inl rfl)) pgs_nil))))
    (pss_cons (ps_try_keep (X := (cxOf C8.CX0 X.prog X.w X.K X.mg X.base N_l_heard "_law_heard" (defScope s_l_heard) 1050 cdg X.A X.stack s H C8.E0).nox) (c := .ref 31) (i := 3) (Wout := fun _ _ _ _ => False)
        (tb := fun W D σ H => ∃ Ech : XK, (∀ cls d H', Ech cls d H' → W cls d σ H') ∧ σ[0]? = some (some (.ref f)) ∧ H c' = some (CodeO c' q) ∧ tl Ech H (fun v H' => gName 1 v σ H' D.nx)) (ts := fun a => tAsg (tVar 3) (gName 2))
        rfl rfl rfl sc_l_heard.nd rfl rfl ⟨rfl, by decide, .inl (T.glo (x := "RunError") (a := 31))⟩ LamX.takes0 (fun W pn xe tk _ => ⟨fun pins s' σ H' D I h' => by
          obtain ⟨Ech, hW, h1, h2, h3⟩ := h'
          exact (pss_one (ps_asg (act W pn xe Ech _ _ tk) (pg_name (i := 1) sc_l_heard.nd rfl (Or.inl rfl)))).run pins s' σ H' D I ⟨h1, h2, hW, h3⟩⟩)
        (fun a pn => pss_one (ps_asg (pv 3) (pg_name (i := 2) sc_l_heard.nd rfl (Or.inl rfl)))))
    (pss_cons (ps_if (pt_cmpR op_isN (pv 2) pe_non (nomark _)) (pss_one (ps_ret (pe_lst (pa_cons (pv 1) pa_nil)))) pss_nil)
    (pss_cons (ps_if (pt_val (pe_callB call_isK rfl T.free (by decide +kernel) (pa_cons (pv 2) (pa_cons (pe_glob (v := .ref 236) rfl (T.glo (x := "TooMany")) rfl) pa_nil)))) (pss_one ps_never) pss_nil)
    (pss_cons (ps_if (pt_val (pe_callB call_isK rfl T.free (by decide +kernel) (pa_cons (pv 2) (pa_cons (pe_glob (v := .ref 215) rfl (T.glo (x := "Nothing")) rfl) pa_nil)))) (pss_one ps_never) pss_nil)
    (pss_cons (ps_if (pt_val (pe_callB call_isK rfl T.free (by decide +kernel) (pa_cons (pv 2) (pa_cons (pe_glob (v := .ref 182) rfl (T.glo (x := "BadText")) rfl) pa_nil)))) (pss_one (ps_ret (pe_tup (pa_cons pe_str (pa_cons (pe_xk (pv 2)) (pa_cons (pe_xk (pv 2)) pa_nil)))))) pss_nil)
    (pss_cons (ps_if (pt_val (pe_callB call_isK rfl T.free (by decide +kernel) (pa_cons (pv 2) (pa_cons (pe_glob (v := .ref 203) rfl (T.glo (x := "BadCommand")) rfl) pa_nil)))) (pss_one ps_never) pss_nil)
    (pss_cons (ps_asg (pe_lst (t := tRows X.K [(("world" : Str), 65), (("deed" : Str), 77), (("other" : Str), 89), (("plan" : Str), 101)]) (pa_cons (pe_tup (pa_cons pe_str (pa_cons (pe_callB call_isK rfl T.free (by decide +kernel) (pa_cons (pv 2) (pa_cons (pe_glob (v := .ref 65) rfl (T.glo (x := "BadWorld")) rfl) pa_nil))) pa_nil))) (pa_cons (pe_tup (pa_cons pe_str (pa_cons (pe_callB call_isK rfl T.free (by decide +kernel) (pa_cons (pv 2) (pa_cons (pe_glob (v := .ref 77) rfl (T.glo (x := "BadDeed")) rfl) pa_nil))) pa_nil))) (pa_cons (pe_tup (pa_cons pe_str (pa_cons (pe_callB call_isK rfl T.free (by decide +kernel) (pa_cons (pv 2) (pa_cons (pe_glob (v := .ref 89) rfl (T.glo (x := "BadOther")) rfl) pa_nil))) pa_nil))) (pa_cons (pe_tup (pa_cons pe_str (pa_cons (pe_callB call_isK rfl T.free (by decide +kernel) (pa_cons (pv 2) (pa_cons (pe_glob (v := .ref 101) rfl (T.glo (x := "BadPlan")) rfl) pa_nil))) pa_nil))) pa_nil))))) (pg_name (i := 4) sc_l_heard.nd rfl (Or.inl rfl)))
    (pss_cons (ps_asg (pe_op op_cat (pv 4) (pe_lst (t := tRows X.K [(("program" : Str), 113), (("run" : Str), 125), (("lot" : Str), 137), (("number" : Str), 149)]) (pa_cons (pe_tup (pa_cons pe_str (pa_cons (pe_callB call_isK rfl T.free (by decide +kernel) (pa_cons (pv 2) (pa_cons (pe_glob (v := .ref 113) rfl (T.glo (x := "BadProgram")) rfl) pa_nil))) pa_nil))) (pa_cons (pe_tup (pa_cons pe_str (pa_cons (pe_callB call_isK rfl T.free (by decide +kernel) (pa_cons (pv 2) (pa_cons (pe_glob (v := .ref 125) rfl (T.glo (x := "BadRun")) rfl) pa_nil))) pa_nil))) (pa_cons (pe_tup (pa_cons pe_str (pa_cons (pe_callB call_isK rfl T.free (by decide +kernel) (pa_cons (pv 2) (pa_cons (pe_glob (v := .ref 137) rfl (T.glo (x := "BadLot")) rfl) pa_nil))) pa_nil))) (pa_cons (pe_tup (pa_cons pe_str (pa_cons (pe_callB call_isK rfl T.free (by decide +kernel) (pa_cons (pv 2) (pa_cons (pe_glob (v := .ref 149) rfl (T.glo (x := "BadNumber")) rfl) pa_nil))) pa_nil))) pa_nil)))))) (pg_name (i := 4) sc_l_heard.nd rfl (Or.inl rfl)))
    (pss_cons (ps_setLc (i := 5) (own := [("word", 6), ("is_so", 7)]) (g := gTup X.K 2 (gCons (gName 6) (gCons (gName 7) gNil))) (tt := tB (tVar 7)) (te := tVar 6) rfl sc_l_heard.nd rfl rfl rfl (pi_list (pe_op op_cat (pv 4) (pe_lst (t := tRows X.K [(("value" : Str), 161)]) (pa_cons (pe_tup (pa_cons pe_str (pa_cons (pe_callB call_isK rfl T.free (by decide +kernel) (pa_cons (pv 2) (pa_cons (pe_glob (v := .ref 161) rfl (T.glo (x := "BadValue")) rfl) pa_nil))) pa_nil))) pa_nil)))) (blkOk_by (N := N_l_heard) (sc := defScope s_l_heard) (by decide +kernel))
        (fun _ _ _ _ _ => pg_tup rfl (pgs_cons (pg_name (i := 6) sc_l_heard.nd rfl (Or.inl rfl)) (pgs_cons (pg_name (i := 7) sc_l_heard.nd rfl (Or.inl rfl)) pgs_nil))) (fun _ _ _ _ _ => pts_one (pt_val (pv 7))) (fun _ _ _ _ _ => pv 6))
    (pss_one (ps_ret (pe_ifExp (pt_cmpR op_eq (pe_callB call_len rfl T.free (by decide +kernel) (pa_cons (pv 5) pa_nil)) pe_int (nomark _)) (pe_tup (pa_cons (pe_ix ix_list (pv 5) pe_int (fun _ _ => rfl)) (pa_cons (pe_xk (pv 2)) pa_nil))) (pe_tup (pa_cons pe_str pa_nil)))))))))))))), ?_⟩
  refine ⟨by show 2 ≤ sizeLine; decide, fun t0 ht0 => ⟨t0, _, rfl, SqT.of upd_same, rfl, _, _, rfl, _, _, rfl, rfl, ?_⟩⟩
  have sm0 : Same H (upd H t0 (.tup [V.non, V.non])) := same_new ht0
  generalize upd H t0 (.tup [V.non, V.non]) = H1 at sm0 ⊢
  refine ⟨heardE Q, fun cls d H' he => ?_, rfl, sm0 _ _ hc, h H1 _ sm0 fun v H' k => ?_⟩
  · obtain ⟨dd, rfl, he⟩ := he
    rcases he with ⟨rfl, l, i, hdd, k⟩ | ⟨rfl, p, hdd, k⟩
    · refine ⟨true, T.xtxt.exm, fun _ a ha => ⟨_, rfl, ?_⟩, fun z => by cases z⟩
      have nda : dd ≠ a := ne_of_none hdd ha
      have sma : Same H' (upd H' a (ExK (.ref 182) (some dd) a)) := same_new ha
      have hA : upd H' a (ExK (.ref 182) (some dd) a) a = some (ExK (.ref 182) (some dd) a) := upd_same
      have hD := sma _ _ hdd
      generalize upd H' a (ExK (.ref 182) (some dd) a) = G at sma hA hD ⊢
      refine ⟨_, rfl, rfl, _, rfl, decF (fun z => by cases z) ?_⟩
      refine ⟨_, rfl, a, 182, dd, _, .ref 236, .ref 236, _, rfl, hA, hD, T.xtxt.ec, fun u hu => hu, T.xtxt.kit 236 (by decide), _, rfl, iteF ?_⟩
      refine ⟨_, rfl, a, 182, dd, _, .ref 215, .ref 215, _, rfl, hA, hD, T.xtxt.ec, fun u hu => hu, T.xtxt.kit 215 (by decide), _, rfl, iteF ?_⟩
      refine ⟨_, rfl, a, 182, dd, _, .ref 182, .ref 182, _, rfl, hA, hD, T.xtxt.ec, fun u hu => hu, T.xtxt.kit 182 (by decide), _, rfl, iteT ?_⟩
      refine ⟨_, rfl, a, 182, dd, _, l, rfl, hA, hD, T.xtxt.xf, T.xtxt.no "line" (by decide), ?_, _, rfl, a, 182, dd, _, i, rfl, hA, hD, T.xtxt.xf, T.xtxt.no "word" (by decide), ?_, by show 3 ≤ sizeLine; decide, fun t ht => k t _ (sma.trans (same_new ht)) upd_same⟩
      · rw [List.lookup_cons, show (("line" : Str) == ("word" : Str)) = false by decide +kernel, List.lookup_cons, show (("line" : Str) == ("line" : Str)) = true by decide +kernel]
      · rw [List.lookup_cons, show (("word" : Str) == ("word" : Str)) = true by decide +kernel]
    · refine ⟨true, T.xval.exm, fun _ a ha => ⟨_, rfl, ?_⟩, fun z => by cases z⟩
      have nda : dd ≠ a := ne_of_none hdd ha
      have sma : Same H' (upd H' a (ExK (.ref 161) (some dd) a)) := same_new ha
      have hA : upd H' a (ExK (.ref 161) (some dd) a) a = some (ExK (.ref 161) (some dd) a) := upd_same
      have hD := sma _ _ hdd
      generalize upd H' a (ExK (.ref 161) (some dd) a) = G at sma hA hD ⊢
      refine ⟨_, rfl, rfl, _, rfl, decF (fun z => by cases z) ?_⟩
      refine ⟨_, rfl, a, 161, dd, _, .ref 236, .ref 236, _, rfl, hA, hD, T.xval.ec, fun u hu => hu, T.xval.kit 236 (by decide), _, rfl, iteF ?_⟩
      refine ⟨_, rfl, a, 161, dd, _, .ref 215, .ref 215, _, rfl, hA, hD, T.xval.ec, fun u hu => hu, T.xval.kit 215 (by decide), _, rfl, iteF ?_⟩
      refine ⟨_, rfl, a, 161, dd, _, .ref 182, .ref 182, _, rfl, hA, hD, T.xval.ec, fun u hu => hu, T.xval.kit 182 (by decide), _, rfl, iteF ?_⟩
      refine ⟨_, rfl, a, 161, dd, _, .ref 203, .ref 203, _, rfl, hA, hD, T.xval.ec, fun u hu => hu, T.xval.kit 203 (by decide), _, rfl, iteF ?_⟩
      refine rows_read T (a := a) rfl _ (by decide) hA hD fun xs1 G1 sm1 rp1 => ⟨by rw [RepP.len rp1]; show 4 ≤ sizeLine; decide, fun l1 hl1 => ?_⟩
      have sn1 := sm1.trans (same_new (o := .lst xs1) hl1)
      have rq1 := RepP.mono (same_new (o := .lst xs1) hl1) rp1
      have hx1 : upd G1 l1 (.lst xs1) l1 = some (.lst xs1) := upd_same
      generalize upd G1 l1 (.lst xs1) = G2 at sn1 rq1 hx1 ⊢
      refine ⟨_, rfl, ?_⟩
      refine rows_read T (a := a) rfl _ (by decide) (sn1 _ _ hA) (sn1 _ _ hD) fun xs2 G3 sm3 rp3 => ⟨by rw [RepP.len rp3]; show 4 ≤ sizeLine; decide, fun l2 hl2 => ?_⟩
      refine ⟨l1, l2, xs1, xs2, rfl, rfl, (same_new hl2) _ _ (sm3 _ _ hx1), upd_same, by rw [RepP.len rp3, RepP.len rq1]; show 8 ≤ sizeLine; decide, fun l3 hl3 => ?_⟩
      have s4 := (sm3.trans (same_new (o := .lst xs2) hl2)).trans (same_new (o := .lst (xs1 ++ xs2)) hl3)
      have rq4 := RepP.app (RepP.mono s4 rq1) (RepP.mono ((same_new (o := .lst xs2) hl2).trans (same_new (o := .lst (xs1 ++ xs2)) hl3)) rp3)
      have hx4 : upd (upd G3 l2 (.lst xs2)) l3 (.lst (xs1 ++ xs2)) l3 = some (.lst (xs1 ++ xs2)) := upd_same
      have sn4 := sn1.trans s4
      generalize upd (upd G3 l2 (.lst xs2)) l3 (.lst (xs1 ++ xs2)) = G4 at sn4 rq4 hx4 ⊢
      refine ⟨_, rfl, ?_⟩
      refine rows_read T (a := a) rfl _ (by decide) (sn4 _ _ hA) (sn4 _ _ hD) fun xs3 G5 sm5 rp5 => ⟨by rw [RepP.len rp5]; show 1 ≤ sizeLine; decide, fun l5 hl5 => ?_⟩
      refine ⟨l3, l5, _, xs3, rfl, rfl, (same_new hl5) _ _ (sm5 _ _ hx4), upd_same, by rw [RepP.len rp5, RepP.len rq4]; show 9 ≤ sizeLine; decide, fun l6 hl6 => ?_⟩
      have s6 := (sm5.trans (same_new (o := .lst xs3) hl5)).trans (same_new (o := .lst (xs1 ++ xs2 ++ xs3)) hl6)
      have rq6 := RepP.app (RepP.mono s6 rq4) (RepP.mono ((same_new (o := .lst xs3) hl5).trans (same_new (o := .lst (xs1 ++ xs2 ++ xs3)) hl6)) rp5)
      have hx6 : upd (upd G5 l5 (.lst xs3)) l6 (.lst (xs1 ++ xs2 ++ xs3)) l6 = some (.lst (xs1 ++ xs2 ++ xs3)) := upd_same
      have sn6 := sn4.trans s6
      have hlen6 := RepP.len rq6
      generalize upd (upd G5 l5 (.lst xs3)) l6 (.lst (xs1 ++ xs2 ++ xs3)) = G6 at sn6 rq6 hx6 ⊢
      generalize xs1 ++ xs2 ++ xs3 = xs at rq6 hx6 hlen6 ⊢
      refine ⟨l6, rfl, ⟨_, SqL.of hx6⟩, fun D hDn => ?_⟩
      refine lc_list (K := X.K) (a := l6) (xs := xs) (fun i G' => G' D = some (.lst (pickd ((List.map (fun p => (p.1, decide (p.2 = 161))) [(("world" : Str), 65), (("deed" : Str), 77), (("other" : Str), 89), (("plan" : Str), 101)] ++ List.map (fun p => (p.1, decide (p.2 = 161))) [(("program" : Str), 113), (("run" : Str), 125), (("lot" : Str), 137), (("number" : Str), 149)] ++ List.map (fun p => (p.1, decide (p.2 = 161))) [(("value" : Str), 161)]).take i))) ∧ Same G6 G') ⟨upd_same, same_new hDn⟩ (fun i G' _ z => SqL.of (z.2 _ _ hx6)) (fun i x G' hx z => ?_) (fun G' z => ?_)
      · obtain ⟨s', b', t', e1, rfl, e3⟩ := RepP.get rq6 hx
        obtain ⟨z1, z2⟩ := z
        refine ⟨t', _, rfl, SqT.of (z2 _ _ e3), rfl, _, _, rfl, _, _, rfl, rfl, rfl, _, rfl, b', rfl, ?_⟩
        rw [pickd_take e1]
        cases b' with
        | true =>
          refine iteT ⟨_, rfl, _, z1, ?_, ?_, fun b o e => by rw [upd_ne (ne_of_none e hDn)]; exact z2 _ _ e⟩
          · unfold pickd
            rw [List.length_map]
            refine Nat.lt_of_le_of_lt (List.length_filter_le _ _) (Nat.lt_of_le_of_lt (List.length_take_le' _ _) ?_)
            show 9 < sizeLine
            decide
          · rw [upd_same]
            exact congrArg (fun l => some (HO.lst l)) (if_pos rfl).symm
        | false => exact iteF ⟨by rw [z1]; exact congrArg (fun l => some (HO.lst l)) (if_neg Bool.false_ne_true).symm, z2⟩
      · obtain ⟨z1, z2⟩ := z
        rw [hlen6] at z1
        have z1 : G' D = some (.lst [V.str ("value" : Str)]) := z1
        refine ⟨_, rfl, _, _, rfl, .inl ⟨_, SqL.of z1, rfl⟩, rfl, _, rfl, iteT ?_⟩
        refine ⟨_, rfl, D, _, 0, _, rfl, rfl, SqL.of z1, at0 _ _, _, rfl, a, 161, dd, _, p, rfl, z2 _ _ (sn6 _ _ hA), z2 _ _ (sn6 _ _ hD), T.xval.xf, T.xval.no "part" (by decide), ?_, by show 2 ≤ sizeLine; decide, fun t ht => k t _ (((sma.trans sn6).trans z2).trans (same_new ht)) upd_same⟩
        rw [List.lookup_cons, show (("part" : Str) == ("part" : Str)) = true by decide +kernel]
  · refine ⟨_, rfl, rfl, _, rfl, decT rfl ⟨_, rfl, by show 1 ≤ sizeLine; decide, fun l hl => k l _ (same_new hl) upd_same⟩⟩
end K91
set_option Elab.async false
set_option linter.all false
set_option maxRecDepth 100000
set_option maxHeartbeats 4000000
/-! K91, AE: the pen: _law_pen, _law_draw, _law_pick. -/
namespace K91
open PySem PySem.Spec PyProof.Rows L2
/-- all but the list at p is kept -/
def SB (p : Addr) (H H' : Hp) : Prop := ∀ a o, a ≠ p → H a = some o → H' a = some o
theorem SB.refl {p : Addr} {H : Hp} : SB p H H := fun _ _ _ e => e
theorem SB.trans {p : Addr} {H H1 H2 : Hp} (a : SB p H H1) (b : SB p H1 H2) : SB p H H2 := fun x o n e => b x o n (a x o n e)
theorem SB.of {p : Addr} {H H1 : Hp} (a : Same H H1) : SB p H H1 := fun x o _ e => a x o e
theorem SB.at_ {p : Addr} {G : Hp} {o : HO} : SB p G (upd G p o) := fun a u n e => by
  rw [upd_ne n]
  exact e
theorem SB.sol {p : Addr} {H H' : Hp} {xs : List V} (h : SB p H H') (hp : H p = some (.lst xs)) : Sol H H' := fun a o e s => h a o (fun z => by rw [z, hp] at e; cases e; exact s) e
/-- what draws: cells at c, n at most were begun -/
def PenAt (p c : Addr) (n : Nat) (H : Hp) : Prop := ∃ (cs : List Int) (t : Nat) (r : Int), H p = some (.lst [.ref c, .int (t : Int), .int r]) ∧ H c = some (.lst (cs.map V.int)) ∧ t ≤ n ∧ cs.length ≤ 60 ∧ (∀ i ∈ cs, i.natAbs < 2 ^ 1048577) ∧ 0 ≤ r ∧ r.natAbs < 2 ^ 1048600
theorem PenAt.le {p c : Addr} {n m : Nat} {H : Hp} (h : n ≤ m) : PenAt p c n H → PenAt p c m H := fun ⟨cs, t, r, e1, e2, e3, e⟩ => ⟨cs, t, r, e1, e2, Nat.le_trans e3 h, e⟩
theorem PenAt.ne {p c : Addr} {n : Nat} {H : Hp} (h : PenAt p c n H) : p ≠ c ∧ ∃ xs ys, H p = some (.lst xs) ∧ H c = some (.lst ys) := by
  obtain ⟨cs, t, r, e1, e2, _⟩ := h
  refine ⟨fun z => ?_, _, _, e1, e2⟩
  rw [← z, e1] at e2
  have e3 : [V.ref c, .int (t : Int), .int r] = cs.map V.int := by injection e2 with e2; injection e2
  cases cs with
  | nil => cases e3
  | cons a cs => injection e3 with e4 _; cases e4
theorem PenAt.mono {p c : Addr} {n : Nat} {H H' : Hp} (h : Same H H') : PenAt p c n H → PenAt p c n H' := fun ⟨cs, t, r, e1, e2, e⟩ => ⟨cs, t, r, h _ _ e1, h _ _ e2, e⟩
theorem PenAt.upd {p c D : Addr} {n : Nat} {H : Hp} {o : HO} (h1 : D ≠ p) (h2 : D ≠ c) : PenAt p c n H → PenAt p c n (L2.upd H D o) := fun ⟨cs, t, r, e1, e2, e⟩ => ⟨cs, t, r, by rw [upd_ne h1.symm]; exact e1, by rw [upd_ne h2.symm]; exact e2, e⟩
theorem iteT' {p : Prop} [Decidable p] {A B : Prop} (h : p) (k : A) : if decide p = true then A else B := by
  rw [if_pos (decide_eq_true h)]
  exact k
theorem iteF' {p : Prop} [Decidable p] {A B : Prop} (h : ¬ p) (k : B) : if decide p = true then A else B := by
  rw [if_neg (fun z => h (of_decide_eq_true z))]
  exact k
def spDraw : Sp := fun vs H Q _ => ∃ (p c : Addr) (n : Nat) (m : Int), vs = [.ref p, .int m] ∧ 0 < m ∧ m.natAbs < 2 ^ 60 ∧ PenAt p c n H ∧ n ≤ 1000000 ∧ ∀ (i : Nat) H', (i : Int) < m → SB p H H' → PenAt p c (n + 1) H' → Q (.int (i : Int)) H'
section
variable {w : World} {K : PySem.W.Frag} {mg : Str → Option Value} {base : Heap}
theorem ok_draw (T : Ctx K mg) : FnOk PW w K mg base CX0 1 r_l_draw.at_ (fdOf K r_l_draw.at_) P_l_draw spDraw := by
  have F := T.fun_ r_l_draw m_l_draw
  refine F.ok sc_l_draw (fun vs H Q E h => ?_) (fun cdv A outer s H vs Q E hr h => ⟨_, pss_cons (ps_if (pt_cmpR op_gt (pe_ix ix_list (pv 0) pe_int (fun _ _ => rfl)) pe_int (nomark _)) (pss_cons (ps_asg (pe_callTy call_int1 rfl T.free (by decide +kernel) (pa_cons (pe_ix ix_list (pv 0) pe_int (fun _ _ => rfl)) pa_nil)) (pg_name (i := 2) sc_l_draw.nd rfl (Or.inl rfl)))
      (pss_cons (ps_asg (pe_op op_fdivW (pv 2) (pv 1)) (pg_sub (pv 0) pe_int set_list)) (pss_one (ps_ret (pe_op op_mod (pe_callTy call_int1 rfl T.free (by decide +kernel) (pa_cons (pv 2) pa_nil)) (pv 1)))))) pss_nil)
    (pss_cons (ps_asg (pe_ix ix_list (pv 0) pe_int (fun _ _ => rfl)) (pg_name (i := 3) sc_l_draw.nd rfl (Or.inl rfl)))
    (pss_cons (ps_asg (pe_op op_add (pv 3) pe_int) (pg_sub (pv 0) pe_int set_list))
    (pss_cons (ps_asg (pe_op op_add (pe_op op_mulX pe_int (pv 3)) pe_int) (pg_name (i := 4) sc_l_draw.nd rfl (Or.inl rfl)))
    (pss_cons (ps_if (pt_cmpR (op_neE (Nat.lt_of_succ_lt (hu_of hr))) (pe_ix ix_list (pv 0) pe_int (fun _ _ => rfl)) (pe_lst pa_nil) (nomark _)) (pss_one (ps_asg (pe_ix ix_list (pe_ix ix_list (pv 0) pe_int (fun _ _ => rfl)) (pe_op op_mod (pe_callTy call_int1 rfl T.free (by decide +kernel) (pa_cons (pv 3) pa_nil)) (pe_callB call_len rfl T.free (by decide +kernel) (pa_cons (pe_ix ix_list (pv 0) pe_int (fun _ _ => rfl)) pa_nil))) (fun _ _ => rfl)) (pg_name (i := 4) sc_l_draw.nd rfl (Or.inl rfl)))) pss_nil)
    (pss_cons (ps_if (PW.pt (pw_and (pt_cmpR op_lt (pv 3) (pe_callB call_len rfl T.free (by decide +kernel) (pa_cons (pe_ix ix_list (pv 0) pe_int (fun _ _ => rfl)) pa_nil)) (nomark _)) (pw_and1 (pt_cmpR op_ge (pe_callB call_abs rfl T.free (by decide +kernel) (pa_cons (pv 4) pa_nil)) (pe_op op_pow pe_int pe_int) (nomark _)))))
        (pss_cons (ps_asg (pe_op op_add (pe_op op_mulX pe_int (pe_op op_sub (pe_callB call_abs rfl T.free (by decide +kernel) (pa_cons (pv 4) pa_nil)) (pe_op op_pow pe_int pe_int))) (pe_callTy call_int1 rfl T.free (by decide +kernel) (pa_cons (pe_cmpR op_lt (pv 4) pe_int (nomark _)) pa_nil))) (pg_name (i := 2) sc_l_draw.nd rfl (Or.inl rfl)))
        (pss_cons (ps_asg (pe_op op_fdivW (pe_callTy call_int1 rfl T.free (by decide +kernel) (pa_cons (pv 2) pa_nil)) (pv 1)) (pg_sub (pv 0) pe_int set_list))
        (pss_one (ps_ret (pe_op op_mod (pe_callTy call_int1 rfl T.free (by decide +kernel) (pa_cons (pv 2) pa_nil)) (pv 1)))))) pss_nil)
    (pss_cons (ps_asg (pe_op op_mod (pe_callTy call_int1 rfl T.free (by decide +kernel) (pa_cons (pe_op op_pow (pe_op op_add (pe_op op_add (pe_op op_mod (pe_callTy call_int1 rfl T.free (by decide +kernel) (pa_cons (pv 4) pa_nil)) pe_int) (pe_op op_mulX pe_int (pv 3))) pe_int) pe_int) pa_nil)) pe_int) (pg_name (i := 5) sc_l_draw.nd rfl (Or.inl rfl)))
    (pss_cons (ps_asg (pe_op op_mod (pe_callTy call_int1 rfl T.free (by decide +kernel) (pa_cons (pe_op op_pow (pe_op op_add (pe_op op_add (pe_op op_mulX (pv 5) (pe_op op_add (pe_op op_mulX pe_int (pv 3)) pe_int)) (pe_op op_mulX (pe_op op_mulX pe_int (pv 3)) (pv 3))) pe_int) pe_int) pa_nil)) pe_int) (pg_name (i := 5) sc_l_draw.nd rfl (Or.inl rfl)))
    (pss_one (ps_ret (pe_op op_mod (pe_callTy call_int1 rfl T.free (by decide +kernel) (pa_cons (pe_op op_fdiv (pv 5) pe_int) pa_nil)) (pv 1))))))))))), ?_⟩)
  · obtain ⟨p, c, n, m, rfl, _⟩ := h
    rfl
  · obtain ⟨p, c, n, m, rfl, hm, hm2, hP, hn, k⟩ := h
    obtain ⟨cs, t, r, hp, hc, ht, hl, hb, hr0, hr1⟩ := id hP
    have npc : c ≠ p := fun z => by
      rw [z, hp] at hc
      have e3 : [V.ref c, .int (t : Int), .int r] = cs.map V.int := by injection hc with e2; injection e2
      cases cs with
      | nil => cases e3
      | cons a cs => injection e3 with e4 _; cases e4
    have hdiv : ∀ z : Int, CDivW z m := fun z => wide_div hm hm2 (by decide) (by decide)
    have fin : ∀ (z : Int) (G : Hp) (t' : Nat) (r' : Int), SB p H G → G p = some (.lst [.ref c, .int (t' : Int), .int r']) → t' ≤ n + 1 → 0 ≤ r' → r'.natAbs < 2 ^ 1048600 → Q (.int (z % m)) G := fun z G t' r' sb e1 e2 e3 e4 => by
      have h1 : 0 ≤ z % m := Int.emod_nonneg z (by omega)
      have h2 : z % m < m := Int.emod_lt_of_pos z hm
      have h3 : (((z % m).toNat : Nat) : Int) = z % m := Int.toNat_of_nonneg h1
      rw [← h3]
      exact k _ G (by omega) sb ⟨cs, t', r', e1, sb _ _ npc hc, e2, hl, hb, e3, e4⟩
    have quo : ∀ r : Int, 0 ≤ r → r.natAbs < 2 ^ 1048600 → (r / m).natAbs < 2 ^ 1048600 := fun r h1 h2 => Nat.lt_of_le_of_lt (by
      have h3 : r / m ≤ r := Int.ediv_le_self m h1
      have h4 : 0 ≤ r / m := Int.ediv_nonneg h1 (by omega)
      omega) h2
    have rl : ∀ {G : Hp} {a : Addr} {xs : List V}, G a = some (.lst xs) → SqL K G a xs := fun h => SqL.of h
    have tb : t ≤ 1000000 := Nat.le_trans ht hn
    have mulA : CMulX 81533 (t : Int) := mulx_ok (a := 20) (b := 20) (by decide) (by clear hr1 hb; omega) (by decide)
    have h64 : (2 : Nat) ^ 64 = 18446744073709551616 := by decide
    have powA : ∀ y : Int, 0 ≤ y ∧ y < 2147483549 → (y + 81533 * (t : Int) + 15107).natAbs < 2 ^ 64 := fun y hy => by
      clear hr1 hb
      omega
    have mulB : CMulX 2 (t : Int) := mulx_ok (a := 20) (b := 20) (by decide) (by clear hr1 hb; omega) (by decide)
    have mulC : CMulX 40213 (t : Int) := mulx_ok (a := 20) (b := 20) (by decide) (by clear hr1 hb; omega) (by decide)
    have mulD : CMulX (40213 * (t : Int)) (t : Int) := mulx_ok (a := 40) (b := 20) (by clear hr1 hb; omega) (by clear hr1 hb; omega) (by decide)
    have mulE : ∀ x : Int, 0 ≤ x ∧ x < 2147483629 → CMulX x (2 * (t : Int) + 9011) := fun x hx => mulx_ok (a := 40) (b := 40) (by clear hr1 hb; omega) (by clear hr1 hb; omega) (by decide)
    have powB : ∀ x : Int, 0 ≤ x ∧ x < 2147483629 → (x * (2 * (t : Int) + 9011) + 40213 * (t : Int) * (t : Int) + 81533).natAbs < 2 ^ 64 := fun x hx => by
      clear hr1 hb
      have h1 : x * (2 * (t : Int) + 9011) ≤ 2147483629 * 2009011 := Int.mul_le_mul (by omega) (by omega) (by omega) (by omega)
      have h2 : 0 ≤ x * (2 * (t : Int) + 9011) := Int.mul_nonneg hx.1 (by omega)
      have h3 : 40213 * (t : Int) * (t : Int) ≤ 40213000000 * 1000000 := Int.mul_le_mul (by omega) (by omega) (by omega) (by omega)
      have h4 : 0 ≤ 40213 * (t : Int) * (t : Int) := Int.mul_nonneg (by omega) (by omega)
      generalize x * (2 * (t : Int) + 9011) = y1 at h1 h2 ⊢
      generalize 40213 * (t : Int) * (t : Int) = y2 at h3 h4 ⊢
      omega
    refine ⟨_, rfl, p, _, 2, .int r, rfl, rfl, SqL.of hp, rfl, r, 0, rfl, rfl, _, rfl, ?_⟩
    by_cases h0 : 0 < r
    · refine iteT' h0 ?_
      refine ⟨_, rfl, p, _, 2, .int r, rfl, rfl, SqL.of hp, rfl, .inl ⟨r, rfl, ?_⟩⟩
      refine ⟨_, rfl, _, rfl, r, m, rfl, rfl, hdiv r, ?_⟩
      refine ⟨_, rfl, p, _, 2, 2, rfl, rfl, hp, rfl, ?_⟩
      refine ⟨_, rfl, .inl ⟨r, rfl, _, rfl, r, m, rfl, rfl, hm, ?_⟩⟩
      exact fin r _ t (r / m) SB.at_ upd_same (Nat.le_succ_of_le ht) (Int.ediv_nonneg hr0 (by omega)) (quo r hr0 hr1)
    refine iteF' h0 ?_
    refine ⟨_, rfl, p, _, 1, .int (t : Int), rfl, rfl, SqL.of hp, rfl, ?_⟩
    refine ⟨_, rfl, t, 1, rfl, rfl, _, rfl, p, _, 1, 1, rfl, rfl, hp, rfl, ?_⟩
    have sb1 : SB p H (upd H p (.lst [V.ref c, V.int ((t : Int) + 1), V.int r])) := SB.at_
    have hp1 : upd H p (.lst [V.ref c, V.int ((t : Int) + 1), V.int r]) p = some (.lst [V.ref c, V.int (((t + 1 : Nat)) : Int), V.int r]) := upd_same
    have hc1 := sb1 _ _ npc hc
    refine (show tSeq _ _ _ _ (upd H p (.lst [V.ref c, V.int ((t : Int) + 1), V.int r])) from ?_)
    generalize upd H p (.lst [V.ref c, V.int ((t : Int) + 1), V.int r]) = G at sb1 hp1 hc1 ⊢
    refine ⟨_, rfl, 81533, t, rfl, rfl, mulx_ok (a := 20) (b := 20) (by decide) (by omega) (by decide), 81533 * (t : Int), 15107, rfl, rfl, ?_⟩
    have h60 : 2 ^ 60 = 1152921504606846976 := by decide
    have hz0 : (81533 * (t : Int) + 15107).natAbs < 2 ^ 1048577 := Nat.lt_of_lt_of_le (m := 2 ^ 60) (by omega) (Nat.pow_le_pow_right (by decide) (by decide))
    refine ⟨_, rfl, p, _, 0, .ref c, rfl, rfl, rl hp1, rfl, by show 0 ≤ sizeLine; decide, fun q hq => ⟨c, q, _, rfl, rfl, rl (same_new hq _ _ hc1), rl upd_same, _, rfl, ?_⟩⟩
    have hp2 := same_new (o := .lst []) hq _ _ hp1
    have hc2 := same_new (o := .lst []) hq _ _ hc1
    have sb2 : SB p H (upd G q (.lst [])) := sb1.trans (SB.of (same_new hq))
    generalize upd G q (.lst []) = G2 at sb2 hp2 hc2 ⊢
    have hlen : (cs.map V.int).length = cs.length := List.length_map _
    have key : cs ≠ [] → ∃ z : Int, z.natAbs < 2 ^ 1048577 ∧ 0 < (((cs.map V.int).length : Nat) : Int) ∧ atI (cs.map V.int) ((t : Int) % (((cs.map V.int).length : Nat) : Int)) = some (.int z) := fun hcs => by
      have hpos : 0 < cs.length := List.length_pos_iff.mpr hcs
      have hj : t % cs.length < cs.length := Nat.mod_lt _ hpos
      refine ⟨cs[t % cs.length], hb _ (List.getElem_mem hj), by rw [hlen]; omega, ?_⟩
      rw [hlen, ← Int.natCast_emod]
      exact atI_nat (by rw [List.getElem?_map, List.getElem?_eq_getElem hj]; rfl)
    have hem : cs = [] → (!(cs.map V.int).isEmpty) = false := fun e => by rw [e]; rfl
    have hne : cs ≠ [] → (!(cs.map V.int).isEmpty) = true := fun e => by
      cases cs with
      | nil => exact absurd rfl e
      | cons a b => rfl
    have habs : ∀ z : Int, z.natAbs < 2 ^ 1048577 → (if z < 0 then -z else z).natAbs < 2 ^ 1048577 := fun z h => by
      by_cases q : z < 0
      · rw [if_pos q, Int.natAbs_neg]; exact h
      · rw [if_neg q]; exact h
    have hodd : ∀ (z : Int) (b : Bool), z.natAbs < 2 ^ 1048577 → 10 ^ 18 ≤ (if z < 0 then -z else z) → 0 ≤ 2 * ((if z < 0 then -z else z) - 10 ^ 18) + (if b = true then 1 else 0) ∧ (2 * ((if z < 0 then -z else z) - 10 ^ 18) + (if b = true then 1 else 0)).natAbs < 2 ^ 1048600 := fun z b h1 h2 => by
      have h3 := habs z h1
      generalize (if z < 0 then -z else z) = y at h2 h3 ⊢
      have e1 : (2 : Nat) ^ 1048600 = 2 ^ 1048577 * 2 ^ 23 := by rw [← Nat.pow_add]
      have e2 : (2 : Nat) ^ 23 = 8388608 := by decide
      rw [e1, e2]
      generalize (2 : Nat) ^ 1048577 = M at h3 ⊢
      cases b with
      | true => rw [if_pos rfl]; omega
      | false => rw [if_neg (by decide)]; omega
    have hm2x : ∀ z : Int, z.natAbs < 2 ^ 1048577 → 10 ^ 18 ≤ (if z < 0 then -z else z) → CMulX 2 ((if z < 0 then -z else z) - 10 ^ 18) := fun z h1 h2 => by
      have h3 := habs z h1
      generalize (if z < 0 then -z else z) = y at h2 h3 ⊢
      exact mulx_ok (a := 2) (b := 1048577) (by decide) (by
        generalize (2 : Nat) ^ 1048577 = M at h3 ⊢
        omega) (by decide)
    by_cases hcs : cs = []
    rotate_left
    obtain ⟨z, hz, hp0, hat⟩ := key hcs
    rw [hne hcs]
    refine iteT ⟨_, rfl, p, _, 0, .ref c, rfl, rfl, rl hp2, rfl, _, rfl, .inl ⟨(t : Int), rfl, _, rfl, p, _, 0, .ref c, rfl, rfl, rl hp2, rfl, .ref c, (cs.map V.int).length, rfl, .inl ⟨_, rl hc2, rfl⟩, (t : Int), (((cs.map V.int).length : Nat) : Int), rfl, rfl, hp0, c, _, (t : Int) % (((cs.map V.int).length : Nat) : Int), .int z, rfl, rfl, rl hc2, hat, ?_⟩⟩
    refine (show tSeq _ _ _ [_, _, none, some (.int (t : Int)), some (.int z), none] G2 from ?_)
    rotate_left
    rw [hem hcs]
    refine iteF ?_
    refine (show tSeq _ _ _ [_, _, none, some (.int (t : Int)), some (.int (81533 * (t : Int) + 15107)), none] G2 from ?_)
    generalize 81533 * (t : Int) + 15107 = z at hz0 ⊢
    have hz := hz0
    all_goals (
      dsimp only [tSeq, tIfS]
      refine and_read (p := decide ((t : Int) < (((cs.map V.int).length : Nat) : Int))) (wh := decide (10 ^ 18 ≤ (if z < 0 then -z else z))) (fun R hR => ⟨_, rfl, _, rfl, p, _, 0, .ref c, rfl, rfl, rl hp2, rfl, .ref c, (cs.map V.int).length, rfl, .inl ⟨_, rl hc2, rfl⟩, (t : Int), (((cs.map V.int).length : Nat) : Int), rfl, rfl, _, rfl, hR⟩)
        (fun R hR => ⟨_, rfl, z, rfl, 10, 18, rfl, rfl, ⟨by decide, by decide, by decide⟩, _, (10 : Int) ^ (18 : Nat), rfl, rfl, _, rfl, hR _ (Same.refl _)⟩) (fun G3 sm3 => ?_)
      have hp3 := sm3 _ _ hp2
      have sb3 : SB p H G3 := sb2.trans (SB.of sm3)
      cases hbig : (decide ((t : Int) < (((cs.map V.int).length : Nat) : Int)) && decide (10 ^ 18 ≤ (if z < 0 then -z else z))) with
      | true =>
        have hb2 : (10 : Int) ^ 18 ≤ (if z < 0 then -z else z) := of_decide_eq_true (Bool.and_eq_true_iff.mp hbig).2
        obtain ⟨o1, o2⟩ := hodd z (decide (z < 0)) hz hb2
        refine iteT ⟨_, rfl, z, rfl, 10, 18, rfl, rfl, ⟨by decide, by decide, by decide⟩, _, (10 : Int) ^ (18 : Nat), rfl, rfl, 2, _, rfl, rfl, hm2x z hz hb2, _, rfl, z, 0, rfl, rfl, .inr ⟨_, rfl, _, _, rfl, rfl, ?_⟩⟩
        refine ⟨_, rfl, .inl ⟨_, rfl, _, rfl, _, m, rfl, rfl, hdiv _, ?_⟩⟩
        refine ⟨_, rfl, p, _, 2, 2, rfl, rfl, hp3, rfl, ?_⟩
        refine ⟨_, rfl, .inl ⟨_, rfl, _, rfl, _, m, rfl, rfl, hm, ?_⟩⟩
        exact fin _ _ (t + 1) _ (sb3.trans SB.at_) upd_same (Nat.succ_le_succ ht) (Int.ediv_nonneg o1 (Int.le_of_lt hm)) (quo _ o1 o2)
      | false =>
        refine iteF ?_
        have q1 : 0 ≤ z % 2147483549 ∧ z % 2147483549 < 2147483549 := ⟨Int.emod_nonneg z (by decide), Int.emod_lt_of_pos z (by decide)⟩
        refine ⟨_, rfl, .inl ⟨z, rfl, z, 2147483549, rfl, rfl, (by decide : (0 : Int) < 2147483549), _, rfl, 81533, t, rfl, rfl, mulA, _, _, rfl, rfl, _, 15107, rfl, rfl, _, 5, rfl, rfl, ⟨by decide, by decide, powA _ q1⟩, .inl ⟨_, rfl, _, 2147483629, rfl, rfl, (by decide : (0 : Int) < 2147483629), ?_⟩⟩⟩
        have q2 : ∀ x : Int, 0 ≤ x % 2147483629 ∧ x % 2147483629 < 2147483629 := fun x => ⟨Int.emod_nonneg x (by decide), Int.emod_lt_of_pos x (by decide)⟩
        have q3 := q2 ((z % 2147483549 + 81533 * (t : Int) + 15107) ^ (5 : Int).toNat)
        have q4 := powB _ q3
        refine ⟨_, rfl, _, rfl, 2, (t : Int), rfl, rfl, mulB, _, 9011, rfl, rfl, _, _, rfl, rfl, mulE _ q3, _, rfl, 40213, (t : Int), rfl, rfl, mulC, _, rfl, _, (t : Int), rfl, rfl, mulD, _, _, rfl, rfl, _, 81533, rfl, rfl, _, 3, rfl, rfl, ⟨by decide, by decide, q4⟩, .inl ⟨_, rfl, _, 2147483587, rfl, rfl, (by decide : (0 : Int) < 2147483587), ?_⟩⟩
        refine ⟨_, rfl, _, 64, rfl, rfl, (⟨by decide, by decide⟩ : (0 : Int) < 64 ∧ (64 : Int) < 1073741824), .inl ⟨_, rfl, _, rfl, _, m, rfl, rfl, hm, ?_⟩⟩
        exact fin _ _ (t + 1) r sb3 hp3 (Nat.succ_le_succ ht) hr0 hr1)
end
end K91
set_option Elab.async false
set_option linter.all false
set_option maxRecDepth 100000
set_option maxHeartbeats 4000000
/-! K91, AF: _law_pick, _law_pen. -/
namespace K91
open PySem PySem.Spec PyProof.Rows L2
def spPick : Sp := fun vs H Q _ => ∃ (p c l : Addr) (n : Nat) (xs : List V), vs = [.ref p, .ref l] ∧ H l = some (.lst xs) ∧ 0 < xs.length ∧ xs.length < 2 ^ 40 ∧ PenAt p c n H ∧ l ≠ p ∧ n ≤ 1000000 ∧ ∀ (i : Nat) (v : V) H', xs[i]? = some v → SB p H H' → PenAt p c (n + 1) H' → Q v H'
def spPen (K : PySem.W.Frag) : Sp := fun vs H Q _ => ∃ (l : Addr) (ns : List Int), vs = [.ref l] ∧ SqL K H l (ns.map V.int) ∧ (∀ i ∈ ns, i.natAbs < 2 ^ 1048577) ∧ ∀ p c H', H p = none → Same H H' → PenAt p c 0 H' → Q (.ref p) H'
theorem cut60 (ns : List Int) : cutV (ns.map V.int) none (some 60) = (ns.take 60).map V.int := by
  unfold cutV
  rw [HT.sIx_none, show (60 : Int) = ((60 : Nat) : Int) from rfl, HT.sIx_nat, List.drop_zero, List.length_map, Nat.sub_zero, ← List.map_take]
  congr 1
  rw [List.take_eq_take_iff]
  omega
section
variable {w : World} {K : PySem.W.Frag} {mg : Str → Option Value} {base : Heap}
theorem ok_pick (T : Ctx K mg) : FnOk PW w K mg base CX0 2 r_l_pick.at_ (fdOf K r_l_pick.at_) P_l_pick spPick := by
  have F := T.fun_ r_l_pick m_l_pick
  have Fd := T.fun_ r_l_draw m_l_draw
  have bd : Binds K (fdOf K r_l_draw.at_) P_l_draw [] := Fd.binds fun _ _ _ _ _ _ us hl => match us, hl with | [_, _], _ => rfl
  refine F.ok sc_l_pick (fun vs H Q E h => ?_) (fun cdv A outer s H vs Q E hr h => ⟨_, pss_one (ps_ret (pe_ix ix_list (pv 1) (pe_call (ok_draw T) (hr.mono (by decide)) rfl T.glo Fd.kp bd .nil pass0 (pa_cons (pv 0) (pa_cons (pe_callB call_len rfl T.free (by decide +kernel) (pa_cons (pv 1) pa_nil)) pa_nil))) (fun _ _ => rfl))), ?_⟩)
  · obtain ⟨p, c, l, n, xs, rfl, _⟩ := h
    rfl
  · obtain ⟨p, c, l, n, xs, rfl, hl, hx, hx2, hP, nlp, hn, k⟩ := h
    refine ⟨_, rfl, _, rfl, _, rfl, .ref l, xs.length, rfl, .inl ⟨_, SqL.of hl, rfl⟩, ?_⟩
    refine ⟨p, c, n, (xs.length : Int), rfl, by omega, ?_, hP, hn, fun i H' hi sb hp => ?_⟩
    · show xs.length < 2 ^ 60
      exact Nat.lt_trans hx2 (by decide)
    · have hi2 : i < xs.length := by omega
      exact ⟨l, xs, (i : Int), xs[i], rfl, rfl, SqL.of (sb _ _ nlp hl), atI_nat (List.getElem?_eq_getElem hi2), k i _ H' (List.getElem?_eq_getElem hi2) sb hp⟩
theorem ok_pen (T : Ctx K mg) : FnOk PW w K mg base CX0 1 r_l_pen.at_ (fdOf K r_l_pen.at_) P_l_pen (spPen K) := by
  have F := T.fun_ r_l_pen m_l_pen
  refine F.ok sc_l_pen (fun vs H Q E h => ?_) (fun cdv A outer s H vs Q E hr h => ⟨_, pss_one (ps_ret (pe_lst (pa_cons (pe_lc (own := [("cell", 1)]) (g := gName 1) (tt := tYes) rfl sc_l_pen.nd (pi_list (pe_slice sl_list (pv 0) po_none (po_some pe_int))) (blkOk_by (N := N_l_pen) (sc := defScope s_l_pen) (by decide +kernel)) (fun _ _ _ _ _ => pg_name (i := 1) sc_l_pen.nd rfl (Or.inl rfl)) (fun _ _ _ _ _ => pts_nil)
            (fun _ _ _ _ _ => pe_callTy call_int1 rfl T.free (by decide +kernel) (pa_cons (pv 1) pa_nil))) (pa_cons pe_int (pa_cons pe_int pa_nil))))), ?_⟩)
  · obtain ⟨l, ns, rfl, _⟩ := h
    rfl
  · obtain ⟨l, ns, rfl, hl, hb, k⟩ := h
    refine ⟨_, rfl, 60, rfl, l, _, rfl, hl, fun q hq => ⟨q, rfl, ?_⟩⟩
    rw [cut60]
    have sm1 := same_new (o := .lst ((ns.take 60).map V.int)) hq
    have hq1 : upd H q (.lst ((ns.take 60).map V.int)) q = some (.lst ((ns.take 60).map V.int)) := upd_same
    have hbs : ∀ i ∈ ns.take 60, i.natAbs < 2 ^ 1048577 := fun i hi => hb i (List.mem_of_mem_take hi)
    have hlen : (ns.take 60).length ≤ 60 := List.length_take_le _ _
    generalize upd H q (.lst ((ns.take 60).map V.int)) = G at sm1 hq1 ⊢
    generalize ns.take 60 = cs at hq1 hbs hlen ⊢
    refine ⟨⟨_, SqL.of hq1⟩, fun D hDn => ?_⟩
    refine lc_list (K := K) (a := q) (xs := cs.map V.int) (fun i G' => Same G G' ∧ G' D = some (.lst ((cs.take i).map V.int))) ⟨same_new hDn, upd_same⟩ (fun i G' _ z => SqL.of (z.1 _ _ hq1)) (fun i x G' hx z => ⟨rfl, lcTurn ?_⟩) (fun G' z => ?_)
    · rw [List.getElem?_map] at hx
      obtain ⟨y, hy, rfl⟩ := Option.map_eq_some_iff.mp hx
      obtain ⟨z1, z2⟩ := z
      refine ⟨_, rfl, .inl ⟨y, rfl, _, z2, ?_, fun b o e => by rw [upd_ne (ne_of_none e hDn)]; exact z1 _ _ e, ?_⟩⟩
      · rw [List.length_map]
        refine Nat.lt_of_le_of_lt (List.length_take_le' _ _) (Nat.lt_of_le_of_lt hlen ?_)
        decide
      · rw [upd_same, take_app hy, List.map_append]
        rfl
    · obtain ⟨z1, z2⟩ := z
      rw [List.length_map, List.take_length] at z2
      refine ⟨by show 3 ≤ sizeLine; decide, fun p hp => k p D _ ?_ ((sm1.trans z1).trans (same_new hp)) ⟨cs, 0, 0, upd_same, same_new hp _ _ z2, Nat.le_refl _, hlen, hbs, by decide, ?_⟩⟩
      · cases e : H p with
        | none => rfl
        | some o =>
          rw [(sm1.trans z1) _ _ e] at hp
          cases hp
      · exact Nat.pow_pos (by decide)
end
end K91
set_option Elab.async false
set_option linter.all false
set_option maxRecDepth 100000
set_option maxHeartbeats 4000000
/-! K91, AG: _law_paper_one, _law_paper_of (printed by gen_k91g.py). -/
namespace K91
open PySem PySem.Spec PyProof.Rows L2
def tStrs : List Str → TA
  | [] => tNil
  | s :: r => tCons (tC (.str s)) (tStrs r)
theorem strs_read {σ : L2.St} {H : Hp} : ∀ (ws : List Str) {Q : List V → Hp → Prop}, Q (ws.map V.str) H → tStrs ws σ H Q
  | [], _, k => k
  | s :: r, _, k => strs_read r k
theorem inE {K : PySem.W.Frag} {wd : Str} {ws : List Str} {σ : L2.St} {H : Hp} {R : Bool → Hp → Prop} {b : Bool} (hσ : σ[0]? = some (some (.str wd))) (hl : ws.length ≤ 4) (hf : (ws.map V.str).all flatV = true) (hw : inV (.str wd) (ws.map V.str) = b)
    (k : ∀ H', Same H H' → R b H') : tTest (tOp (rIn K false) (tVar 0) (tTup (tStrs ws))) σ H R :=
  ⟨_, hσ, strs_read ws ⟨by rw [List.length_map]; exact Nat.le_trans hl (by decide), fun t ht => ⟨t, _, rfl, .inr (SqT.of upd_same), rfl, hf, b, by rw [← hw]; rfl, k _ (same_new ht)⟩⟩⟩
def spMk (P : Nat → Prop) (n : Nat) : Sp := fun vs H Q _ => ∃ (wd : Str) (ds : List D) (l : Addr) (xs : List V), vs = [.str wd, .ref l] ∧ H l = some (.lst xs) ∧ RepL H ds xs ∧ cnt wd = some ds.length ∧ P ds.length ∧ szL ds < 100000 ∧ depL ds < n ∧ ∀ v H', Same H H' → Rep H' (.pap wd ds) v → Q v H'
section
variable {w : World} {K : PySem.W.Frag} {mg : Str → Option Value} {base : Heap}
theorem ok_paper_one (T : Ctx K mg) (n : Nat) : FnOk PW w K mg base CX0 (n + 6) r_l_paper_one.at_ (fdOf K r_l_paper_one.at_) P_l_paper_one (spMk (fun m => m < 3) n) := by
  have F := T.fun_ r_l_paper_one m_l_paper_one
  refine F.ok sc_l_paper_one (fun vs H Q E h => ?_) (fun cdv A outer s H vs Q E hr h => ⟨_, pss_cons (ps_if (pt_cmpR op_in_seq (pv 0) (pe_tup (pa_cons pe_str (pa_cons pe_str (pa_cons pe_str (pa_cons pe_str pa_nil))))) rfl) (pss_one (ps_ret (pe_ifExp (pt_cmpR op_eq (pv 0) pe_str (nomark _)) (mk_Beside rfl T n hr rfl (pa_cons (pe_ix ix_list (pv 1) pe_int (fun _ _ => rfl)) pa_nil)) (pe_ifExp (pt_cmpR op_eq (pv 0) pe_str (nomark _)) (mk_Right rfl T n hr rfl (pa_cons (pe_ix ix_list (pv 1) pe_int (fun _ _ => rfl)) pa_nil)) (pe_ifExp (pt_cmpR op_eq (pv 0) pe_str (nomark _)) (mk_Crowd rfl T n hr rfl (pa_cons (pe_ix ix_list (pv 1) pe_int (fun _ _ => rfl)) pa_nil)) (mk_Unfit rfl T n hr rfl (pa_cons (pe_ix ix_list (pv 1) pe_int (fun _ _ => rfl)) pa_nil))))))) pss_nil) (pss_cons (ps_if (pt_cmpR op_eq (pv 0) pe_str (nomark _)) (pss_one (ps_ret (mk_Unseemly rfl T n hr rfl (pa_cons (pe_ix ix_list (pv 1) pe_int (fun _ _ => rfl)) pa_nil)))) pss_nil) (pss_cons (ps_if (pt_cmpR op_in_seq (pv 0) (pe_tup (pa_cons pe_str (pa_cons pe_str (pa_cons pe_str (pa_cons pe_str pa_nil))))) rfl) (pss_one (ps_ret (pe_ifExp (pt_cmpR op_eq (pv 0) pe_str (nomark _)) (mk_Forgets rfl T n hr rfl (pa_cons (pe_ix ix_list (pv 1) pe_int (fun _ _ => rfl)) pa_nil)) (pe_ifExp (pt_cmpR op_eq (pv 0) pe_str (nomark _)) (mk_Sayable rfl T n hr rfl (pa_cons (pe_ix ix_list (pv 1) pe_int (fun _ _ => rfl)) pa_nil)) (pe_ifExp (pt_cmpR op_eq (pv 0) pe_str (nomark _)) (mk_Matching rfl T n hr rfl (pa_cons (pe_ix ix_list (pv 1) pe_int (fun _ _ => rfl)) pa_nil)) (mk_Turning rfl T n hr rfl (pa_cons (pe_ix ix_list (pv 1) pe_int (fun _ _ => rfl)) pa_nil))))))) pss_nil) (pss_cons (ps_if (pt_cmpR op_in_seq (pv 0) (pe_tup (pa_cons pe_str (pa_cons pe_str (pa_cons pe_str pa_nil)))) rfl) (pss_one (ps_ret (pe_ifExp (pt_cmpR op_eq (pv 0) pe_str (nomark _)) (mk_Clash rfl T n hr rfl (pa_cons (pe_ix ix_list (pv 1) pe_int (fun _ _ => rfl)) (pa_cons (pe_ix ix_list (pv 1) pe_int (fun _ _ => rfl)) pa_nil))) (pe_ifExp (pt_cmpR op_eq (pv 0) pe_str (nomark _)) (mk_Wrong rfl T n hr rfl (pa_cons (pe_ix ix_list (pv 1) pe_int (fun _ _ => rfl)) (pa_cons (pe_ix ix_list (pv 1) pe_int (fun _ _ => rfl)) pa_nil))) (mk_Enough rfl T n hr rfl (pa_cons (pe_ix ix_list (pv 1) pe_int (fun _ _ => rfl)) (pa_cons (pe_ix ix_list (pv 1) pe_int (fun _ _ => rfl)) pa_nil))))))) pss_nil) (pss_cons (ps_if (pt_cmpR op_in_seq (pv 0) (pe_tup (pa_cons pe_str (pa_cons pe_str (pa_cons pe_str pa_nil)))) rfl) (pss_one (ps_ret (pe_ifExp (pt_cmpR op_eq (pv 0) pe_str (nomark _)) (mk_Fits rfl T n hr rfl (pa_cons (pe_ix ix_list (pv 1) pe_int (fun _ _ => rfl)) (pa_cons (pe_ix ix_list (pv 1) pe_int (fun _ _ => rfl)) pa_nil))) (pe_ifExp (pt_cmpR op_eq (pv 0) pe_str (nomark _)) (mk_Known rfl T n hr rfl (pa_cons (pe_ix ix_list (pv 1) pe_int (fun _ _ => rfl)) (pa_cons (pe_ix ix_list (pv 1) pe_int (fun _ _ => rfl)) pa_nil))) (mk_Barred rfl T n hr rfl (pa_cons (pe_ix ix_list (pv 1) pe_int (fun _ _ => rfl)) (pa_cons (pe_ix ix_list (pv 1) pe_int (fun _ _ => rfl)) pa_nil))))))) pss_nil) (pss_cons (ps_if (pt_cmpR op_in_seq (pv 0) (pe_tup (pa_cons pe_str (pa_cons pe_str (pa_cons pe_str pa_nil)))) rfl) (pss_one (ps_ret (pe_ifExp (pt_cmpR op_eq (pv 0) pe_str (nomark _)) (mk_Plan rfl T n hr rfl (pa_cons (pe_ix ix_list (pv 1) pe_int (fun _ _ => rfl)) (pa_cons (pe_ix ix_list (pv 1) pe_int (fun _ _ => rfl)) pa_nil))) (pe_ifExp (pt_cmpR op_eq (pv 0) pe_str (nomark _)) (mk_Spoil rfl T n hr rfl (pa_cons (pe_ix ix_list (pv 1) pe_int (fun _ _ => rfl)) (pa_cons (pe_ix ix_list (pv 1) pe_int (fun _ _ => rfl)) pa_nil))) (mk_Apart rfl T n hr rfl (pa_cons (pe_ix ix_list (pv 1) pe_int (fun _ _ => rfl)) (pa_cons (pe_ix ix_list (pv 1) pe_int (fun _ _ => rfl)) pa_nil))))))) pss_nil) (pss_one (ps_ret (pe_non)))))))), ?_⟩)
  · obtain ⟨wd, ds, l, xs, rfl, _⟩ := h
    rfl
  · obtain ⟨wd, ds, l, xs, rfl, hl, hr0, hc, hp, hz, hd, k⟩ := h
    have hlx := RepL.len hr0
    have sm := Same.refl H
    have h12 : ds.length = 1 ∨ ds.length = 2 := by
      have z := cnt_mem hc
      have z2 : tbl.all (fun p => decide (1 ≤ p.2)) = true := by decide +kernel
      have z3 := of_decide_eq_true (List.all_eq_true.mp z2 _ z)
      have hp : ds.length < 3 := hp
      have z3 : 1 ≤ ds.length := z3
      omega
    rcases h12 with hlen | hlen
    · rw [hlen] at hc hlx
      have hm := cnt_words hc
      obtain ⟨x0, rfl⟩ := List.length_eq_one_iff.mp hlx
      rcases List.mem_cons.mp hm with rfl | hm
      · refine inE (ws := [("beside" : Str), ("right" : Str), ("crowd" : Str), ("unfit" : Str)]) (b := true) rfl (by decide) (by decide) (by decide +kernel) fun G s1 => iteT ?_
        replace sm := sm.trans s1
        exact ⟨_, rfl, rfl, _, rfl, strT (by decide +kernel) ⟨_, rfl, l, [x0], 0, x0, rfl, rfl, SqL.of (sm _ _ hl), rfl, make_read pc_Beside (RepL.mono (Sol.of sm) _ _ hr0) hlen hz hd fun v H' s r => k v H' (sm.trans s) r⟩⟩
      rcases List.mem_cons.mp hm with rfl | hm
      · refine inE (ws := [("beside" : Str), ("right" : Str), ("crowd" : Str), ("unfit" : Str)]) (b := true) rfl (by decide) (by decide) (by decide +kernel) fun G s1 => iteT ?_
        replace sm := sm.trans s1
        exact ⟨_, rfl, rfl, _, rfl, strF (by decide +kernel) ⟨_, rfl, rfl, _, rfl, strT (by decide +kernel) ⟨_, rfl, l, [x0], 0, x0, rfl, rfl, SqL.of (sm _ _ hl), rfl, make_read pc_Right (RepL.mono (Sol.of sm) _ _ hr0) hlen hz hd fun v H' s r => k v H' (sm.trans s) r⟩⟩⟩
      rcases List.mem_cons.mp hm with rfl | hm
      · refine inE (ws := [("beside" : Str), ("right" : Str), ("crowd" : Str), ("unfit" : Str)]) (b := true) rfl (by decide) (by decide) (by decide +kernel) fun G s1 => iteT ?_
        replace sm := sm.trans s1
        exact ⟨_, rfl, rfl, _, rfl, strF (by decide +kernel) ⟨_, rfl, rfl, _, rfl, strF (by decide +kernel) ⟨_, rfl, rfl, _, rfl, strT (by decide +kernel) ⟨_, rfl, l, [x0], 0, x0, rfl, rfl, SqL.of (sm _ _ hl), rfl, make_read pc_Crowd (RepL.mono (Sol.of sm) _ _ hr0) hlen hz hd fun v H' s r => k v H' (sm.trans s) r⟩⟩⟩⟩
      rcases List.mem_cons.mp hm with rfl | hm
      · refine inE (ws := [("beside" : Str), ("right" : Str), ("crowd" : Str), ("unfit" : Str)]) (b := true) rfl (by decide) (by decide) (by decide +kernel) fun G s1 => iteT ?_
        replace sm := sm.trans s1
        exact ⟨_, rfl, rfl, _, rfl, strF (by decide +kernel) ⟨_, rfl, rfl, _, rfl, strF (by decide +kernel) ⟨_, rfl, rfl, _, rfl, strF (by decide +kernel) ⟨_, rfl, l, [x0], 0, x0, rfl, rfl, SqL.of (sm _ _ hl), rfl, make_read pc_Unfit (RepL.mono (Sol.of sm) _ _ hr0) hlen hz hd fun v H' s r => k v H' (sm.trans s) r⟩⟩⟩⟩
      rcases List.mem_cons.mp hm with rfl | hm
      · refine inE (ws := [("beside" : Str), ("right" : Str), ("crowd" : Str), ("unfit" : Str)]) (b := false) rfl (by decide) (by decide) (by decide +kernel) fun G s1 => iteF ?_
        replace sm := sm.trans s1
        refine ⟨_, rfl, rfl, _, rfl, strF (by decide +kernel) ?_⟩
        refine inE (ws := [("forgets" : Str), ("sayable" : Str), ("matching" : Str), ("turning" : Str)]) (b := true) rfl (by decide) (by decide) (by decide +kernel) fun G s1 => iteT ?_
        replace sm := sm.trans s1
        exact ⟨_, rfl, rfl, _, rfl, strT (by decide +kernel) ⟨_, rfl, l, [x0], 0, x0, rfl, rfl, SqL.of (sm _ _ hl), rfl, make_read pc_Forgets (RepL.mono (Sol.of sm) _ _ hr0) hlen hz hd fun v H' s r => k v H' (sm.trans s) r⟩⟩
      rcases List.mem_cons.mp hm with rfl | hm
      · refine inE (ws := [("beside" : Str), ("right" : Str), ("crowd" : Str), ("unfit" : Str)]) (b := false) rfl (by decide) (by decide) (by decide +kernel) fun G s1 => iteF ?_
        replace sm := sm.trans s1
        refine ⟨_, rfl, rfl, _, rfl, strF (by decide +kernel) ?_⟩
        refine inE (ws := [("forgets" : Str), ("sayable" : Str), ("matching" : Str), ("turning" : Str)]) (b := true) rfl (by decide) (by decide) (by decide +kernel) fun G s1 => iteT ?_
        replace sm := sm.trans s1
        exact ⟨_, rfl, rfl, _, rfl, strF (by decide +kernel) ⟨_, rfl, rfl, _, rfl, strT (by decide +kernel) ⟨_, rfl, l, [x0], 0, x0, rfl, rfl, SqL.of (sm _ _ hl), rfl, make_read pc_Sayable (RepL.mono (Sol.of sm) _ _ hr0) hlen hz hd fun v H' s r => k v H' (sm.trans s) r⟩⟩⟩
      rcases List.mem_cons.mp hm with rfl | hm
      · refine inE (ws := [("beside" : Str), ("right" : Str), ("crowd" : Str), ("unfit" : Str)]) (b := false) rfl (by decide) (by decide) (by decide +kernel) fun G s1 => iteF ?_
        replace sm := sm.trans s1
        refine ⟨_, rfl, rfl, _, rfl, strF (by decide +kernel) ?_⟩
        refine inE (ws := [("forgets" : Str), ("sayable" : Str), ("matching" : Str), ("turning" : Str)]) (b := true) rfl (by decide) (by decide) (by decide +kernel) fun G s1 => iteT ?_
        replace sm := sm.trans s1
        exact ⟨_, rfl, rfl, _, rfl, strF (by decide +kernel) ⟨_, rfl, rfl, _, rfl, strF (by decide +kernel) ⟨_, rfl, rfl, _, rfl, strT (by decide +kernel) ⟨_, rfl, l, [x0], 0, x0, rfl, rfl, SqL.of (sm _ _ hl), rfl, make_read pc_Matching (RepL.mono (Sol.of sm) _ _ hr0) hlen hz hd fun v H' s r => k v H' (sm.trans s) r⟩⟩⟩⟩
      rcases List.mem_cons.mp hm with rfl | hm
      · refine inE (ws := [("beside" : Str), ("right" : Str), ("crowd" : Str), ("unfit" : Str)]) (b := false) rfl (by decide) (by decide) (by decide +kernel) fun G s1 => iteF ?_
        replace sm := sm.trans s1
        refine ⟨_, rfl, rfl, _, rfl, strF (by decide +kernel) ?_⟩
        refine inE (ws := [("forgets" : Str), ("sayable" : Str), ("matching" : Str), ("turning" : Str)]) (b := true) rfl (by decide) (by decide) (by decide +kernel) fun G s1 => iteT ?_
        replace sm := sm.trans s1
        exact ⟨_, rfl, rfl, _, rfl, strF (by decide +kernel) ⟨_, rfl, rfl, _, rfl, strF (by decide +kernel) ⟨_, rfl, rfl, _, rfl, strF (by decide +kernel) ⟨_, rfl, l, [x0], 0, x0, rfl, rfl, SqL.of (sm _ _ hl), rfl, make_read pc_Turning (RepL.mono (Sol.of sm) _ _ hr0) hlen hz hd fun v H' s r => k v H' (sm.trans s) r⟩⟩⟩⟩
      rcases List.mem_cons.mp hm with rfl | hm
      · refine inE (ws := [("beside" : Str), ("right" : Str), ("crowd" : Str), ("unfit" : Str)]) (b := false) rfl (by decide) (by decide) (by decide +kernel) fun G s1 => iteF ?_
        replace sm := sm.trans s1
        exact ⟨_, rfl, rfl, _, rfl, strT (by decide +kernel) ⟨_, rfl, l, [x0], 0, x0, rfl, rfl, SqL.of (sm _ _ hl), rfl, make_read pc_Unseemly (RepL.mono (Sol.of sm) _ _ hr0) hlen hz hd fun v H' s r => k v H' (sm.trans s) r⟩⟩
      exact absurd hm List.not_mem_nil
    · rw [hlen] at hc hlx
      have hm := cnt_words hc
      obtain ⟨x0, x1, rfl⟩ := len2 hlx
      rcases List.mem_cons.mp hm with rfl | hm
      · refine inE (ws := [("beside" : Str), ("right" : Str), ("crowd" : Str), ("unfit" : Str)]) (b := false) rfl (by decide) (by decide) (by decide +kernel) fun G s1 => iteF ?_
        replace sm := sm.trans s1
        refine ⟨_, rfl, rfl, _, rfl, strF (by decide +kernel) ?_⟩
        refine inE (ws := [("forgets" : Str), ("sayable" : Str), ("matching" : Str), ("turning" : Str)]) (b := false) rfl (by decide) (by decide) (by decide +kernel) fun G s1 => iteF ?_
        replace sm := sm.trans s1
        refine inE (ws := [("clash" : Str), ("wrong" : Str), ("enough" : Str)]) (b := true) rfl (by decide) (by decide) (by decide +kernel) fun G s1 => iteT ?_
        replace sm := sm.trans s1
        exact ⟨_, rfl, rfl, _, rfl, strT (by decide +kernel) ⟨_, rfl, l, [x0, x1], 0, x0, rfl, rfl, SqL.of (sm _ _ hl), rfl, _, rfl, l, [x0, x1], 1, x1, rfl, rfl, SqL.of (sm _ _ hl), rfl, make_read pc_Clash (RepL.mono (Sol.of sm) _ _ hr0) hlen hz hd fun v H' s r => k v H' (sm.trans s) r⟩⟩
      rcases List.mem_cons.mp hm with rfl | hm
      · refine inE (ws := [("beside" : Str), ("right" : Str), ("crowd" : Str), ("unfit" : Str)]) (b := false) rfl (by decide) (by decide) (by decide +kernel) fun G s1 => iteF ?_
        replace sm := sm.trans s1
        refine ⟨_, rfl, rfl, _, rfl, strF (by decide +kernel) ?_⟩
        refine inE (ws := [("forgets" : Str), ("sayable" : Str), ("matching" : Str), ("turning" : Str)]) (b := false) rfl (by decide) (by decide) (by decide +kernel) fun G s1 => iteF ?_
        replace sm := sm.trans s1
        refine inE (ws := [("clash" : Str), ("wrong" : Str), ("enough" : Str)]) (b := true) rfl (by decide) (by decide) (by decide +kernel) fun G s1 => iteT ?_
        replace sm := sm.trans s1
        exact ⟨_, rfl, rfl, _, rfl, strF (by decide +kernel) ⟨_, rfl, rfl, _, rfl, strT (by decide +kernel) ⟨_, rfl, l, [x0, x1], 0, x0, rfl, rfl, SqL.of (sm _ _ hl), rfl, _, rfl, l, [x0, x1], 1, x1, rfl, rfl, SqL.of (sm _ _ hl), rfl, make_read pc_Wrong (RepL.mono (Sol.of sm) _ _ hr0) hlen hz hd fun v H' s r => k v H' (sm.trans s) r⟩⟩⟩
      rcases List.mem_cons.mp hm with rfl | hm
      · refine inE (ws := [("beside" : Str), ("right" : Str), ("crowd" : Str), ("unfit" : Str)]) (b := false) rfl (by decide) (by decide) (by decide +kernel) fun G s1 => iteF ?_
        replace sm := sm.trans s1
        refine ⟨_, rfl, rfl, _, rfl, strF (by decide +kernel) ?_⟩
        refine inE (ws := [("forgets" : Str), ("sayable" : Str), ("matching" : Str), ("turning" : Str)]) (b := false) rfl (by decide) (by decide) (by decide +kernel) fun G s1 => iteF ?_
        replace sm := sm.trans s1
        refine inE (ws := [("clash" : Str), ("wrong" : Str), ("enough" : Str)]) (b := true) rfl (by decide) (by decide) (by decide +kernel) fun G s1 => iteT ?_
        replace sm := sm.trans s1
        exact ⟨_, rfl, rfl, _, rfl, strF (by decide +kernel) ⟨_, rfl, rfl, _, rfl, strF (by decide +kernel) ⟨_, rfl, l, [x0, x1], 0, x0, rfl, rfl, SqL.of (sm _ _ hl), rfl, _, rfl, l, [x0, x1], 1, x1, rfl, rfl, SqL.of (sm _ _ hl), rfl, make_read pc_Enough (RepL.mono (Sol.of sm) _ _ hr0) hlen hz hd fun v H' s r => k v H' (sm.trans s) r⟩⟩⟩
      rcases List.mem_cons.mp hm with rfl | hm
      · refine inE (ws := [("beside" : Str), ("right" : Str), ("crowd" : Str), ("unfit" : Str)]) (b := false) rfl (by decide) (by decide) (by decide +kernel) fun G s1 => iteF ?_
        replace sm := sm.trans s1
        refine ⟨_, rfl, rfl, _, rfl, strF (by decide +kernel) ?_⟩
        refine inE (ws := [("forgets" : Str), ("sayable" : Str), ("matching" : Str), ("turning" : Str)]) (b := false) rfl (by decide) (by decide) (by decide +kernel) fun G s1 => iteF ?_
        replace sm := sm.trans s1
        refine inE (ws := [("clash" : Str), ("wrong" : Str), ("enough" : Str)]) (b := false) rfl (by decide) (by decide) (by decide +kernel) fun G s1 => iteF ?_
        replace sm := sm.trans s1
        refine inE (ws := [("fits" : Str), ("known" : Str), ("barred" : Str)]) (b := true) rfl (by decide) (by decide) (by decide +kernel) fun G s1 => iteT ?_
        replace sm := sm.trans s1
        exact ⟨_, rfl, rfl, _, rfl, strT (by decide +kernel) ⟨_, rfl, l, [x0, x1], 0, x0, rfl, rfl, SqL.of (sm _ _ hl), rfl, _, rfl, l, [x0, x1], 1, x1, rfl, rfl, SqL.of (sm _ _ hl), rfl, make_read pc_Fits (RepL.mono (Sol.of sm) _ _ hr0) hlen hz hd fun v H' s r => k v H' (sm.trans s) r⟩⟩
      rcases List.mem_cons.mp hm with rfl | hm
      · refine inE (ws := [("beside" : Str), ("right" : Str), ("crowd" : Str), ("unfit" : Str)]) (b := false) rfl (by decide) (by decide) (by decide +kernel) fun G s1 => iteF ?_
        replace sm := sm.trans s1
        refine ⟨_, rfl, rfl, _, rfl, strF (by decide +kernel) ?_⟩
        refine inE (ws := [("forgets" : Str), ("sayable" : Str), ("matching" : Str), ("turning" : Str)]) (b := false) rfl (by decide) (by decide) (by decide +kernel) fun G s1 => iteF ?_
        replace sm := sm.trans s1
        refine inE (ws := [("clash" : Str), ("wrong" : Str), ("enough" : Str)]) (b := false) rfl (by decide) (by decide) (by decide +kernel) fun G s1 => iteF ?_
        replace sm := sm.trans s1
        refine inE (ws := [("fits" : Str), ("known" : Str), ("barred" : Str)]) (b := true) rfl (by decide) (by decide) (by decide +kernel) fun G s1 => iteT ?_
        replace sm := sm.trans s1
        exact ⟨_, rfl, rfl, _, rfl, strF (by decide +kernel) ⟨_, rfl, rfl, _, rfl, strT (by decide +kernel) ⟨_, rfl, l, [x0, x1], 0, x0, rfl, rfl, SqL.of (sm _ _ hl), rfl, _, rfl, l, [x0, x1], 1, x1, rfl, rfl, SqL.of (sm _ _ hl), rfl, make_read pc_Known (RepL.mono (Sol.of sm) _ _ hr0) hlen hz hd fun v H' s r => k v H' (sm.trans s) r⟩⟩⟩
      rcases List.mem_cons.mp hm with rfl | hm
      · refine inE (ws := [("beside" : Str), ("right" : Str), ("crowd" : Str), ("unfit" : Str)]) (b := false) rfl (by decide) (by decide) (by decide +kernel) fun G s1 => iteF ?_
        replace sm := sm.trans s1
        refine ⟨_, rfl, rfl, _, rfl, strF (by decide +kernel) ?_⟩
        refine inE (ws := [("forgets" : Str), ("sayable" : Str), ("matching" : Str), ("turning" : Str)]) (b := false) rfl (by decide) (by decide) (by decide +kernel) fun G s1 => iteF ?_
        replace sm := sm.trans s1
        refine inE (ws := [("clash" : Str), ("wrong" : Str), ("enough" : Str)]) (b := false) rfl (by decide) (by decide) (by decide +kernel) fun G s1 => iteF ?_
        replace sm := sm.trans s1
        refine inE (ws := [("fits" : Str), ("known" : Str), ("barred" : Str)]) (b := true) rfl (by decide) (by decide) (by decide +kernel) fun G s1 => iteT ?_
        replace sm := sm.trans s1
        exact ⟨_, rfl, rfl, _, rfl, strF (by decide +kernel) ⟨_, rfl, rfl, _, rfl, strF (by decide +kernel) ⟨_, rfl, l, [x0, x1], 0, x0, rfl, rfl, SqL.of (sm _ _ hl), rfl, _, rfl, l, [x0, x1], 1, x1, rfl, rfl, SqL.of (sm _ _ hl), rfl, make_read pc_Barred (RepL.mono (Sol.of sm) _ _ hr0) hlen hz hd fun v H' s r => k v H' (sm.trans s) r⟩⟩⟩
      rcases List.mem_cons.mp hm with rfl | hm
      · refine inE (ws := [("beside" : Str), ("right" : Str), ("crowd" : Str), ("unfit" : Str)]) (b := false) rfl (by decide) (by decide) (by decide +kernel) fun G s1 => iteF ?_
        replace sm := sm.trans s1
        refine ⟨_, rfl, rfl, _, rfl, strF (by decide +kernel) ?_⟩
        refine inE (ws := [("forgets" : Str), ("sayable" : Str), ("matching" : Str), ("turning" : Str)]) (b := false) rfl (by decide) (by decide) (by decide +kernel) fun G s1 => iteF ?_
        replace sm := sm.trans s1
        refine inE (ws := [("clash" : Str), ("wrong" : Str), ("enough" : Str)]) (b := false) rfl (by decide) (by decide) (by decide +kernel) fun G s1 => iteF ?_
        replace sm := sm.trans s1
        refine inE (ws := [("fits" : Str), ("known" : Str), ("barred" : Str)]) (b := false) rfl (by decide) (by decide) (by decide +kernel) fun G s1 => iteF ?_
        replace sm := sm.trans s1
        refine inE (ws := [("plan" : Str), ("spoil" : Str), ("apart" : Str)]) (b := true) rfl (by decide) (by decide) (by decide +kernel) fun G s1 => iteT ?_
        replace sm := sm.trans s1
        exact ⟨_, rfl, rfl, _, rfl, strT (by decide +kernel) ⟨_, rfl, l, [x0, x1], 0, x0, rfl, rfl, SqL.of (sm _ _ hl), rfl, _, rfl, l, [x0, x1], 1, x1, rfl, rfl, SqL.of (sm _ _ hl), rfl, make_read pc_Plan (RepL.mono (Sol.of sm) _ _ hr0) hlen hz hd fun v H' s r => k v H' (sm.trans s) r⟩⟩
      rcases List.mem_cons.mp hm with rfl | hm
      · refine inE (ws := [("beside" : Str), ("right" : Str), ("crowd" : Str), ("unfit" : Str)]) (b := false) rfl (by decide) (by decide) (by decide +kernel) fun G s1 => iteF ?_
        replace sm := sm.trans s1
        refine ⟨_, rfl, rfl, _, rfl, strF (by decide +kernel) ?_⟩
        refine inE (ws := [("forgets" : Str), ("sayable" : Str), ("matching" : Str), ("turning" : Str)]) (b := false) rfl (by decide) (by decide) (by decide +kernel) fun G s1 => iteF ?_
        replace sm := sm.trans s1
        refine inE (ws := [("clash" : Str), ("wrong" : Str), ("enough" : Str)]) (b := false) rfl (by decide) (by decide) (by decide +kernel) fun G s1 => iteF ?_
        replace sm := sm.trans s1
        refine inE (ws := [("fits" : Str), ("known" : Str), ("barred" : Str)]) (b := false) rfl (by decide) (by decide) (by decide +kernel) fun G s1 => iteF ?_
        replace sm := sm.trans s1
        refine inE (ws := [("plan" : Str), ("spoil" : Str), ("apart" : Str)]) (b := true) rfl (by decide) (by decide) (by decide +kernel) fun G s1 => iteT ?_
        replace sm := sm.trans s1
        exact ⟨_, rfl, rfl, _, rfl, strF (by decide +kernel) ⟨_, rfl, rfl, _, rfl, strT (by decide +kernel) ⟨_, rfl, l, [x0, x1], 0, x0, rfl, rfl, SqL.of (sm _ _ hl), rfl, _, rfl, l, [x0, x1], 1, x1, rfl, rfl, SqL.of (sm _ _ hl), rfl, make_read pc_Spoil (RepL.mono (Sol.of sm) _ _ hr0) hlen hz hd fun v H' s r => k v H' (sm.trans s) r⟩⟩⟩
      rcases List.mem_cons.mp hm with rfl | hm
      · refine inE (ws := [("beside" : Str), ("right" : Str), ("crowd" : Str), ("unfit" : Str)]) (b := false) rfl (by decide) (by decide) (by decide +kernel) fun G s1 => iteF ?_
        replace sm := sm.trans s1
        refine ⟨_, rfl, rfl, _, rfl, strF (by decide +kernel) ?_⟩
        refine inE (ws := [("forgets" : Str), ("sayable" : Str), ("matching" : Str), ("turning" : Str)]) (b := false) rfl (by decide) (by decide) (by decide +kernel) fun G s1 => iteF ?_
        replace sm := sm.trans s1
        refine inE (ws := [("clash" : Str), ("wrong" : Str), ("enough" : Str)]) (b := false) rfl (by decide) (by decide) (by decide +kernel) fun G s1 => iteF ?_
        replace sm := sm.trans s1
        refine inE (ws := [("fits" : Str), ("known" : Str), ("barred" : Str)]) (b := false) rfl (by decide) (by decide) (by decide +kernel) fun G s1 => iteF ?_
        replace sm := sm.trans s1
        refine inE (ws := [("plan" : Str), ("spoil" : Str), ("apart" : Str)]) (b := true) rfl (by decide) (by decide) (by decide +kernel) fun G s1 => iteT ?_
        replace sm := sm.trans s1
        exact ⟨_, rfl, rfl, _, rfl, strF (by decide +kernel) ⟨_, rfl, rfl, _, rfl, strF (by decide +kernel) ⟨_, rfl, l, [x0, x1], 0, x0, rfl, rfl, SqL.of (sm _ _ hl), rfl, _, rfl, l, [x0, x1], 1, x1, rfl, rfl, SqL.of (sm _ _ hl), rfl, make_read pc_Apart (RepL.mono (Sol.of sm) _ _ hr0) hlen hz hd fun v H' s r => k v H' (sm.trans s) r⟩⟩⟩
      exact absurd hm List.not_mem_nil
theorem ok_paper_of (T : Ctx K mg) (n : Nat) : FnOk PW w K mg base CX0 (n + 7) r_l_paper_of.at_ (fdOf K r_l_paper_of.at_) P_l_paper_of (spMk (fun _ => True) n) := by
  have F := T.fun_ r_l_paper_of m_l_paper_of
  have F1 := T.fun_ r_l_paper_one m_l_paper_one
  have b1 : Binds K (fdOf K r_l_paper_one.at_) P_l_paper_one [] := F1.binds fun _ _ _ _ _ _ us hl => match us, hl with | [_, _], _ => rfl
  refine F.ok sc_l_paper_of (fun vs H Q E h => ?_) (fun cdv A outer s H vs Q E hr h => ⟨_, pss_cons (ps_if (pt_cmpR op_lt (pe_callB call_len rfl T.free (by decide +kernel) (pa_cons (pv 1) pa_nil)) pe_int (nomark _)) (pss_one (ps_ret (pe_call (ok_paper_one T n) hr rfl T.glo F1.kp b1 .nil pass0 (pa_cons (pv 0) (pa_cons (pv 1) pa_nil))))) pss_nil) (pss_cons (ps_if (pt_cmpR op_in_seq (pv 0) (pe_tup (pa_cons pe_str (pa_cons pe_str (pa_cons pe_str pa_nil)))) rfl) (pss_one (ps_ret (pe_ifExp (pt_cmpR op_eq (pv 0) pe_str (nomark _)) (mk_Within rfl T n (hr.mono (by omega)) rfl (pa_cons (pe_ix ix_list (pv 1) pe_int (fun _ _ => rfl)) (pa_cons (pe_ix ix_list (pv 1) pe_int (fun _ _ => rfl)) (pa_cons (pe_ix ix_list (pv 1) pe_int (fun _ _ => rfl)) pa_nil)))) (pe_ifExp (pt_cmpR op_eq (pv 0) pe_str (nomark _)) (mk_Round rfl T n (hr.mono (by omega)) rfl (pa_cons (pe_ix ix_list (pv 1) pe_int (fun _ _ => rfl)) (pa_cons (pe_ix ix_list (pv 1) pe_int (fun _ _ => rfl)) (pa_cons (pe_ix ix_list (pv 1) pe_int (fun _ _ => rfl)) pa_nil)))) (mk_Keeps rfl T n (hr.mono (by omega)) rfl (pa_cons (pe_ix ix_list (pv 1) pe_int (fun _ _ => rfl)) (pa_cons (pe_ix ix_list (pv 1) pe_int (fun _ _ => rfl)) (pa_cons (pe_ix ix_list (pv 1) pe_int (fun _ _ => rfl)) pa_nil)))))))) pss_nil) (pss_cons (ps_if (pt_cmpR op_in_seq (pv 0) (pe_tup (pa_cons pe_str (pa_cons pe_str (pa_cons pe_str pa_nil)))) rfl) (pss_one (ps_ret (pe_ifExp (pt_cmpR op_eq (pv 0) pe_str (nomark _)) (mk_Alike rfl T n (hr.mono (by omega)) rfl (pa_cons (pe_ix ix_list (pv 1) pe_int (fun _ _ => rfl)) (pa_cons (pe_ix ix_list (pv 1) pe_int (fun _ _ => rfl)) (pa_cons (pe_ix ix_list (pv 1) pe_int (fun _ _ => rfl)) pa_nil)))) (pe_ifExp (pt_cmpR op_eq (pv 0) pe_str (nomark _)) (mk_Order rfl T n (hr.mono (by omega)) rfl (pa_cons (pe_ix ix_list (pv 1) pe_int (fun _ _ => rfl)) (pa_cons (pe_ix ix_list (pv 1) pe_int (fun _ _ => rfl)) (pa_cons (pe_ix ix_list (pv 1) pe_int (fun _ _ => rfl)) pa_nil)))) (mk_Unordered rfl T n (hr.mono (by omega)) rfl (pa_cons (pe_ix ix_list (pv 1) pe_int (fun _ _ => rfl)) (pa_cons (pe_ix ix_list (pv 1) pe_int (fun _ _ => rfl)) (pa_cons (pe_ix ix_list (pv 1) pe_int (fun _ _ => rfl)) pa_nil)))))))) pss_nil) (pss_cons (ps_if (pt_cmpR op_in_seq (pv 0) (pe_tup (pa_cons pe_str (pa_cons pe_str pa_nil))) rfl) (pss_one (ps_ret (pe_ifExp (pt_cmpR op_eq (pv 0) pe_str (nomark _)) (mk_Soonest rfl T n (hr.mono (by omega)) rfl (pa_cons (pe_ix ix_list (pv 1) pe_int (fun _ _ => rfl)) (pa_cons (pe_ix ix_list (pv 1) pe_int (fun _ _ => rfl)) (pa_cons (pe_ix ix_list (pv 1) pe_int (fun _ _ => rfl)) pa_nil)))) (mk_Delay rfl T n (hr.mono (by omega)) rfl (pa_cons (pe_ix ix_list (pv 1) pe_int (fun _ _ => rfl)) (pa_cons (pe_ix ix_list (pv 1) pe_int (fun _ _ => rfl)) (pa_cons (pe_ix ix_list (pv 1) pe_int (fun _ _ => rfl)) pa_nil))))))) pss_nil) (pss_one (ps_ret (pe_ifExp (pt_cmpR op_eq (pv 0) pe_str (nomark _)) (mk_Seemly rfl T n (hr.mono (by omega)) rfl (pa_cons (pe_ix ix_list (pv 1) pe_int (fun _ _ => rfl)) (pa_cons (pe_ix ix_list (pv 1) pe_int (fun _ _ => rfl)) (pa_cons (pe_ix ix_list (pv 1) pe_int (fun _ _ => rfl)) (pa_cons (pe_ix ix_list (pv 1) pe_int (fun _ _ => rfl)) pa_nil))))) (mk_Shorter rfl T n (hr.mono (by omega)) rfl (pa_cons (pe_ix ix_list (pv 1) pe_int (fun _ _ => rfl)) (pa_cons (pe_ix ix_list (pv 1) pe_int (fun _ _ => rfl)) (pa_cons (pe_ix ix_list (pv 1) pe_int (fun _ _ => rfl)) (pa_cons (pe_ix ix_list (pv 1) pe_int (fun _ _ => rfl)) pa_nil))))))))))), ?_⟩)
  · obtain ⟨wd, ds, l, xs, rfl, _⟩ := h
    rfl
  · obtain ⟨wd, ds, l, xs, rfl, hl, hr0, hc, _, hz, hd, k⟩ := h
    have hlx := RepL.len hr0
    have sm := Same.refl H
    refine ⟨_, rfl, .ref l, xs.length, rfl, .inl ⟨_, SqL.of hl, rfl⟩, _, 3, rfl, rfl, _, rfl, ?_⟩
    by_cases h3 : ((xs.length : Nat) : Int) < 3
    · exact iteT' h3 ⟨_, rfl, _, rfl, wd, ds, l, xs, rfl, hl, hr0, hc, (by show ds.length < 3; omega), hz, hd, k⟩
    refine iteF' h3 ?_
    have h34 : ds.length = 3 ∨ ds.length = 4 := by
      have z := cnt_mem hc
      have z2 : tbl.all (fun p => decide (p.2 ≤ 4)) = true := by decide +kernel
      have z3 := of_decide_eq_true (List.all_eq_true.mp z2 _ z)
      have z3 : ds.length ≤ 4 := z3
      omega
    rcases h34 with hlen | hlen
    · rw [hlen] at hc hlx
      have hm := cnt_words hc
      obtain ⟨x0, x1, x2, rfl⟩ := len3 hlx
      rcases List.mem_cons.mp hm with rfl | hm
      · refine inE (ws := [("within" : Str), ("round" : Str), ("keeps" : Str)]) (b := true) rfl (by decide) (by decide) (by decide +kernel) fun G s1 => iteT ?_
        replace sm := sm.trans s1
        exact ⟨_, rfl, rfl, _, rfl, strT (by decide +kernel) ⟨_, rfl, l, [x0, x1, x2], 0, x0, rfl, rfl, SqL.of (sm _ _ hl), rfl, _, rfl, l, [x0, x1, x2], 1, x1, rfl, rfl, SqL.of (sm _ _ hl), rfl, _, rfl, l, [x0, x1, x2], 2, x2, rfl, rfl, SqL.of (sm _ _ hl), rfl, make_read pc_Within (RepL.mono (Sol.of sm) _ _ hr0) hlen hz hd fun v H' s r => k v H' (sm.trans s) r⟩⟩
      rcases List.mem_cons.mp hm with rfl | hm
      · refine inE (ws := [("within" : Str), ("round" : Str), ("keeps" : Str)]) (b := true) rfl (by decide) (by decide) (by decide +kernel) fun G s1 => iteT ?_
        replace sm := sm.trans s1
        exact ⟨_, rfl, rfl, _, rfl, strF (by decide +kernel) ⟨_, rfl, rfl, _, rfl, strT (by decide +kernel) ⟨_, rfl, l, [x0, x1, x2], 0, x0, rfl, rfl, SqL.of (sm _ _ hl), rfl, _, rfl, l, [x0, x1, x2], 1, x1, rfl, rfl, SqL.of (sm _ _ hl), rfl, _, rfl, l, [x0, x1, x2], 2, x2, rfl, rfl, SqL.of (sm _ _ hl), rfl, make_read pc_Round (RepL.mono (Sol.of sm) _ _ hr0) hlen hz hd fun v H' s r => k v H' (sm.trans s) r⟩⟩⟩
      rcases List.mem_cons.mp hm with rfl | hm
      · refine inE (ws := [("within" : Str), ("round" : Str), ("keeps" : Str)]) (b := true) rfl (by decide) (by decide) (by decide +kernel) fun G s1 => iteT ?_
        replace sm := sm.trans s1
        exact ⟨_, rfl, rfl, _, rfl, strF (by decide +kernel) ⟨_, rfl, rfl, _, rfl, strF (by decide +kernel) ⟨_, rfl, l, [x0, x1, x2], 0, x0, rfl, rfl, SqL.of (sm _ _ hl), rfl, _, rfl, l, [x0, x1, x2], 1, x1, rfl, rfl, SqL.of (sm _ _ hl), rfl, _, rfl, l, [x0, x1, x2], 2, x2, rfl, rfl, SqL.of (sm _ _ hl), rfl, make_read pc_Keeps (RepL.mono (Sol.of sm) _ _ hr0) hlen hz hd fun v H' s r => k v H' (sm.trans s) r⟩⟩⟩
      rcases List.mem_cons.mp hm with rfl | hm
      · refine inE (ws := [("within" : Str), ("round" : Str), ("keeps" : Str)]) (b := false) rfl (by decide) (by decide) (by decide +kernel) fun G s1 => iteF ?_
        replace sm := sm.trans s1
        refine inE (ws := [("alike" : Str), ("order" : Str), ("unordered" : Str)]) (b := true) rfl (by decide) (by decide) (by decide +kernel) fun G s1 => iteT ?_
        replace sm := sm.trans s1
        exact ⟨_, rfl, rfl, _, rfl, strT (by decide +kernel) ⟨_, rfl, l, [x0, x1, x2], 0, x0, rfl, rfl, SqL.of (sm _ _ hl), rfl, _, rfl, l, [x0, x1, x2], 1, x1, rfl, rfl, SqL.of (sm _ _ hl), rfl, _, rfl, l, [x0, x1, x2], 2, x2, rfl, rfl, SqL.of (sm _ _ hl), rfl, make_read pc_Alike (RepL.mono (Sol.of sm) _ _ hr0) hlen hz hd fun v H' s r => k v H' (sm.trans s) r⟩⟩
      rcases List.mem_cons.mp hm with rfl | hm
      · refine inE (ws := [("within" : Str), ("round" : Str), ("keeps" : Str)]) (b := false) rfl (by decide) (by decide) (by decide +kernel) fun G s1 => iteF ?_
        replace sm := sm.trans s1
        refine inE (ws := [("alike" : Str), ("order" : Str), ("unordered" : Str)]) (b := true) rfl (by decide) (by decide) (by decide +kernel) fun G s1 => iteT ?_
        replace sm := sm.trans s1
        exact ⟨_, rfl, rfl, _, rfl, strF (by decide +kernel) ⟨_, rfl, rfl, _, rfl, strT (by decide +kernel) ⟨_, rfl, l, [x0, x1, x2], 0, x0, rfl, rfl, SqL.of (sm _ _ hl), rfl, _, rfl, l, [x0, x1, x2], 1, x1, rfl, rfl, SqL.of (sm _ _ hl), rfl, _, rfl, l, [x0, x1, x2], 2, x2, rfl, rfl, SqL.of (sm _ _ hl), rfl, make_read pc_Order (RepL.mono (Sol.of sm) _ _ hr0) hlen hz hd fun v H' s r => k v H' (sm.trans s) r⟩⟩⟩
      rcases List.mem_cons.mp hm with rfl | hm
      · refine inE (ws := [("within" : Str), ("round" : Str), ("keeps" : Str)]) (b := false) rfl (by decide) (by decide) (by decide +kernel) fun G s1 => iteF ?_
        replace sm := sm.trans s1
        refine inE (ws := [("alike" : Str), ("order" : Str), ("unordered" : Str)]) (b := true) rfl (by decide) (by decide) (by decide +kernel) fun G s1 => iteT ?_
        replace sm := sm.trans s1
        exact ⟨_, rfl, rfl, _, rfl, strF (by decide +kernel) ⟨_, rfl, rfl, _, rfl, strF (by decide +kernel) ⟨_, rfl, l, [x0, x1, x2], 0, x0, rfl, rfl, SqL.of (sm _ _ hl), rfl, _, rfl, l, [x0, x1, x2], 1, x1, rfl, rfl, SqL.of (sm _ _ hl), rfl, _, rfl, l, [x0, x1, x2], 2, x2, rfl, rfl, SqL.of (sm _ _ hl), rfl, make_read pc_Unordered (RepL.mono (Sol.of sm) _ _ hr0) hlen hz hd fun v H' s r => k v H' (sm.trans s) r⟩⟩⟩
      rcases List.mem_cons.mp hm with rfl | hm
      · refine inE (ws := [("within" : Str), ("round" : Str), ("keeps" : Str)]) (b := false) rfl (by decide) (by decide) (by decide +kernel) fun G s1 => iteF ?_
        replace sm := sm.trans s1
        refine inE (ws := [("alike" : Str), ("order" : Str), ("unordered" : Str)]) (b := false) rfl (by decide) (by decide) (by decide +kernel) fun G s1 => iteF ?_
        replace sm := sm.trans s1
        refine inE (ws := [("soonest" : Str), ("delay" : Str)]) (b := true) rfl (by decide) (by decide) (by decide +kernel) fun G s1 => iteT ?_
        replace sm := sm.trans s1
        exact ⟨_, rfl, rfl, _, rfl, strT (by decide +kernel) ⟨_, rfl, l, [x0, x1, x2], 0, x0, rfl, rfl, SqL.of (sm _ _ hl), rfl, _, rfl, l, [x0, x1, x2], 1, x1, rfl, rfl, SqL.of (sm _ _ hl), rfl, _, rfl, l, [x0, x1, x2], 2, x2, rfl, rfl, SqL.of (sm _ _ hl), rfl, make_read pc_Soonest (RepL.mono (Sol.of sm) _ _ hr0) hlen hz hd fun v H' s r => k v H' (sm.trans s) r⟩⟩
      rcases List.mem_cons.mp hm with rfl | hm
      · refine inE (ws := [("within" : Str), ("round" : Str), ("keeps" : Str)]) (b := false) rfl (by decide) (by decide) (by decide +kernel) fun G s1 => iteF ?_
        replace sm := sm.trans s1
        refine inE (ws := [("alike" : Str), ("order" : Str), ("unordered" : Str)]) (b := false) rfl (by decide) (by decide) (by decide +kernel) fun G s1 => iteF ?_
        replace sm := sm.trans s1
        refine inE (ws := [("soonest" : Str), ("delay" : Str)]) (b := true) rfl (by decide) (by decide) (by decide +kernel) fun G s1 => iteT ?_
        replace sm := sm.trans s1
        exact ⟨_, rfl, rfl, _, rfl, strF (by decide +kernel) ⟨_, rfl, l, [x0, x1, x2], 0, x0, rfl, rfl, SqL.of (sm _ _ hl), rfl, _, rfl, l, [x0, x1, x2], 1, x1, rfl, rfl, SqL.of (sm _ _ hl), rfl, _, rfl, l, [x0, x1, x2], 2, x2, rfl, rfl, SqL.of (sm _ _ hl), rfl, make_read pc_Delay (RepL.mono (Sol.of sm) _ _ hr0) hlen hz hd fun v H' s r => k v H' (sm.trans s) r⟩⟩
      exact absurd hm List.not_mem_nil
    · rw [hlen] at hc hlx
      have hm := cnt_words hc
      obtain ⟨x0, x1, x2, x3, rfl⟩ := len4 hlx
      rcases List.mem_cons.mp hm with rfl | hm
      · refine inE (ws := [("within" : Str), ("round" : Str), ("keeps" : Str)]) (b := false) rfl (by decide) (by decide) (by decide +kernel) fun G s1 => iteF ?_
        replace sm := sm.trans s1
        refine inE (ws := [("alike" : Str), ("order" : Str), ("unordered" : Str)]) (b := false) rfl (by decide) (by decide) (by decide +kernel) fun G s1 => iteF ?_
        replace sm := sm.trans s1
        refine inE (ws := [("soonest" : Str), ("delay" : Str)]) (b := false) rfl (by decide) (by decide) (by decide +kernel) fun G s1 => iteF ?_
        replace sm := sm.trans s1
        exact ⟨_, rfl, rfl, _, rfl, strF (by decide +kernel) ⟨_, rfl, l, [x0, x1, x2, x3], 0, x0, rfl, rfl, SqL.of (sm _ _ hl), rfl, _, rfl, l, [x0, x1, x2, x3], 1, x1, rfl, rfl, SqL.of (sm _ _ hl), rfl, _, rfl, l, [x0, x1, x2, x3], 2, x2, rfl, rfl, SqL.of (sm _ _ hl), rfl, _, rfl, l, [x0, x1, x2, x3], 3, x3, rfl, rfl, SqL.of (sm _ _ hl), rfl, make_read pc_Shorter (RepL.mono (Sol.of sm) _ _ hr0) hlen hz hd fun v H' s r => k v H' (sm.trans s) r⟩⟩
      rcases List.mem_cons.mp hm with rfl | hm
      · refine inE (ws := [("within" : Str), ("round" : Str), ("keeps" : Str)]) (b := false) rfl (by decide) (by decide) (by decide +kernel) fun G s1 => iteF ?_
        replace sm := sm.trans s1
        refine inE (ws := [("alike" : Str), ("order" : Str), ("unordered" : Str)]) (b := false) rfl (by decide) (by decide) (by decide +kernel) fun G s1 => iteF ?_
        replace sm := sm.trans s1
        refine inE (ws := [("soonest" : Str), ("delay" : Str)]) (b := false) rfl (by decide) (by decide) (by decide +kernel) fun G s1 => iteF ?_
        replace sm := sm.trans s1
        exact ⟨_, rfl, rfl, _, rfl, strT (by decide +kernel) ⟨_, rfl, l, [x0, x1, x2, x3], 0, x0, rfl, rfl, SqL.of (sm _ _ hl), rfl, _, rfl, l, [x0, x1, x2, x3], 1, x1, rfl, rfl, SqL.of (sm _ _ hl), rfl, _, rfl, l, [x0, x1, x2, x3], 2, x2, rfl, rfl, SqL.of (sm _ _ hl), rfl, _, rfl, l, [x0, x1, x2, x3], 3, x3, rfl, rfl, SqL.of (sm _ _ hl), rfl, make_read pc_Seemly (RepL.mono (Sol.of sm) _ _ hr0) hlen hz hd fun v H' s r => k v H' (sm.trans s) r⟩⟩
      exact absurd hm List.not_mem_nil
end
end K91
set_option Elab.async false
set_option linter.all false
set_option maxRecDepth 100000
set_option maxHeartbeats 4000000
/-! K91, AH: plain forms of data, what is drawn. -/
namespace K91
open PySem PySem.Spec PyProof.Rows L2
/-- all but lists is kept -/
def Kpt (H H' : Hp) : Prop := ∀ a o, H a = some o → (∀ xs, o ≠ .lst xs) → H' a = some o
theorem Kpt.of {H H' : Hp} (h : Same H H') : Kpt H H' := fun a o e _ => h a o e
theorem Kpt.trans {H H1 H2 : Hp} (a : Kpt H H1) (b : Kpt H1 H2) : Kpt H H2 := fun x o e n => b x o (a x o e n) n
theorem Kpt.sol {H H' : Hp} (h : Kpt H H') : Sol H H' := fun a o e s => h a o e (fun xs z => by subst z; exact s)
theorem SB.kpt {p : Addr} {H H' : Hp} {xs : List V} (h : SB p H H') (hp : H p = some (.lst xs)) : Kpt H H' := fun a o e n => h a o (fun z => by rw [z, hp] at e; cases e; exact n _ rfl) e
theorem Kpt.mut {H : Hp} {m : Addr} {xs ys : List V} (h : H m = some (.lst xs)) : Kpt H (upd H m (.lst ys)) := fun a u e n => by
  have ne : a ≠ m := fun z => by
    subst z
    rw [h] at e
    cases e
    exact n _ rfl
  rw [upd_ne ne]
  exact e
mutual
/-- a datum told plainly: papers as dicts of a word and parts -/
def Pl (H : Hp) : D → V → Prop
  | .non, v => v = .non
  | .int i, v => v = .int i
  | .str s, v => v = .str s
  | .bl _, _ => False
  | .dct, _ => False
  | .tup ds, v => ∃ a vs, v = .ref a ∧ H a = some (.tup vs) ∧ PlL H ds vs
  | .pap w ds, v => ∃ a t vs, v = .ref a ∧ H a = some (.dK [(Sum.inr ("word" : Str), .str w), (Sum.inr ("parts" : Str), .ref t)]) ∧ H t = some (.tup vs) ∧ PlL H ds vs
def PlL (H : Hp) : List D → List V → Prop
  | [], vs => vs = []
  | d :: ds, vs => ∃ v r, vs = v :: r ∧ Pl H d v ∧ PlL H ds r
end
mutual
theorem Pl.mono {H H' : Hp} (h : Kpt H H') : ∀ (d : D) (v : V), Pl H d v → Pl H' d v
  | .non, _, e => e
  | .int _, _, e => e
  | .str _, _, e => e
  | .bl _, _, e => e
  | .dct, _, e => e
  | .tup ds, _, ⟨a, vs, e, e1, r⟩ => ⟨a, vs, e, h _ _ e1 (fun _ z => by cases z), PlL.mono h ds vs r⟩
  | .pap w ds, _, ⟨a, t, vs, e, e1, e2, r⟩ => ⟨a, t, vs, e, h _ _ e1 (fun _ z => by cases z), h _ _ e2 (fun _ z => by cases z), PlL.mono h ds vs r⟩
theorem PlL.mono {H H' : Hp} (h : Kpt H H') : ∀ (ds : List D) (vs : List V), PlL H ds vs → PlL H' ds vs
  | [], _, e => e
  | d :: ds, _, ⟨v, r, e, e1, k⟩ => ⟨v, r, e, Pl.mono h d v e1, PlL.mono h ds r k⟩
end
theorem PlL.len {H : Hp} : ∀ {ds : List D} {vs : List V}, PlL H ds vs → vs.length = ds.length
  | [], _, e => by
    have e : _ = [] := e
    rw [e] <;> rfl
  | d :: ds, _, ⟨v, r, e, _, k⟩ => by rw [e, List.length_cons, List.length_cons, PlL.len k]
/-- pairs of a value and its plain form -/
def RPr (H : Hp) : List D → List V → Prop
  | [], xs => xs = []
  | d :: ds, xs => ∃ t a b ys, xs = .ref t :: ys ∧ H t = some (.tup [a, b]) ∧ Rep H d a ∧ Pl H d b ∧ RPr H ds ys
theorem RPr.mono {H H' : Hp} (h : Kpt H H') : ∀ {ds : List D} {xs : List V}, RPr H ds xs → RPr H' ds xs
  | [], _, e => e
  | d :: ds, _, ⟨t, a, b, ys, e, e1, r, q, k⟩ => ⟨t, a, b, ys, e, h _ _ e1 (fun _ z => by cases z), Rep.mono h.sol _ _ r, Pl.mono h _ _ q, RPr.mono h k⟩
theorem RPr.app {H : Hp} : ∀ {ds es : List D} {xs ys : List V}, RPr H ds xs → RPr H es ys → RPr H (ds ++ es) (xs ++ ys)
  | [], _, _, _, e, g => by
    have e : _ = [] := e
    rw [e]
    exact g
  | d :: ds, _, _, _, ⟨t, a, b, ys, e, e1, r, q, k⟩, g => ⟨t, a, b, _, by rw [e]; rfl, e1, r, q, RPr.app k g⟩
theorem RPr.len {H : Hp} : ∀ {ds : List D} {xs : List V}, RPr H ds xs → xs.length = ds.length
  | [], _, e => by
    have e : _ = [] := e
    rw [e] <;> rfl
  | d :: ds, _, ⟨t, a, b, ys, e, _, _, _, k⟩ => by rw [e, List.length_cons, List.length_cons, RPr.len k]
/-- what the pairs hold -/
theorem RPr.parts {H : Hp} : ∀ {ds : List D} {xs : List V}, RPr H ds xs → ∃ as bs : List V, as.length = ds.length ∧ bs.length = ds.length ∧ RepL H ds as ∧ PlL H ds bs ∧ ∀ (i : Nat) (x : V), xs[i]? = some x → ∃ (t : Addr) (a b : V), x = .ref t ∧ H t = some (.tup [a, b]) ∧ as[i]? = some a ∧ bs[i]? = some b
  | [], xs, e => ⟨[], [], rfl, rfl, rfl, rfl, fun i x h => by
    have e : xs = [] := e
    rw [e] at h
    simp at h⟩
  | d :: ds, xs, ⟨t, a, b, ys, e, e1, r, q, k⟩ => by
    obtain ⟨as, bs, l1, l2, k1, k2, k3⟩ := RPr.parts k
    refine ⟨a :: as, b :: bs, by rw [List.length_cons, l1]; rfl, by rw [List.length_cons, l2]; rfl, ⟨a, as, rfl, r, k1⟩, ⟨b, bs, rfl, q, k2⟩, fun i x h => ?_⟩
    rw [e] at h
    cases i with
    | zero =>
      have h : V.ref t = x := by simpa using h
      exact ⟨t, a, b, h.symm, e1, rfl, rfl⟩
    | succ i => exact k3 i x (by simpa using h)
/-! ### what is drawn is small and told -/
def Wd : Nat → Nat
  | 0 => 1
  | k + 1 => 3 + 4 * Wd k
def noSp (x : Str) : Bool := x.cps.toList.all fun c => decide (c ≠ 32) && decide (c ≠ 10)
def Nice (k : Nat) (d : D) : Prop := d.ok = true ∧ d.Fine ∧ d.fd ≤ k ∧ d.dep ≤ k ∧ d.sz ≤ Wd k ∧ d.words.length ≤ Wd k ∧ ∀ x ∈ d.words, x.length ≤ 100 ∧ noSp x = true
def NiceL (k : Nat) (ds : List D) : Prop := ∀ d ∈ ds, Nice k d
theorem NiceL.all {k : Nat} : ∀ {ds : List D}, NiceL k ds → okD ds = true ∧ FineL ds ∧ fdL ds ≤ k ∧ depL ds ≤ k ∧ szL ds ≤ ds.length * Wd k ∧ (wordsL ds).length ≤ ds.length * Wd k ∧ ∀ x ∈ wordsL ds, x.length ≤ 100 ∧ noSp x = true
  | [], _ => ⟨rfl, True.intro, Nat.zero_le _, Nat.zero_le _, Nat.zero_le _, Nat.zero_le _, fun x h => absurd h List.not_mem_nil⟩
  | d :: ds, h => by
    obtain ⟨a1, a2, a3, a4, a5, a6, a7⟩ := h d List.mem_cons_self
    obtain ⟨b1, b2, b3, b4, b5, b6, b7⟩ := NiceL.all (ds := ds) fun e he => h e (List.mem_cons_of_mem _ he)
    refine ⟨Bool.and_eq_true_iff.mpr ⟨a1, b1⟩, ⟨a2, b2⟩, Nat.max_le.mpr ⟨a3, b3⟩, Nat.max_le.mpr ⟨a4, b4⟩, ?_, ?_, fun x hx => ?_⟩
    · show d.sz + szL ds ≤ _
      rw [List.length_cons, Nat.succ_mul]
      omega
    · show (d.words ++ wordsL ds).length ≤ _
      rw [List.length_append, List.length_cons, Nat.succ_mul]
      omega
    · rcases List.mem_append.mp (show x ∈ d.words ++ wordsL ds from hx) with hx | hx
      · exact a7 x hx
      · exact b7 x hx
theorem nice_tup {k : Nat} {ds : List D} (h : NiceL k ds) (hl : ds.length ≤ 4) : Nice (k + 1) (.tup ds) := by
  obtain ⟨b1, b2, b3, b4, b5, b6, b7⟩ := h.all
  have hm : ds.length * Wd k ≤ 4 * Wd k := Nat.mul_le_mul_right _ hl
  refine ⟨b1, b2, Nat.succ_le_succ b3, Nat.succ_le_succ b4, ?_, ?_, fun x hx => ?_⟩
  · show szL ds + 1 ≤ 3 + 4 * Wd k
    omega
  · show (wO :: (wordsL ds ++ [wC])).length ≤ 3 + 4 * Wd k
    rw [List.length_cons, List.length_append]
    show (wordsL ds).length + 1 + 1 ≤ _
    omega
  · rcases List.mem_cons.mp (show x ∈ wO :: (wordsL ds ++ [wC]) from hx) with rfl | hx
    · exact ⟨by decide +kernel, by decide +kernel⟩
    rcases List.mem_append.mp hx with hx | hx
    · exact b7 x hx
    · rw [List.mem_singleton.mp hx]
      exact ⟨by decide +kernel, by decide +kernel⟩
theorem nice_pap {k : Nat} {w : Str} {ds : List D} (h : NiceL k ds) (hc : cnt w = some ds.length) : Nice (k + 1) (.pap w ds) := by
  obtain ⟨b1, b2, b3, b4, b5, b6, b7⟩ := h.all
  have z := cnt_mem hc
  have z2 : tbl.all (fun p => decide (p.2 ≤ 4) && (decide (p.1.length ≤ 100) && noSp p.1)) = true := by decide +kernel
  obtain ⟨z3, z4⟩ := ba (List.all_eq_true.mp z2 _ z)
  obtain ⟨z4, z5⟩ := ba z4
  have hl : ds.length ≤ 4 := of_decide_eq_true z3
  have hm : ds.length * Wd k ≤ 4 * Wd k := Nat.mul_le_mul_right _ hl
  refine ⟨Bool.and_eq_true_iff.mpr ⟨decide_eq_true hc, b1⟩, b2, Nat.succ_le_succ b3, Nat.zero_le _, ?_, ?_, fun x hx => ?_⟩
  · show szL ds + 1 ≤ 3 + 4 * Wd k
    omega
  · show (w :: wO :: (wordsL ds ++ [wC])).length ≤ 3 + 4 * Wd k
    rw [List.length_cons, List.length_cons, List.length_append]
    show (wordsL ds).length + 1 + 1 + 1 ≤ _
    omega
  · rcases List.mem_cons.mp (show x ∈ w :: wO :: (wordsL ds ++ [wC]) from hx) with rfl | hx
    · exact ⟨of_decide_eq_true z4, z5⟩
    rcases List.mem_cons.mp hx with rfl | hx
    · exact ⟨by decide +kernel, by decide +kernel⟩
    rcases List.mem_append.mp hx with hx | hx
    · exact b7 x hx
    · rw [List.mem_singleton.mp hx]
      exact ⟨by decide +kernel, by decide +kernel⟩
theorem Wd_le : ∀ k, Wd k ≤ Wd (k + 1) := fun k => by
  show Wd k ≤ 3 + 4 * Wd k
  omega
theorem Nice.up {k : Nat} {d : D} : Nice k d → Nice (k + 1) d := fun ⟨a1, a2, a3, a4, a5, a6, a7⟩ => ⟨a1, a2, Nat.le_succ_of_le a3, Nat.le_succ_of_le a4, Nat.le_trans a5 (Wd_le k), Nat.le_trans a6 (Wd_le k), a7⟩
theorem Nice.of0 {d : D} (h : Nice 0 d) : ∀ k, Nice k d
  | 0 => h
  | k + 1 => (Nice.of0 h k).up
def leafI : List Int := [0, 7, -1, -30, 10 ^ 39, 1999]
def leafS : List Str := ["", "all", "done", "none", "zzzzzzzzzzzzzzzzzzzzzzzzzzzzzz"]
theorem nice_int : ∀ i ∈ leafI, Nice 0 (.int i) := fun i hi => by
  have z : leafI.all (fun i => okI i && (decide (i.natAbs < 10 ^ 100) && (decide ((Str.ofString (toString i)).length ≤ 100) && noSp (Str.ofString (toString i))))) = true := by decide +kernel
  obtain ⟨z1, z⟩ := ba (List.all_eq_true.mp z i hi)
  obtain ⟨z2, z⟩ := ba z
  obtain ⟨z3, z4⟩ := ba z
  exact ⟨z1, (show i.natAbs < 10 ^ 100 from of_decide_eq_true z2), Nat.le_refl _, Nat.le_refl _, Nat.le_refl _, Nat.le_refl _, fun x hx => by
    rw [List.mem_singleton.mp (show x ∈ [Str.ofString (toString i)] from hx)]
    exact ⟨of_decide_eq_true z3, z4⟩⟩
theorem nice_str : ∀ s ∈ leafS, Nice 0 (.str s) := fun s hs => by
  have z : leafS.all (fun s => okS s && (decide (s.length ≤ 1000) && (decide ((wE ++ s).length ≤ 100) && noSp (wE ++ s)))) = true := by decide +kernel
  obtain ⟨z1, z⟩ := ba (List.all_eq_true.mp z s hs)
  obtain ⟨z2, z⟩ := ba z
  obtain ⟨z3, z4⟩ := ba z
  exact ⟨z1, (show s.length ≤ 1000 from of_decide_eq_true z2), Nat.le_refl _, Nat.le_refl _, Nat.le_refl _, Nat.le_refl _, fun x hx => by
    rw [List.mem_singleton.mp (show x ∈ [wE ++ s] from hx)]
    exact ⟨of_decide_eq_true z3, z4⟩⟩
theorem nice_non : Nice 0 .non := ⟨rfl, True.intro, Nat.le_refl _, Nat.le_refl _, Nat.le_refl _, Nat.le_refl _, fun x hx => by
    rw [List.mem_singleton.mp (show x ∈ [wN] from hx)]
    exact ⟨by decide +kernel, by decide +kernel⟩⟩
end K91
set_option Elab.async false
set_option linter.all false
set_option maxRecDepth 100000
set_option maxHeartbeats 4000000
/-! K91, AI: _law_tx_thing, _law_tx_drawn_paper. -/
namespace K91
open PySem PySem.Spec PyProof.Rows L2
def manyS (z : Str) (n : Int) : Str := ⟨(List.replicate n.toNat z.cps).foldl (· ++ ·) #[]⟩
theorem op_mulS {X : Cx} : OpR X (binaryOp .Mult) (fun x y H Q => ∃ (z : Str) (n : Int), x = .str z ∧ y = .int n ∧ z ∈ ([("z" : Str), ("9" : Str), ("1" : Str)] : List Str) ∧ n ∈ ([30, 40, 41] : List Int) ∧ Q (.str (manyS z n)) H) := by
  intro pins s σ H x y v u Q I rx ry h
  obtain ⟨z, n, rfl, rfl, hz, hn, q⟩ := h
  obtain ⟨t, rfl⟩ := rx
  obtain ⟨t', rfl⟩ := ry
  have key : ([("z" : Str), ("9" : Str), ("1" : Str)] : List Str).all (fun z => ([30, 40, 41] : List Int).all fun n => decide (¬ n < 1) && (decide ((n == 1 || z.length == 0) = false) && (decide ((decide (n < -(2 ^ 63 : Int)) || decide (n ≥ 2 ^ 63)) = false) &&
    (decide (¬ ((z.length : Int) > (2 ^ 63 - 1) / n)) && (decide (Builtin.Str.tooLong (z.length * n.toNat) = false) && decide ((manyS z n).length ≤ sizeLine)))))) = true := by decide +kernel
  obtain ⟨k1, key⟩ := ba (List.all_eq_true.mp (List.all_eq_true.mp key z hz) n hn)
  obtain ⟨k2, key⟩ := ba key
  obtain ⟨k3, key⟩ := ba key
  obtain ⟨k4, key⟩ := ba key
  obtain ⟨k5, k6⟩ := ba key
  refine PySem.P.mul_str (of_decide_eq_true k3) (fun _ _ => of_decide_eq_true k4) (fun _ _ => of_decide_eq_true k5) ?_
  rw [if_neg (of_decide_eq_true k1), of_decide_eq_true k2, if_neg (by decide)]
  exact ⟨of_decide_eq_true k6, ⟨.str (manyS z n), H, I.tok _, ⟨_, rfl⟩, q⟩⟩
theorem merge2 (a b : V) : mergeK [] [(Sum.inr ("word" : Str), a), (Sum.inr ("parts" : Str), b)] = [(Sum.inr ("word" : Str), a), (Sum.inr ("parts" : Str), b)] := rfl
theorem Wd_small {k : Nat} (h : k ≤ 3) : Wd k ≤ 127 := by
  have : k = 0 ∨ k = 1 ∨ k = 2 ∨ k = 3 := by omega
  rcases this with rfl | rfl | rfl | rfl <;> decide
/-- how many draws a thing takes at most -/
def cst : Nat → Nat
  | 0 => 3
  | k + 1 => 3 + 4 * cst k
def spThing (k : Nat) : Sp := fun vs H Q _ => ∃ (p c : Addr) (n : Nat), vs = [.ref p, .int (k : Int)] ∧ PenAt p c n H ∧ n + cst k ≤ 1000000 ∧ ∀ (t : Addr) (a b : V) (d : D) H', SB p H H' → PenAt p c (n + cst k) H' → H' t = some (.tup [a, b]) → Rep H' d a → Pl H' d b → Nice k d → Q (.ref t) H'
def spDrawn (k : Nat) : Sp := fun vs H Q _ => ∃ (p c : Addr) (n : Nat), vs = [.ref p, .int ((k + 1 : Nat) : Int)] ∧ PenAt p c n H ∧ n + 1 + 4 * cst k ≤ 1000000 ∧ ∀ (t : Addr) (a b : V) (wd : Str) (ds : List D) H', SB p H H' → PenAt p c (n + 1 + 4 * cst k) H' → H' t = some (.tup [a, b]) → Rep H' (.pap wd ds) a → Pl H' (.pap wd ds) b → Nice (k + 1) (.pap wd ds) → Q (.ref t) H'
/-- [one[i] for one in both] -/
theorem proj_read {K : PySem.W.Frag} {j : Nat} {σ : L2.St} {H : Hp} {l : Addr} {xs as : List V} {i0 : Int} {wi : TI} {Q : VK} (hw : ∀ R : It → Hp → Prop, R (Itl K l) H → wi σ H R) (hwp : ∀ v, wipe ((wipe σ [j]).set j (some v)) [j] = wipe σ [j]) (hgt : ∀ v, ((wipe σ [j]).set j (some v))[j]? = some (some v))
    (hl : H l = some (.lst xs)) (hlen : xs.length ≤ 100) (hx : ∀ (i : Nat) (x : V), xs[i]? = some x → ∃ (t : Addr) (a b y : V), x = .ref t ∧ H t = some (.tup [a, b]) ∧ atI [a, b] i0 = some y ∧ as[i]? = some y) (hla : as.length = xs.length)
    (k : ∀ D G, H D = none → Same H G → G D = some (.lst as) → Q (.ref D) G) : tLc wi (gName j) tYes (tOp (rIxT K) (tVar j) (tC (.int i0))) [j] σ H Q := by
  refine hw _ fun D hD => ?_
  refine lc_list (K := K) (a := l) (xs := xs) (fun i G => Same H G ∧ G D = some (.lst (as.take i))) ⟨same_new hD, upd_same⟩ (fun i G _ z => SqL.of (z.1 _ _ hl)) (fun i x G hi z => ⟨hwp _, lcTurn ?_⟩) (fun G z => ?_)
  · obtain ⟨t, a, b, y, rfl, e1, e2, e3⟩ := hx i x hi
    obtain ⟨z1, z2⟩ := z
    refine ⟨_, hgt _, t, _, i0, y, rfl, rfl, SqT.of (z1 _ _ e1), e2, _, z2, ?_, fun c o e => by rw [upd_ne (ne_of_none e hD)]; exact z1 _ _ e, ?_⟩
    · have h1 := List.length_take_le' i as
      refine Nat.lt_of_le_of_lt h1 (Nat.lt_of_le_of_lt (show as.length ≤ 100 by omega) (by decide))
    · rw [upd_same, take_app e3]
  · obtain ⟨z1, z2⟩ := z
    rw [← hla, List.take_length] at z2
    exact k D G hD z1 z2
section
variable {w : World} {K : PySem.W.Frag} {mg : Str → Option Value} {base : Heap}
theorem ok_drawn (T : Ctx K mg) (k : Nat) (hk2 : k ≤ 3) (ht : FnOk PW w K mg base CX0 (2 * k + 12) r_lx_thing.at_ (fdOf K r_lx_thing.at_) P_lx_thing (spThing k)) : FnOk PW w K mg base CX0 (2 * k + 13) r_lx_drawn_paper.at_ (fdOf K r_lx_drawn_paper.at_) P_lx_drawn_paper (spDrawn k) := by
  have F := T.fun_ r_lx_drawn_paper m_lx_drawn_paper
  have Ft := T.fun_ r_lx_thing m_lx_thing
  have Fp := T.fun_ r_l_pick m_l_pick
  have Fc := T.fun_ r_lx_counts m_lx_counts
  have Fo := T.fun_ r_l_paper_of m_l_paper_of
  have bt : Binds K (fdOf K r_lx_thing.at_) P_lx_thing [] := Ft.binds fun _ _ _ _ _ _ us hl => match us, hl with | [_, _], _ => rfl
  have bp : Binds K (fdOf K r_l_pick.at_) P_l_pick [] := Fp.binds fun _ _ _ _ _ _ us hl => match us, hl with | [_, _], _ => rfl
  have bc : Binds K (fdOf K r_lx_counts.at_) P_lx_counts [] := Fc.binds fun _ _ _ _ _ _ us hl => match us, hl with | [], _ => rfl
  have bo : Binds K (fdOf K r_l_paper_of.at_) P_l_paper_of [] := Fo.binds fun _ _ _ _ _ _ us hl => match us, hl with | [_, _], _ => rfl
  refine F.ok sc_lx_drawn_paper (fun vs H Q E h => ?_) (fun cdv A outer s H vs Q E hr h => ⟨_, pss_cons (ps_asg (pe_call (ok_pick T) (hr.mono (by omega)) rfl T.glo Fp.kp bp .nil pass0 (pa_cons (pv 0) (pa_cons (pe_callB (call_sortedD rfl) rfl T.free (by decide +kernel) (pa_cons (pe_call0 (ok_lx_counts T) (hr.mono (by omega)) rfl T.glo Fc.kp bc .nil pass0) pa_nil)) pa_nil))) (pg_name (i := 2) sc_lx_drawn_paper.nd rfl (Or.inl rfl)))
    (pss_cons (ps_setLc (i := 3) (own := [("turn", 4)]) (g := gName 4) (tt := tYes) rfl sc_lx_drawn_paper.nd rfl rfl rfl (pi_range1 rfl T.free (pa_cons (pe_dget (hu_of hr) (pe_call0 (ok_lx_counts T) (hr.mono (by omega)) rfl T.glo Fc.kp bc .nil pass0) (pv 2) (fun _ _ => rfl)) pa_nil)) (blkOk_by (N := N_lx_drawn_paper) (sc := defScope s_lx_drawn_paper) (by decide +kernel))
        (fun _ _ _ _ _ => pg_name (i := 4) sc_lx_drawn_paper.nd rfl (Or.inl rfl)) (fun _ _ _ _ _ => pts_nil) (fun _ _ _ _ _ => pe_call ht hr rfl T.glo Ft.kp bt .nil pass0 (pa_cons (pv 0) (pa_cons (pe_op op_sub (pv 1) pe_int) pa_nil))))
    (pss_one (ps_ret (pe_tup (pa_cons (pe_call (ok_paper_of T (k + 1)) (hr.mono (by omega)) rfl T.glo Fo.kp bo .nil pass0 (pa_cons (pv 2) (pa_cons
        (pe_lc (own := [("one", 5)]) (g := gName 5) (tt := tYes) rfl sc_lx_drawn_paper.nd (pi_list (pv 3)) (blkOk_by (N := N_lx_drawn_paper) (sc := defScope s_lx_drawn_paper) (by decide +kernel)) (fun _ _ _ _ _ => pg_name (i := 5) sc_lx_drawn_paper.nd rfl (Or.inl rfl)) (fun _ _ _ _ _ => pts_nil) (fun _ _ _ _ _ => pe_ix (r := rIxT K) ix_tup (pv 5) pe_int (fun _ _ => rfl))) pa_nil)))
      (pa_cons (pe_disp (pps_cons pe_str (pv 2) (pps_cons pe_str (pe_callTy call_tuple_of rfl T.free (by decide +kernel) (pa_cons
        (pe_lc (own := [("one", 5)]) (g := gName 5) (tt := tYes) rfl sc_lx_drawn_paper.nd (pi_list (pv 3)) (blkOk_by (N := N_lx_drawn_paper) (sc := defScope s_lx_drawn_paper) (by decide +kernel)) (fun _ _ _ _ _ => pg_name (i := 5) sc_lx_drawn_paper.nd rfl (Or.inl rfl)) (fun _ _ _ _ _ => pts_nil) (fun _ _ _ _ _ => pe_ix (r := rIxT K) ix_tup (pv 5) pe_int (fun _ _ => rfl))) pa_nil)) pps_nil)) rfl rfl (by decide) (by decide)) pa_nil)))))), ?_⟩)
  · obtain ⟨p, c, n, rfl, _⟩ := h
    rfl
  · obtain ⟨p, c, n, rfl, hP, hn, hk⟩ := h
    obtain ⟨_, xs0, ys0, hp0, hc0⟩ := hP.ne
    refine ⟨_, rfl, rfl, fun q G hq smq hc => ⟨q, ctab, tbl.map (·.1), rfl, .inl hc, by unfold ctab; rw [List.map_map, List.map_map]; rfl, by decide, fun ys l hperm hsort hl => ?_⟩⟩
    have hlen : ys.length = 28 := by rw [hperm.length_eq]; rfl
    have nlp : l ≠ p := (ne_of_none (smq _ _ hp0) hl).symm
    refine ⟨p, c, l, n, ys.map V.str, rfl, upd_same, by rw [List.length_map, hlen]; decide, by rw [List.length_map, hlen]; decide, PenAt.mono (smq.trans (same_new hl)) hP, nlp, by omega, fun i v H1 hi sb hP1 => ?_⟩
    have sb1 : SB p H H1 := (SB.of (smq.trans (same_new hl))).trans sb
    rw [List.getElem?_map] at hi
    obtain ⟨wd, hwd, rfl⟩ := Option.map_eq_some_iff.mp hi
    have hmem : wd ∈ tbl.map (·.1) := hperm.mem_iff.mp (List.mem_of_getElem? hwd)
    have hcn : ∃ m, cnt wd = some m ∧ m ≤ 4 := by
      have z : (tbl.map (·.1)).all (fun x => match cnt x with | some m => decide (m ≤ 4) | none => false) = true := by decide +kernel
      have z := List.all_eq_true.mp z wd hmem
      cases e : cnt wd with
      | none => rw [e] at z; cases z
      | some m => rw [e] at z; exact ⟨m, rfl, of_decide_eq_true z⟩
    obtain ⟨m, hcm, hm4⟩ := hcn
    refine ⟨rfl, fun q2 G2 hq2 smq2 hc2 => ⟨_, rfl, ?_⟩⟩
    have hv : valV ctab (Sum.inr wd) = some (V.int (m : Int)) := by rw [ctab_val, hcm]; rfl
    have sb2 : SB p H G2 := sb1.trans (SB.of smq2)
    have hP2 := PenAt.mono smq2 hP1
    refine ⟨q2, _, rfl, (by rw [← hv]; exact DGet.k (k := Sum.inr wd) hc2), (m : Int), rfl, by omega, by omega, fun D hD => ?_⟩
    obtain ⟨_, xp2, _, hp2, hc2'⟩ := hP2.ne
    have nDc : D ≠ c := (ne_of_none hc2' hD).symm
    have nDp : D ≠ p := (ne_of_none hp2 hD).symm
    refine lc_range (lo := 0) (n := m) (fun i G => SB p G2 G ∧ PenAt p c (n + 1 + i * cst k) G ∧ ∃ ds xs, G D = some (.lst xs) ∧ ds.length = i ∧ NiceL k ds ∧ RPr G ds xs) ⟨SB.of (same_new hD), by rw [Nat.zero_mul]; exact PenAt.mono (same_new hD) hP2, [], [], upd_same, rfl, fun d hd => absurd hd List.not_mem_nil, rfl⟩
      (fun i G hi z => ⟨rfl, lcTurn ?_⟩) (fun G z => ?_)
    · obtain ⟨z1, z2, ds, xs, z3, z4, z5, z6⟩ := z
      have hbud : i * cst k + cst k ≤ 4 * cst k := by
        rw [← Nat.succ_mul]
        exact Nat.mul_le_mul_right _ (by omega)
      refine ⟨_, rfl, _, rfl, _, 1, rfl, rfl, p, c, n + 1 + i * cst k, by show [V.ref p, V.int (((k + 1 : Nat) : Int) - 1)] = _; rw [show ((k + 1 : Nat) : Int) - 1 = (k : Int) by omega], z2, by omega, fun t a b d H' sb' hp' htt hra hpl hni => ?_⟩
      obtain ⟨_, xpG, _, hpG, _⟩ := z2.ne
      have hD' := sb' _ _ nDp z3
      have lx := RPr.len z6
      refine ⟨xs, hD', Nat.lt_of_le_of_lt (show xs.length ≤ 100 by omega) (by decide), fun x o nx e => ?_, ?_, ds ++ [d], xs ++ [.ref t], upd_same, by rw [List.length_append, z4]; rfl, fun e he => ?_, ?_⟩
      · rw [upd_ne (ne_of_none e hD)]
        exact sb' _ _ nx (z1 _ _ nx e)
      · rw [Nat.succ_mul, ← Nat.add_assoc]
        exact PenAt.upd nDp nDc hp'
      · rcases List.mem_append.mp he with he | he
        · exact z5 e he
        · rw [List.mem_singleton.mp he]
          exact hni
      · have kp := Kpt.mut (ys := xs ++ [V.ref t]) hD'
        exact RPr.app (RPr.mono kp (RPr.mono (sb'.kpt hpG) z6)) ⟨t, a, b, [], rfl, kp _ _ htt (fun _ z => by cases z), Rep.mono kp.sol _ _ hra, Pl.mono kp _ _ hpl, rfl⟩
    · obtain ⟨z1, z2, ds, xs, z3, z4, z5, z6⟩ := z
      obtain ⟨as, bs, la, lb, ra, rb, hx⟩ := z6.parts
      obtain ⟨w1, w2, w3, w4, w5, _, _⟩ := z5.all
      have lx := RPr.len z6
      have hWd := Wd_small hk2
      have hsz : szL ds < 100000 := Nat.lt_of_le_of_lt w5 (Nat.lt_of_le_of_lt (Nat.mul_le_mul (show ds.length ≤ 4 by omega) hWd) (by decide))
      have nic : Nice (k + 1) (.pap wd ds) := nice_pap z5 (by rw [z4]; exact hcm)
      refine ⟨_, rfl, proj_read (K := K) (l := D) (xs := xs) (as := as) (i0 := 0) (fun R hR => ⟨_, rfl, D, rfl, ⟨_, SqL.of z3⟩, hR⟩) (fun _ => rfl) (fun _ => rfl) z3 (by omega) (fun i x hi => ?_) (by omega) fun Da Ga hDa sma hGa => ?_⟩
      · obtain ⟨t, a, b, e1, e2, e3, e4⟩ := hx i x hi
        exact ⟨t, a, b, a, e1, e2, rfl, e3⟩
      refine ⟨wd, ds, Da, as, rfl, hGa, RepL.mono (Sol.of sma) _ _ ra, by rw [z4]; exact hcm, True.intro, hsz, Nat.lt_succ_of_le w4, fun v G3 sm3 rv => ?_⟩
      intro pd hpd
      have sm4 : Same G3 (L2.upd G3 pd (.dK [])) := same_new hpd
      have s14 := (sma.trans sm3).trans sm4
      have hp4 : L2.upd G3 pd (.dK []) pd = some (.dK []) := upd_same
      have n4 : ∀ x o, G3 x = some o → x ≠ pd := fun x o e => ne_of_none e hpd
      generalize L2.upd G3 pd (.dK []) = G4 at sm4 s14 hp4 ⊢
      refine ⟨_, rfl, ?_⟩
      dsimp only [tPairs, tC, tCB, tCons]
      refine proj_read (K := K) (l := D) (xs := xs) (as := bs) (i0 := 1) (fun R hR => ⟨_, rfl, D, rfl, ⟨_, SqL.of (s14 _ _ z3)⟩, hR⟩) (fun _ => rfl) (fun _ => rfl) (s14 _ _ z3) (by omega) (fun i x hi => ?_) (by omega) fun Db Gb hDb smb hGb => ?_
      · obtain ⟨t, a, b, e1, e2, e3, e4⟩ := hx i x hi
        exact ⟨t, a, b, b, e1, s14 _ _ e2, rfl, e4⟩
      refine ⟨Db, bs, rfl, .inl ⟨SqL.of hGb, fun tt htt => ?_⟩⟩
      have ntp : tt ≠ pd := (ne_of_none (smb _ _ hp4) htt).symm
      refine ⟨by rw [upd_ne ntp.symm]; exact smb _ _ hp4, [(Sum.inr ("word" : Str), V.str wd), (Sum.inr ("parts" : Str), V.ref tt)], rfl, (by decide : 2 ≤ 15), ?_⟩
      rw [merge2]
      refine ⟨by show 2 ≤ sizeLine; decide, fun t ht0 => ?_⟩
      have F : Same G3 (L2.upd (L2.upd (L2.upd Gb tt (.tup bs)) pd (.dK [(Sum.inr ("word" : Str), V.str wd), (Sum.inr ("parts" : Str), V.ref tt)])) t (.tup [v, V.ref pd])) := fun x o e => same_new ht0 _ _ (by
        rw [upd_ne (n4 x o e)]
        exact same_new htt _ _ (smb _ _ (sm4 _ _ e)))
      have ePd : L2.upd (L2.upd (L2.upd Gb tt (.tup bs)) pd (.dK [(Sum.inr ("word" : Str), V.str wd), (Sum.inr ("parts" : Str), V.ref tt)])) t (.tup [v, V.ref pd]) pd = some (.dK [(Sum.inr ("word" : Str), V.str wd), (Sum.inr ("parts" : Str), V.ref tt)]) := same_new ht0 _ _ upd_same
      have eTt : L2.upd (L2.upd (L2.upd Gb tt (.tup bs)) pd (.dK [(Sum.inr ("word" : Str), V.str wd), (Sum.inr ("parts" : Str), V.ref tt)])) t (.tup [v, V.ref pd]) tt = some (.tup bs) := same_new ht0 _ _ (by
        rw [upd_ne ntp]
        exact upd_same)
      have eT : L2.upd (L2.upd (L2.upd Gb tt (.tup bs)) pd (.dK [(Sum.inr ("word" : Str), V.str wd), (Sum.inr ("parts" : Str), V.ref tt)])) t (.tup [v, V.ref pd]) t = some (.tup [v, V.ref pd]) := upd_same
      refine (show Q (.ref t) (L2.upd (L2.upd (L2.upd Gb tt (.tup bs)) pd (.dK [(Sum.inr ("word" : Str), V.str wd), (Sum.inr ("parts" : Str), V.ref tt)])) t (.tup [v, V.ref pd])) from ?_)
      generalize L2.upd (L2.upd (L2.upd Gb tt (.tup bs)) pd (.dK [(Sum.inr ("word" : Str), V.str wd), (Sum.inr ("parts" : Str), V.ref tt)])) t (.tup [v, V.ref pd]) = Hf at F ePd eTt eT ⊢
      have FG : Same G Hf := (sma.trans sm3).trans F
      refine hk t v (.ref pd) wd ds Hf (sb2.trans (z1.trans (SB.of FG))) ((PenAt.mono FG z2).le ?_) eT (Rep.mono (Sol.of F) _ _ rv) ⟨pd, tt, bs, rfl, ePd, eTt, PlL.mono (Kpt.of FG) _ _ rb⟩ nic
      have := Nat.mul_le_mul_right (cst k) hm4
      omega
end
end K91
set_option Elab.async false
set_option linter.all false
set_option maxRecDepth 100000
set_option maxHeartbeats 4000000
/-! K91, AJ: _law_tx_thing. -/
namespace K91
open PySem PySem.Spec PyProof.Rows L2
section
variable {w : World} {K : PySem.W.Frag} {mg : Str → Option Value} {base : Heap}
def tIntsL : TA := tCons (tC (.int 0)) (tCons (tC (.int 7)) (tCons (tUn (rU fun i => V.int (-i)) (tC (.int 1))) (tCons (tUn (rU fun i => V.int (-i)) (tC (.int 30))) (tCons (tOp (rI CPow fun i j => V.int (i ^ j.toNat)) (tC (.int 10)) (tC (.int 39))) (tCons (tC (.int 1999)) tNil)))))
def tStrsL : TA := tCons (tC (.str "")) (tCons (tC (.str "all")) (tCons (tC (.str "done")) (tCons (tC (.str "none")) (tCons (tOp (fun x y H Q => ∃ (z : Str) (n : Int), x = .str z ∧ y = .int n ∧ z ∈ ([("z" : Str), ("9" : Str), ("1" : Str)] : List Str) ∧ n ∈ ([30, 40, 41] : List Int) ∧ Q (.str (manyS z n)) H) (tC (.str "z")) (tC (.int 30))) tNil))))
def tLeafs (K : PySem.W.Frag) : TE := tOp (rIxL K) (tLst (tCons (tC .non) (tCons (tCall spPick [] E0 (tCons (tVar 0) (tCons (tLst tIntsL) tNil))) (tCons (tCall spPick [] E0 (tCons (tVar 0) (tCons (tLst tStrsL) tNil))) tNil)))) (tVar 2)
theorem many_z : manyS ("z" : Str) 30 = "zzzzzzzzzzzzzzzzzzzzzzzzzzzzzz" := by decide +kernel
theorem leaf_read {K : PySem.W.Frag} {σ : L2.St} {H : Hp} {p c : Addr} {n i : Nat} {Q : VK} (h0 : σ[0]? = some (some (.ref p))) (h2 : σ[2]? = some (some (.int (i : Int)))) (hi : i < 3) (hP : PenAt p c n H) (hn : n + 2 ≤ 1000000)
    (k : ∀ v d G, SB p H G → PenAt p c (n + 2) G → Rep G d v → Pl G d v → Nice 0 d → Q v G) : tLeafs K σ H Q := by
  obtain ⟨npc, _, _, hp, hc⟩ := hP.ne
  refine ⟨_, h0, 1, rfl, 30, rfl, 10, 39, rfl, rfl, ⟨by decide, by decide, by decide⟩, by show 6 ≤ sizeLine; decide, fun l hl => ⟨p, c, l, n, _, rfl, upd_same, by show 0 < 6; decide, by show 6 < 2 ^ 40; decide, hP.mono (same_new hl), (ne_of_none hp hl).symm, by omega, fun i1 v1 H1 hv1 sb1 hP1 => ?_⟩⟩
  have sbA : SB p H H1 := (SB.of (same_new hl)).trans sb1
  obtain ⟨_, _, _, hp1, hc1⟩ := hP1.ne
  refine ⟨_, h0, ("z" : Str), 30, rfl, rfl, by decide, by decide, by show 5 ≤ sizeLine; decide, fun l2 hl2 => ⟨p, c, l2, n + 1, _, rfl, upd_same, by show 0 < 5; decide, by show 5 < 2 ^ 40; decide, hP1.mono (same_new hl2), (ne_of_none hp1 hl2).symm, by omega, fun i2 v2 H2 hv2 sb2 hP2 => ?_⟩⟩
  have sbB : SB p H H2 := sbA.trans ((SB.of (same_new hl2)).trans sb2)
  have e1 : ∃ z ∈ leafI, v1 = .int z := by
    have q : (leafI.map V.int)[i1]? = some v1 := hv1
    rw [List.getElem?_map] at q
    obtain ⟨z, hz, e⟩ := Option.map_eq_some_iff.mp q
    exact ⟨z, List.mem_of_getElem? hz, e.symm⟩
  have e2 : ∃ z ∈ leafS, v2 = .str z := by
    rw [many_z] at hv2
    have q : (leafS.map V.str)[i2]? = some v2 := hv2
    rw [List.getElem?_map] at q
    obtain ⟨z, hz, e⟩ := Option.map_eq_some_iff.mp q
    exact ⟨z, List.mem_of_getElem? hz, e.symm⟩
  obtain ⟨z1, m1, rfl⟩ := e1
  obtain ⟨z2, m2, rfl⟩ := e2
  refine ⟨by show 3 ≤ sizeLine; decide, fun l3 hl3 => ?_⟩
  have sbC : SB p H (L2.upd H2 l3 (.lst [.non, .int z1, .str z2])) := sbB.trans (SB.of (same_new hl3))
  have hPC := hP2.mono (same_new (o := .lst [.non, .int z1, .str z2]) hl3)
  have hcases : i = 0 ∨ i = 1 ∨ i = 2 := by omega
  rcases hcases with rfl | rfl | rfl
  · exact ⟨_, h2, l3, _, 0, .non, rfl, rfl, SqL.of upd_same, rfl, k .non .non _ sbC hPC rfl rfl nice_non⟩
  · exact ⟨_, h2, l3, _, 1, .int z1, rfl, rfl, SqL.of upd_same, rfl, k (.int z1) (.int z1) _ sbC hPC rfl rfl (nice_int z1 m1)⟩
  · exact ⟨_, h2, l3, _, 2, .str z2, rfl, rfl, SqL.of upd_same, rfl, k (.str z2) (.str z2) _ sbC hPC rfl rfl (nice_str z2 m2)⟩
theorem ok_thing0 (T : Ctx K mg) : FnOk PW w K mg base CX0 12 r_lx_thing.at_ (fdOf K r_lx_thing.at_) P_lx_thing (spThing 0) := by
  have F := T.fun_ r_lx_thing m_lx_thing
  have Fd := T.fun_ r_l_draw m_l_draw
  have Fp := T.fun_ r_l_pick m_l_pick
  have Fw := T.fun_ r_lx_drawn_paper m_lx_drawn_paper
  have bd : Binds K (fdOf K r_l_draw.at_) P_l_draw [] := Fd.binds fun _ _ _ _ _ _ us hl => match us, hl with | [_, _], _ => rfl
  have bp : Binds K (fdOf K r_l_pick.at_) P_l_pick [] := Fp.binds fun _ _ _ _ _ _ us hl => match us, hl with | [_, _], _ => rfl
  have bt : Binds K (fdOf K r_lx_thing.at_) P_lx_thing [] := F.binds fun _ _ _ _ _ _ us hl => match us, hl with | [_, _], _ => rfl
  have bw : Binds K (fdOf K r_lx_drawn_paper.at_) P_lx_drawn_paper [] := Fw.binds fun _ _ _ _ _ _ us hl => match us, hl with | [_, _], _ => rfl
  refine F.ok sc_lx_thing (fun vs H Q E h => ?_) (fun cdv A outer s H vs Q E hr h => ⟨_, pss_cons (ps_asg (pe_ifExp (pt_cmpR op_gt (pv 1) pe_int (nomark _)) (pe_call (ok_draw T) (hr.mono (by omega)) rfl T.glo Fd.kp bd .nil pass0 (pa_cons (pv 0) (pa_cons pe_int pa_nil))) (pe_call (ok_draw T) (hr.mono (by omega)) rfl T.glo Fd.kp bd .nil pass0 (pa_cons (pv 0) (pa_cons pe_int pa_nil)))) (pg_name (i := 2) sc_lx_thing.nd rfl (Or.inl rfl))) (pss_cons (ps_if (pt_cmpR op_lt (pv 2) pe_int (nomark _)) (pss_cons (ps_asg (pe_ix ix_list (pe_lst (pa_cons (pe_non) (pa_cons (pe_call (ok_pick T) (hr.mono (by omega)) rfl T.glo Fp.kp bp .nil pass0 (pa_cons (pv 0) (pa_cons (pe_lst (pa_cons (pe_int) (pa_cons (pe_int) (pa_cons (pe_un un_neg pe_int) (pa_cons (pe_un un_neg pe_int) (pa_cons (pe_op op_pow pe_int pe_int) (pa_cons (pe_int) (pa_nil)))))))) (pa_nil)))) (pa_cons (pe_call (ok_pick T) (hr.mono (by omega)) rfl T.glo Fp.kp bp .nil pass0 (pa_cons (pv 0) (pa_cons (pe_lst (pa_cons (pe_str) (pa_cons (pe_str) (pa_cons (pe_str) (pa_cons (pe_str) (pa_cons (pe_op op_mulS pe_str pe_int) (pa_nil))))))) (pa_nil)))) (pa_nil))))) (pv 2) (fun _ _ => rfl)) (pg_name (i := 3) sc_lx_thing.nd rfl (Or.inl rfl))) (pss_one (ps_ret (pe_tup (pa_cons (pv 3) (pa_cons (pv 3) pa_nil)))))) pss_nil) pss_never), ?_⟩)
  · obtain ⟨p, c, n, rfl, _⟩ := h
    rfl
  · obtain ⟨p, c, n, rfl, hP, hn, hk⟩ := h
    refine ⟨_, rfl, 0, 0, rfl, rfl, _, rfl, iteF' (by decide) ?_⟩
    refine ⟨_, rfl, p, c, n, 3, rfl, by decide, by decide, hP, by omega, fun i H1 hi sb hP1 => ?_⟩
    refine ⟨_, rfl, (i : Int), 3, rfl, rfl, _, rfl, iteT' hi ?_⟩
    have hn : n + 3 ≤ 1000000 := hn
    refine leaf_read (K := K) (p := p) (c := c) (n := n + 1) (i := i) rfl rfl (by omega) hP1 (by omega) fun v d G sbG hPG hr1 hp1 hni => ?_
    refine ⟨_, rfl, _, rfl, by show 2 ≤ sizeLine; decide, fun t ht => ?_⟩
    have sm := same_new (o := .tup [v, v]) ht
    exact hk t v v d _ (sb.trans (sbG.trans (SB.of sm))) (hPG.mono sm) upd_same (Rep.mono (Sol.of sm) _ _ hr1) (Pl.mono (Kpt.of sm) _ _ hp1) hni
theorem ok_thing1 (T : Ctx K mg) (k : Nat) (hk2 : k ≤ 3) (ht : FnOk PW w K mg base CX0 (2 * k + 12) r_lx_thing.at_ (fdOf K r_lx_thing.at_) P_lx_thing (spThing k)) : FnOk PW w K mg base CX0 (2 * k + 14) r_lx_thing.at_ (fdOf K r_lx_thing.at_) P_lx_thing (spThing (k + 1)) := by
  have F := T.fun_ r_lx_thing m_lx_thing
  have Fd := T.fun_ r_l_draw m_l_draw
  have Fp := T.fun_ r_l_pick m_l_pick
  have Fw := T.fun_ r_lx_drawn_paper m_lx_drawn_paper
  have bd : Binds K (fdOf K r_l_draw.at_) P_l_draw [] := Fd.binds fun _ _ _ _ _ _ us hl => match us, hl with | [_, _], _ => rfl
  have bp : Binds K (fdOf K r_l_pick.at_) P_l_pick [] := Fp.binds fun _ _ _ _ _ _ us hl => match us, hl with | [_, _], _ => rfl
  have bt : Binds K (fdOf K r_lx_thing.at_) P_lx_thing [] := F.binds fun _ _ _ _ _ _ us hl => match us, hl with | [_, _], _ => rfl
  have bw : Binds K (fdOf K r_lx_drawn_paper.at_) P_lx_drawn_paper [] := Fw.binds fun _ _ _ _ _ _ us hl => match us, hl with | [_, _], _ => rfl
  refine F.ok sc_lx_thing (fun vs H Q E h => ?_) (fun cdv A outer s H vs Q E hr h => ⟨_, pss_cons (ps_asg (pe_ifExp (pt_cmpR op_gt (pv 1) pe_int (nomark _)) (pe_call (ok_draw T) (hr.mono (by omega)) rfl T.glo Fd.kp bd .nil pass0 (pa_cons (pv 0) (pa_cons pe_int pa_nil))) (pe_call (ok_draw T) (hr.mono (by omega)) rfl T.glo Fd.kp bd .nil pass0 (pa_cons (pv 0) (pa_cons pe_int pa_nil)))) (pg_name (i := 2) sc_lx_thing.nd rfl (Or.inl rfl))) (pss_cons (ps_if (pt_cmpR op_lt (pv 2) pe_int (nomark _)) (pss_cons (ps_asg (pe_ix ix_list (pe_lst (pa_cons (pe_non) (pa_cons (pe_call (ok_pick T) (hr.mono (by omega)) rfl T.glo Fp.kp bp .nil pass0 (pa_cons (pv 0) (pa_cons (pe_lst (pa_cons (pe_int) (pa_cons (pe_int) (pa_cons (pe_un un_neg pe_int) (pa_cons (pe_un un_neg pe_int) (pa_cons (pe_op op_pow pe_int pe_int) (pa_cons (pe_int) (pa_nil)))))))) (pa_nil)))) (pa_cons (pe_call (ok_pick T) (hr.mono (by omega)) rfl T.glo Fp.kp bp .nil pass0 (pa_cons (pv 0) (pa_cons (pe_lst (pa_cons (pe_str) (pa_cons (pe_str) (pa_cons (pe_str) (pa_cons (pe_str) (pa_cons (pe_op op_mulS pe_str pe_int) (pa_nil))))))) (pa_nil)))) (pa_nil))))) (pv 2) (fun _ _ => rfl)) (pg_name (i := 3) sc_lx_thing.nd rfl (Or.inl rfl))) (pss_one (ps_ret (pe_tup (pa_cons (pv 3) (pa_cons (pv 3) pa_nil)))))) pss_nil) (pss_cons (ps_if (pt_cmpR op_lt (pv 2) pe_int (nomark _)) (pss_cons (ps_setLc (i := 4) (own := [("turn", 5)]) (g := gName 5) (tt := tYes) rfl sc_lx_thing.nd rfl rfl rfl (pi_range1 rfl T.free (pa_cons (pe_call (ok_draw T) (hr.mono (by omega)) rfl T.glo Fd.kp bd .nil pass0 (pa_cons (pv 0) (pa_cons pe_int pa_nil))) pa_nil)) (blkOk_by (N := N_lx_thing) (sc := defScope s_lx_thing) (by decide +kernel)) (fun _ _ _ _ _ => pg_name (i := 5) sc_lx_thing.nd rfl (Or.inl rfl)) (fun _ _ _ _ _ => pts_nil) (fun _ _ _ _ _ => pe_call ht (hr.mono (by omega)) rfl T.glo F.kp bt .nil pass0 (pa_cons (pv 0) (pa_cons (pe_op op_sub (pv 1) pe_int) pa_nil)))) (pss_one (ps_ret (pe_tup (pa_cons (pe_callTy call_tuple_of rfl T.free (by decide +kernel) (pa_cons (pe_lc (own := [("one", 6)]) (g := gName 6) (tt := tYes) rfl sc_lx_thing.nd (pi_list (pv 4)) (blkOk_by (N := N_lx_thing) (sc := defScope s_lx_thing) (by decide +kernel)) (fun _ _ _ _ _ => pg_name (i := 6) sc_lx_thing.nd rfl (Or.inl rfl)) (fun _ _ _ _ _ => pts_nil) (fun _ _ _ _ _ => pe_ix (r := rIxT K) ix_tup (pv 6) pe_int (fun _ _ => rfl))) pa_nil)) (pa_cons (pe_callTy call_tuple_of rfl T.free (by decide +kernel) (pa_cons (pe_lc (own := [("one", 6)]) (g := gName 6) (tt := tYes) rfl sc_lx_thing.nd (pi_list (pv 4)) (blkOk_by (N := N_lx_thing) (sc := defScope s_lx_thing) (by decide +kernel)) (fun _ _ _ _ _ => pg_name (i := 6) sc_lx_thing.nd rfl (Or.inl rfl)) (fun _ _ _ _ _ => pts_nil) (fun _ _ _ _ _ => pe_ix (r := rIxT K) ix_tup (pv 6) pe_int (fun _ _ => rfl))) pa_nil)) pa_nil)))))) pss_nil) (pss_one (ps_ret (pe_call (ok_drawn T k hk2 ht) (hr.mono (by omega)) rfl T.glo Fw.kp bw .nil pass0 (pa_cons (pv 0) (pa_cons (pv 1) pa_nil))))))), ?_⟩)
  · obtain ⟨p, c, n, rfl, _⟩ := h
    rfl
  · obtain ⟨p, c, n, rfl, hP, hn, hk⟩ := h
    refine ⟨_, rfl, ((k + 1 : Nat) : Int), 0, rfl, rfl, _, rfl, iteT' (by omega) ?_⟩
    have hn : n + (3 + 4 * cst k) ≤ 1000000 := hn
    refine ⟨_, rfl, p, c, n, 9, rfl, by decide, by decide, hP, by omega, fun i H1 hi sb hP1 => ?_⟩
    refine ⟨_, rfl, (i : Int), 3, rfl, rfl, _, rfl, ?_⟩
    by_cases h3 : (i : Int) < 3
    · refine iteT' h3 ?_
      refine leaf_read (K := K) (p := p) (c := c) (n := n + 1) (i := i) rfl rfl (by omega) hP1 (by omega) fun v d G sbG hPG hr1 hp1 hni => ?_
      refine ⟨_, rfl, _, rfl, by show 2 ≤ sizeLine; decide, fun t ht => ?_⟩
      have sm := same_new (o := .tup [v, v]) ht
      exact hk t v v d _ (sb.trans (sbG.trans (SB.of sm))) ((hPG.mono sm).le (by show n + 1 + 2 ≤ n + (3 + 4 * cst k); omega)) upd_same (Rep.mono (Sol.of sm) _ _ hr1) (Pl.mono (Kpt.of sm) _ _ hp1) (hni.of0 _)
    refine iteF' h3 ?_
    refine ⟨_, rfl, (i : Int), 7, rfl, rfl, _, rfl, ?_⟩
    by_cases h7 : (i : Int) < 7
    · refine iteT' h7 ?_
      refine ⟨_, rfl, p, c, n + 1, 4, rfl, by decide, by decide, hP1, by omega, fun m G2 hm sb2' hP2 => ?_⟩
      have sb2 := sb.trans sb2'
      refine ⟨(m : Int), rfl, by omega, by omega, fun D hD => ?_⟩
      obtain ⟨_, _, _, hp2, hc2'⟩ := hP2.ne
      have nDp : D ≠ p := (ne_of_none hp2 hD).symm
      have nDc : D ≠ c := (ne_of_none hc2' hD).symm
      refine lc_range (lo := 0) (n := m) (fun i G => SB p G2 G ∧ PenAt p c (n + 2 + i * cst k) G ∧ ∃ ds xs, G D = some (.lst xs) ∧ ds.length = i ∧ NiceL k ds ∧ RPr G ds xs) ⟨SB.of (same_new hD), by rw [Nat.zero_mul]; exact PenAt.mono (same_new hD) hP2, [], [], upd_same, rfl, fun d hd => absurd hd List.not_mem_nil, rfl⟩
        (fun i G hi z => ⟨rfl, lcTurn ?_⟩) (fun G z => ?_)
      · obtain ⟨z1, z2, ds, xs, z3, z4, z5, z6⟩ := z
        have hbud : i * cst k + cst k ≤ 4 * cst k := by
          rw [← Nat.succ_mul]
          exact Nat.mul_le_mul_right _ (by omega)
        refine ⟨_, rfl, _, rfl, _, 1, rfl, rfl, p, c, n + 2 + i * cst k, by show [V.ref p, V.int (((k + 1 : Nat) : Int) - 1)] = _; rw [show ((k + 1 : Nat) : Int) - 1 = (k : Int) by omega], z2, by omega, fun t a b d H' sb' hp' htt hra hpl hni => ?_⟩
        obtain ⟨_, xpG, _, hpG, _⟩ := z2.ne
        have hD' := sb' _ _ nDp z3
        have lx := RPr.len z6
        refine ⟨xs, hD', Nat.lt_of_le_of_lt (show xs.length ≤ 100 by omega) (by decide), fun x o nx e => ?_, ?_, ds ++ [d], xs ++ [.ref t], upd_same, by rw [List.length_append, z4]; rfl, fun e he => ?_, ?_⟩
        · rw [upd_ne (ne_of_none e hD)]
          exact sb' _ _ nx (z1 _ _ nx e)
        · rw [Nat.succ_mul, ← Nat.add_assoc]
          exact PenAt.upd nDp nDc hp'
        · rcases List.mem_append.mp he with he | he
          · exact z5 e he
          · rw [List.mem_singleton.mp he]
            exact hni
        · have kp := Kpt.mut (ys := xs ++ [V.ref t]) hD'
          exact RPr.app (RPr.mono kp (RPr.mono (sb'.kpt hpG) z6)) ⟨t, a, b, [], rfl, kp _ _ htt (fun _ z => by cases z), Rep.mono kp.sol _ _ hra, Pl.mono kp _ _ hpl, rfl⟩
      · obtain ⟨z1, z2, ds, xs, z3, z4, z5, z6⟩ := z
        obtain ⟨as, bs, la, lb, ra, rb, hx⟩ := z6.parts
        have lx := RPr.len z6
        have nic : Nice (k + 1) (.tup ds) := nice_tup z5 (by omega)
        dsimp only [gName, tRet, tTup, tCons, tCB]
        refine proj_read (K := K) (j := 6) (l := D) (xs := xs) (as := as) (i0 := 0) (fun R hR => ⟨_, rfl, D, rfl, ⟨_, SqL.of z3⟩, hR⟩) (fun _ => rfl) (fun _ => rfl) z3 (by omega) (fun i x hi => ?_) (by omega) fun Da Ga hDa sma hGa => ?_
        · obtain ⟨t, a, b, e1, e2, e3, e4⟩ := hx i x hi
          exact ⟨t, a, b, a, e1, e2, rfl, e3⟩
        refine ⟨Da, as, rfl, .inl ⟨SqL.of hGa, fun ta hta => ?_⟩⟩
        have s3 : Same G (L2.upd Ga ta (.tup as)) := sma.trans (same_new hta)
        have e3 : L2.upd Ga ta (.tup as) ta = some (.tup as) := upd_same
        dsimp only [tNil]
        generalize L2.upd Ga ta (.tup as) = G3 at s3 e3 ⊢
        refine proj_read (K := K) (j := 6) (l := D) (xs := xs) (as := bs) (i0 := 1) (fun R hR => ⟨_, rfl, D, rfl, ⟨_, SqL.of (s3 _ _ z3)⟩, hR⟩) (fun _ => rfl) (fun _ => rfl) (s3 _ _ z3) (by omega) (fun i x hi => ?_) (by omega) fun Db Gb hDb smb hGb => ?_
        · obtain ⟨t, a, b, e1, e2, e3, e4⟩ := hx i x hi
          exact ⟨t, a, b, b, e1, s3 _ _ e2, rfl, e4⟩
        refine ⟨Db, bs, rfl, .inl ⟨SqL.of hGb, fun tb htb => ⟨by show 2 ≤ sizeLine; decide, fun t ht0 => ?_⟩⟩⟩
        have F : Same G3 (L2.upd (L2.upd Gb tb (.tup bs)) t (.tup [V.ref ta, V.ref tb])) := smb.trans ((same_new htb).trans (same_new ht0))
        have FG := s3.trans F
        have eTb : L2.upd (L2.upd Gb tb (.tup bs)) t (.tup [V.ref ta, V.ref tb]) tb = some (.tup bs) := same_new ht0 _ _ upd_same
        refine hk t (.ref ta) (.ref tb) (.tup ds) _ (sb2.trans (z1.trans (SB.of FG))) ((PenAt.mono FG z2).le ?_) upd_same ⟨ta, as, rfl, F _ _ e3, RepL.mono (Sol.of FG) _ _ ra⟩ ⟨tb, bs, rfl, eTb, PlL.mono (Kpt.of FG) _ _ rb⟩ nic
        have := Nat.mul_le_mul_right (cst k) (show m ≤ 4 by omega)
        show n + 2 + m * cst k ≤ n + (3 + 4 * cst k)
        omega
    refine iteF' h7 ?_
    refine ⟨_, rfl, _, rfl, p, c, n + 1, rfl, hP1, by omega, fun t a b wd ds H' sb' hP' ht hra hpl hni => ?_⟩
    exact hk t a b (.pap wd ds) H' (sb.trans sb') (hP'.le (by show n + 1 + 1 + 4 * cst k ≤ n + (3 + 4 * cst k); omega)) ht hra hpl hni
/-- what the law draws -/
theorem ok_drawn3 (T : Ctx K mg) : FnOk PW w K mg base CX0 17 r_lx_drawn_paper.at_ (fdOf K r_lx_drawn_paper.at_) P_lx_drawn_paper (spDrawn 2) := ok_drawn T 2 (by decide) (ok_thing1 T 1 (by decide) (ok_thing1 T 0 (by decide) (ok_thing0 T)))
end
end K91
set_option Elab.async false
set_option linter.all false
set_option maxRecDepth 100000
set_option maxHeartbeats 4000000
/-! K91, AK: _law_bent_words. -/
namespace K91
open PySem PySem.Spec PyProof.Rows L2
theorem cut_to {α : Type} (f : α → V) (ws : List α) (k : Nat) : cutV (ws.map f) none (some (k : Int)) = (ws.take k).map f := by
  unfold cutV
  rw [HT.sIx_none, HT.sIx_nat, List.drop_zero, Nat.sub_zero, List.length_map, ← List.map_take]
  congr 1
  rw [List.take_eq_take_iff]
  omega
theorem cut_from {α : Type} (f : α → V) (ws : List α) (k : Nat) : cutV (ws.map f) (some (k : Int)) none = (ws.drop k).map f := by
  unfold cutV
  rw [HT.sIx_none, HT.sIx_nat, List.length_map, ← List.map_drop, ← List.map_take]
  congr 1
  rw [List.take_of_length_le (by rw [List.length_drop]; exact Nat.le_refl _)]
  by_cases h : k ≤ ws.length
  · rw [Nat.min_eq_left h]
  · rw [Nat.min_eq_right (by omega), List.drop_length, List.drop_of_length_le (by omega)]
def oddL : List Str := ["(", ")", "none", "=", "=x", "=X", "5", "-0", "01", "", "plan", "spoil", "fits", "plans", "-", "+1", manyS "9" 40, manyS "9" 41, ("-" : Str) ++ manyS "1" 40, "True"]
def spBent : Sp := fun vs H Q _ => ∃ (p c l : Addr) (n : Nat) (ws : List Str), vs = [.ref p, .ref l] ∧ H l = some (.lst (ws.map V.str)) ∧ l ≠ p ∧ 0 < ws.length ∧ ws.length ≤ 1000 ∧ PenAt p c n H ∧ n + 3 ≤ 1000000 ∧
  ∀ (q : Addr) (us : List Str) H', H q = none → SB p H H' → PenAt p c (n + 3) H' → H' q = some (.lst (us.map V.str)) → us.length ≤ ws.length + 1 → (∀ x ∈ us, x ∈ ws ∨ x ∈ oddL) → Q (.ref q) H'
theorem eqI {n : Nat} {k : Int} {A B : Prop} (ht : (n : Int) = k → A) (hf : (n : Int) ≠ k → B) : if decide (V.int (n : Int) = V.int k) = true then A else B := by
  by_cases h : (n : Int) = k
  · rw [decide_eq_true (congrArg V.int h)]
    exact iteT (ht h)
  · rw [decide_eq_false (fun z => h (by injection z))]
    exact iteF (hf h)
section
variable {w : World} {K : PySem.W.Frag} {mg : Str → Option Value} {base : Heap}
theorem ok_bent (T : Ctx K mg) : FnOk PW w K mg base CX0 3 r_l_bent_words.at_ (fdOf K r_l_bent_words.at_) P_l_bent_words spBent := by
  have F := T.fun_ r_l_bent_words m_l_bent_words
  have Fd := T.fun_ r_l_draw m_l_draw
  have Fp := T.fun_ r_l_pick m_l_pick
  have bd : Binds K (fdOf K r_l_draw.at_) P_l_draw [] := Fd.binds fun _ _ _ _ _ _ us hl => match us, hl with | [_, _], _ => rfl
  have bp : Binds K (fdOf K r_l_pick.at_) P_l_pick [] := Fp.binds fun _ _ _ _ _ _ us hl => match us, hl with | [_, _], _ => rfl
  refine F.ok sc_l_bent_words (fun vs H Q E h => ?_) (fun cdv A outer s H vs Q E hr h => ⟨_, pss_cons (ps_par rfl sc_l_bent_words.nd (i := 2) (j := 3) rfl rfl (by decide) rfl rfl (pa_cons (pe_call (ok_draw T) (hr.mono (by decide)) rfl T.glo Fd.kp bd .nil pass0 (pa_cons (pv 0) (pa_cons (pe_callB call_len rfl T.free (by decide +kernel) (pa_cons (pv 1) pa_nil)) pa_nil))) (pa_cons (pe_call (ok_draw T) (hr.mono (by decide)) rfl T.glo Fd.kp bd .nil pass0 (pa_cons (pv 0) (pa_cons (pe_int) pa_nil))) pa_nil)) rfl) (pss_cons (ps_asg (pe_call (ok_pick T) (hr.mono (by decide)) rfl T.glo Fp.kp bp .nil pass0 (pa_cons (pv 0) (pa_cons (pe_lst (pa_cons (pe_str) (pa_cons (pe_str) (pa_cons (pe_str) (pa_cons (pe_str) (pa_cons (pe_str) (pa_cons (pe_str) (pa_cons (pe_str) (pa_cons (pe_str) (pa_cons (pe_str) (pa_cons (pe_str) (pa_cons (pe_str) (pa_cons (pe_str) (pa_cons (pe_str) (pa_cons (pe_str) (pa_cons (pe_str) (pa_cons (pe_str) (pa_cons (pe_op op_mulS pe_str pe_int) (pa_cons (pe_op op_mulS pe_str pe_int) (pa_cons (pe_op op_add_str pe_str (pe_op op_mulS pe_str pe_int)) (pa_cons (pe_str) (pa_nil)))))))))))))))))))))) (pa_nil)))) (pg_name (i := 4) sc_l_bent_words.nd rfl (Or.inl rfl))) (pss_cons (ps_if (pt_cmpR op_eq (pv 3) pe_int (nomark _)) (pss_one (ps_ret (pe_op op_cat (pe_slice sl_list (pv 1) po_none (po_some (pv 2))) (pe_slice sl_list (pv 1) (po_some (pe_op op_add (pv 2) pe_int)) po_none)))) pss_nil) (pss_cons (ps_if (pt_cmpR op_eq (pv 3) pe_int (nomark _)) (pss_one (ps_ret (pe_slice sl_list (pv 1) po_none (po_some (pv 2))))) pss_nil) (pss_one (ps_ret (pe_ifExp (pt_cmpR op_lt (pv 3) pe_int (nomark _)) (pe_op op_cat (pe_op op_cat (pe_slice sl_list (pv 1) po_none (po_some (pv 2))) (pe_lst (pa_cons (pv 4) pa_nil))) (pe_slice sl_list (pv 1) (po_some (pe_op op_add (pv 2) (pe_callTy call_int1 rfl T.free (by decide +kernel) (pa_cons (pe_cmpR op_eq (pv 3) pe_int (nomark _)) pa_nil)))) po_none)) (pe_op op_cat (pv 1) (pe_lst (pa_cons (pv 4) pa_nil))))))))), ?_⟩)
  · obtain ⟨p, c, l, n, ws, rfl, _⟩ := h
    rfl
  · obtain ⟨p, c, l, n, ws, rfl, hl, nlp, h0, h1, hP, hn, k⟩ := h
    have hlen : (ws.map V.str).length = ws.length := List.length_map _
    refine ⟨_, rfl, _, rfl, .ref l, (ws.map V.str).length, rfl, .inl ⟨_, SqL.of hl, rfl⟩, p, c, n, (((ws.map V.str).length : Nat) : Int), rfl, by rw [hlen]; omega, by rw [hlen]; omega, hP, by omega, fun at_ H1 hat sb1 hP1 => ?_⟩
    rw [hlen] at hat
    refine ⟨_, rfl, p, c, n + 1, 5, rfl, by decide, by decide, hP1, by omega, fun way H2 hway sb2 hP2 => ?_⟩
    have sbB := sb1.trans sb2
    obtain ⟨npc, _, _, hp2, hc2⟩ := hP2.ne
    refine ⟨_, _, rfl, ?_⟩
    refine ⟨_, rfl, ("9" : Str), 40, rfl, rfl, by decide, by decide, ("9" : Str), 41, rfl, rfl, by decide, by decide, ("1" : Str), 40, rfl, rfl, by decide, by decide, _, _, rfl, rfl, by decide +kernel, by show 20 ≤ sizeLine; decide, fun lo hlo => ⟨p, c, lo, n + 2, _, rfl, upd_same, by show 0 < 20; decide, by show 20 < 2 ^ 40; decide, hP2.mono (same_new hlo), (ne_of_none hp2 hlo).symm, by omega, fun i v H3 hv sb3 hP3 => ?_⟩⟩
    have e1 : ∃ z ∈ oddL, v = .str z := by
      have q : (oddL.map V.str)[i]? = some v := hv
      rw [List.getElem?_map] at q
      obtain ⟨z, hz, e⟩ := Option.map_eq_some_iff.mp q
      exact ⟨z, List.mem_of_getElem? hz, e.symm⟩
    obtain ⟨o, ho, rfl⟩ := e1
    have sbC : SB p H H3 := sbB.trans ((SB.of (same_new hlo)).trans sb3)
    have hl3 : H3 l = some (.lst (ws.map V.str)) := sbC _ _ nlp hl
    obtain ⟨_, _, _, hp3, _⟩ := hP3.ne
    have fin : ∀ (us : List Str) (G : Hp) (q : Addr), Same H3 G → G q = none → us.length ≤ ws.length + 1 → (∀ x ∈ us, x ∈ ws ∨ x ∈ oddL) → Q (.ref q) (L2.upd G q (.lst (us.map V.str))) := fun us G q sm hq hu hm => by
      have s2 := sm.trans (same_new (o := .lst (us.map V.str)) hq)
      refine k q us _ ?_ (sbC.trans (SB.of s2)) (hP3.mono s2) upd_same hu hm
      cases e : H q with
      | none => rfl
      | some o =>
        by_cases hqp : q = p
        · rw [hqp, sm _ _ hp3] at hq
          cases hq
        · rw [sm _ _ (sbC _ _ hqp e)] at hq
          cases hq
    have mt : ∀ k : Nat, ∀ x ∈ ws.take k, x ∈ ws ∨ x ∈ oddL := fun k x hx => .inl (List.mem_of_mem_take hx)
    have md : ∀ k : Nat, ∀ x ∈ ws.drop k, x ∈ ws ∨ x ∈ oddL := fun k x hx => .inl (List.mem_of_mem_drop hx)
    have hat2 : at_ < ws.length := by omega
    clear hlo hv hp2 hc2
    refine ⟨_, rfl, rfl, _, rfl, eqI (fun e => ?_) (fun e => ?_)⟩
    · refine ⟨_, rfl, _, rfl, (at_ : Int), rfl, l, _, rfl, SqL.of hl3, fun q1 hq1 => ?_⟩
      rw [cut_to]
      refine ⟨_, rfl, _, rfl, (at_ : Int), 1, rfl, rfl, ((at_ + 1 : Nat) : Int), rfl, l, _, rfl, SqL.of (same_new hq1 _ _ hl3), fun q2 hq2 => ?_⟩
      rw [cut_from]
      refine ⟨q1, q2, _, _, rfl, rfl, same_new hq2 _ _ upd_same, upd_same, ?_, fun q hq => ?_⟩
      · rw [List.length_map, List.length_map, List.length_take, List.length_drop]
        exact Nat.le_trans (show _ ≤ 3000 by omega) (by decide)
      · rw [← List.map_append]
        refine fin _ _ q ((same_new hq1).trans (same_new hq2)) hq ?_ (fun x hx => ?_)
        · rw [List.length_append, List.length_take, List.length_drop]
          omega
        · rcases List.mem_append.mp hx with hx | hx
          · exact mt _ x hx
          · exact md _ x hx
    refine ⟨_, rfl, rfl, _, rfl, eqI (fun e4 => ?_) (fun e4 => ?_)⟩
    · refine ⟨_, rfl, _, rfl, (at_ : Int), rfl, l, _, rfl, SqL.of hl3, fun q1 hq1 => ?_⟩
      rw [cut_to]
      refine fin _ _ q1 (Same.refl _) hq1 ?_ (mt _)
      rw [List.length_take]
      omega
    refine ⟨_, rfl, (way : Int), 3, rfl, rfl, _, rfl, ?_⟩
    by_cases h3 : (way : Int) < 3
    · refine iteT' h3 ?_
      refine ⟨_, rfl, _, rfl, (at_ : Int), rfl, l, _, rfl, SqL.of hl3, fun q1 hq1 => ?_⟩
      rw [cut_to]
      refine ⟨_, rfl, by show 1 ≤ sizeLine; decide, fun q2 hq2 => ⟨q1, q2, _, _, rfl, rfl, same_new hq2 _ _ upd_same, upd_same, ?_, fun q3 hq3 => ?_⟩⟩
      · rw [List.length_map, List.length_take]
        exact Nat.le_trans (show _ ≤ 3000 by show min at_ ws.length + 1 ≤ 3000; omega) (by decide)
      have s3 := ((same_new (o := .lst ((ws.take at_).map V.str)) hq1).trans (same_new (o := .lst [V.str o]) hq2)).trans (same_new (o := .lst ((ws.take at_).map V.str ++ [V.str o])) hq3)
      have hl6 := s3 _ _ hl3
      have hq6 : L2.upd (L2.upd (L2.upd H3 q1 (.lst ((ws.take at_).map V.str))) q2 (.lst [V.str o])) q3 (.lst ((ws.take at_).map V.str ++ [V.str o])) q3 = some (.lst ((ws.take at_).map V.str ++ [V.str o])) := upd_same
      refine (show tSl (rSlL K) (tVar 1) (fun σ H Q => tPart (tOp (rI0 fun i j => V.int (i + j)) (tVar 2) (tCB (fun xs H Q => (∃ i, xs = [V.int i] ∧ Q (V.int i) H) ∨ ∃ k, xs = [V.bl k] ∧ Q (V.int (if k = true then 1 else 0)) H) (tCons (tOp rEq (tVar 3) (tC (.int 1))) tNil))) σ H Q) _ _ (L2.upd (L2.upd (L2.upd H3 q1 (.lst ((ws.take at_).map V.str))) q2 (.lst [V.str o])) q3 (.lst ((ws.take at_).map V.str ++ [V.str o]))) _ from ?_)
      generalize L2.upd (L2.upd (L2.upd H3 q1 (.lst ((ws.take at_).map V.str))) q2 (.lst [V.str o])) q3 (.lst ((ws.take at_).map V.str ++ [V.str o])) = G6 at s3 hl6 hq6 ⊢
      have hj : ∃ j : Nat, j ≤ 1 ∧ (if decide (V.int (way : Int) = V.int 1) = true then (1 : Int) else 0) = (j : Int) := by
        by_cases e : decide (V.int (way : Int) = V.int 1) = true
        · exact ⟨1, Nat.le_refl _, by rw [if_pos e]; rfl⟩
        · exact ⟨0, Nat.zero_le _, by rw [if_neg e]; rfl⟩
      obtain ⟨j, hj1, hj2⟩ := hj
      refine ⟨_, rfl, _, rfl, _, rfl, rfl, .inr ⟨_, rfl, (at_ : Int), (j : Int), rfl, congrArg V.int hj2, ((at_ + j : Nat) : Int), by show V.int ((at_ : Int) + (j : Int)) = _; rw [← Int.natCast_add], l, _, rfl, SqL.of hl6, fun q4 hq4 => ?_⟩⟩
      rw [cut_from]
      refine ⟨q3, q4, _, _, rfl, rfl, same_new hq4 _ _ hq6, upd_same, ?_, fun q hq => ?_⟩
      · rw [List.length_append, List.length_map, List.length_map, List.length_take, List.length_drop]
        exact Nat.le_trans (show _ ≤ 3000 by show min at_ ws.length + 1 + (ws.length - (at_ + j)) ≤ 3000; omega) (by decide)
      · refine (show Q (.ref q) (L2.upd _ q (.lst ((ws.take at_).map V.str ++ [o].map V.str ++ (ws.drop (at_ + j)).map V.str))) from ?_)
        rw [← List.map_append, ← List.map_append]
        refine fin _ _ q (s3.trans (same_new hq4)) hq ?_ (fun x hx => ?_)
        · rw [List.length_append, List.length_append, List.length_take, List.length_drop]
          show min at_ ws.length + 1 + _ ≤ _
          omega
        · rcases List.mem_append.mp hx with hx | hx
          · rcases List.mem_append.mp hx with hx | hx
            · exact mt _ x hx
            · rw [List.mem_singleton.mp hx]
              exact .inr ho
          · exact md _ x hx
    · refine iteF' h3 ?_
      refine ⟨_, rfl, _, rfl, by show 1 ≤ sizeLine; decide, fun q2 hq2 => ⟨l, q2, _, _, rfl, rfl, same_new hq2 _ _ hl3, upd_same, ?_, fun q hq => ?_⟩⟩
      · rw [hlen]
        exact Nat.le_trans (show _ ≤ 3000 by show ws.length + 1 ≤ 3000; omega) (by decide)
      · refine (show Q (.ref q) (L2.upd _ q (.lst (ws.map V.str ++ [o].map V.str))) from ?_)
        rw [← List.map_append]
        refine fin _ _ q (same_new hq2) hq ?_ (fun x hx => ?_)
        · rw [List.length_append]
          exact Nat.le_refl _
        · rcases List.mem_append.mp hx with hx | hx
          · exact .inl hx
          · rw [List.mem_singleton.mp hx]
            exact .inr ho
end
end K91
set_option Elab.async false
set_option linter.all false
set_option maxRecDepth 100000
set_option maxHeartbeats 4000000
/-! K91, AL: _law_tx_is_leaf. -/
namespace K91
open PySem PySem.Spec PyProof.Rows L2 TL
/-- the list of the signs that are so -/
theorem read_those {K : PySem.W.Frag} {j : Nat} {p : Nat → Bool} {tw : TE} {tt : TT} {x : Str} {σ : L2.St} {H : Hp} {Q : VK} (hw : ∀ R : V → Hp → Prop, R (.str x) H → tw σ H R) (hwp : ∀ v, wipe ((wipe σ [j]).set j (some v)) [j] = wipe σ [j]) (hgt : ∀ v, ((wipe σ [j]).set j (some v))[j]? = some (some v))
    (htt : ∀ c H' (R : Bool → Hp → Prop), R (p c) H' → tt ((wipe σ [j]).set j (some (.str ⟨#[c]⟩))) H' R) (hz : x.length ≤ 100000) (k : ∀ D H', H D = none → Same H H' → H' D = some (.lst ((x.cps.toList.filter p).map fun c => V.str ⟨#[c]⟩)) → Q (.ref D) H') :
    tLc (iStr tw) (gName j) tt (tVar j) [j] σ H Q := by
  have hx : x.cps.size ≤ 100000 := hz
  refine hw _ ⟨x, rfl, fun D hD => ?_⟩
  refine lc_str (fun i H' => H' D = some (.lst (((x.cps.toList.take i).filter p).map fun c => V.str ⟨#[c]⟩)) ∧ Same H H') ⟨upd_same, fun b o e => by rw [upd_ne (ne_of_none e hD)]; exact e⟩ (fun i c H' hc ⟨hDb, sm⟩ => ?_) (fun H' ⟨hDb, sm⟩ => ?_)
  · have hc2 : x.cps.toList[i]? = some c := by rw [← hc, Array.getElem?_toList]
    refine ⟨hwp _, htt c H' _ ?_⟩
    have ht : x.cps.toList.take (i + 1) = x.cps.toList.take i ++ [c] := take_app hc2
    rw [ht]
    cases hp : p c with
    | true =>
      refine iteT ⟨_, hgt _, _, hDb, ?_, ?_, ?_⟩
      · rw [List.length_map]
        refine Nat.lt_of_le_of_lt (List.length_filter_le _ _) (Nat.lt_of_le_of_lt (List.length_take_le' _ _) ?_)
        rw [Array.length_toList]
        exact Nat.lt_of_le_of_lt hx (by decide)
      · rw [upd_same, List.filter_append, List.map_append]
        simp [hp]
      · intro b o e
        rw [upd_ne (ne_of_none e hD)]
        exact sm _ _ e
    | false =>
      refine iteF ⟨?_, sm⟩
      rw [hDb, List.filter_append]
      simp [hp]
  · refine k D H' hD sm ?_
    rw [hDb, List.take_of_length_le (by rw [Array.length_toList]; exact Nat.le_refl _)]
theorem no_bad {α : Type} (q : α → Bool) (f : α → V) (l : List α) : ((l.filter fun c => !q c).map f).isEmpty = l.all q := by
  induction l with
  | nil => rfl
  | cons a l ih =>
    rw [List.filter_cons, List.all_cons]
    cases h : q a with
    | true => simpa using ih
    | false => simp
theorem or_readS {tA tB : TT} {σ : L2.St} {G : Hp} {Q : Bool → Hp → Prop} {p wh : Bool} (hA : ∀ R : Bool → Hp → Prop, R p G → tA σ G R) (hB : ∀ R : Bool → Hp → Prop, (∀ G', Same G G' → R wh G') → tB σ G R) (k : ∀ G', Same G G' → Q (p || wh) G') : tOr tA tB σ G Q := by
  refine hA _ ?_
  cases p with
  | true => exact iteT (k G (Same.refl _))
  | false => exact iteF (hB _ fun G' s => by rw [← Bool.false_or wh]; exact k G' s)
theorem test_op {r : R2} {ta tb : TE} {σ : L2.St} {H : Hp} {Q : Bool → Hp → Prop} (h : ta σ H fun x H1 => tb σ H1 fun y H2 => r x y H2 fun v H3 => ∃ k, v = .bl k ∧ Q k H3) : tTest (tOp r ta tb) σ H Q := h
def spLeaf : Sp := fun vs H Q _ => ∃ z : Str, vs = [.str z] ∧ z.length ≤ 1000 ∧ ∀ H', Same H H' → Q (.bl (isPlain z)) H'
section
variable {w : World} {K : PySem.W.Frag} {mg : Str → Option Value} {base : Heap}
theorem ok_leaf (T : Ctx K mg) : FnOk PW w K mg base CX0 1 r_lx_is_leaf.at_ (fdOf K r_lx_is_leaf.at_) P_lx_is_leaf spLeaf := by
  have F := T.fun_ r_lx_is_leaf m_lx_is_leaf
  refine F.ok sc_lx_is_leaf (fun vs H Q E h => ?_) (fun cdv A outer s H vs Q E hr h => ⟨_, pss_cons (ps_asg (pe_ifExp (pt_cmpR op_eq (pe_slice sl_str (pv 0) po_none (po_some pe_int)) pe_str (nomark _)) (pe_slice sl_str (pv 0) (po_some pe_int) po_none) (pv 0)) (pg_name (i := 1) sc_lx_is_leaf.nd rfl (Or.inl rfl)))
    (pss_cons (ps_if (PW.pt (pw_or (pt_cmpR op_eq (pv 0) pe_str (nomark _)) (pw_or1 (PW.pt (pw_and (pt_cmpR op_eq (pe_slice sl_str (pv 0) po_none (po_some pe_int)) pe_str (nomark _)) (pw_and1 (pt_cmpR (op_eqE (Nat.lt_of_succ_lt (hu_of hr)))
        (pe_lc (own := [("sign", 2)]) (g := gName 2) rfl sc_lx_is_leaf.nd (pi_str (pe_slice sl_str (pv 0) (po_some pe_int) po_none)) (blkOk_by (N := N_lx_is_leaf) (sc := defScope s_lx_is_leaf) (by decide +kernel)) (fun _ _ _ _ _ => pg_name (i := 2) sc_lx_is_leaf.nd rfl (Or.inl rfl)) (fun _ _ _ _ _ => pts_one (pt_cmpR op_notIn_sign (pv 2) pe_str rfl)) (fun _ _ _ _ _ => pv 2)) (pe_lst pa_nil) (nomark _)))))))) (pss_one (ps_ret pe_bl)) pss_nil)
    (pss_cons (ps_if (PW.pt (pw_or (pt_cmpR op_eq (pv 1) pe_str (nomark _)) (pw_or (pt_cmpR op_gt (pe_callB call_len rfl T.free (by decide +kernel) (pa_cons (pv 1) pa_nil)) pe_int (nomark _)) (pw_or1 (pt_cmpR (op_neE (Nat.lt_of_succ_lt (hu_of hr)))
        (pe_lc (own := [("sign", 2)]) (g := gName 2) rfl sc_lx_is_leaf.nd (pi_str (pv 1)) (blkOk_by (N := N_lx_is_leaf) (sc := defScope s_lx_is_leaf) (by decide +kernel)) (fun _ _ _ _ _ => pg_name (i := 2) sc_lx_is_leaf.nd rfl (Or.inl rfl)) (fun _ _ _ _ _ => pts_one (pt_cmpR op_notIn_sign (pv 2) pe_str rfl)) (fun _ _ _ _ _ => pv 2)) (pe_lst pa_nil) (nomark _)))))) (pss_one (ps_ret pe_bl)) pss_nil)
    (pss_one (ps_ret (pe_or (pe_cmpR op_eq (pv 0) pe_str (nomark _)) (pe_one (pe_cmpR op_ne (pe_ix ix_str (pv 1) pe_int (fun _ _ => rfl)) pe_str (nomark _)))))))), ?_⟩)
  · obtain ⟨z, rfl, _⟩ := h
    rfl
  · obtain ⟨z, rfl, hz, k⟩ := h
    have hz2 : z.length ≤ sizeLine := Nat.le_trans hz (by decide)
    have hfl : (fz z).length ≤ 1000 := by
      have h1 := figs_len (tl z)
      have h2 : z.length = (tl z).length := len_tl z
      show (figs (tl z)).toArray.size ≤ 1000
      rw [List.size_toArray]
      omega
    have hl : (fz z).length = (figs (tl z)).length := by
      show (figs (tl z)).toArray.size = _
      rw [List.size_toArray]
    have hcl : (cutS z (some 1) none).length ≤ 100000 := by
      rw [cut_drop]
      show ((tl z).drop 1).toArray.size ≤ 100000
      rw [List.size_toArray, List.length_drop]
      have h2 : z.length = (tl z).length := len_tl z
      omega
    refine asg_if (b := decide (V.str (cutS z none (some 1)) = V.str "-")) (y := .str (fz z)) (fun R hR => ⟨_, rfl, 1, rfl, z, rfl, hz2, rfl, _, rfl, hR⟩) (fun h R hR => ⟨_, rfl, 1, rfl, z, rfl, hz2, by rw [fz_yes (of_decide_eq_true h)]; exact hR⟩)
      (fun h R hR => ⟨_, rfl, by rw [← fz_no (of_decide_eq_false h)] at hR; exact hR⟩) ?_
    dsimp only [tSeq, tIfS]
    refine or_readS (p := decide (V.str z = V.str "none")) (wh := decide (V.str (cutS z none (some 1)) = V.str "=") && ((tl z).drop 1).all isL) (fun R hR => ⟨_, rfl, rfl, _, rfl, hR⟩)
      (fun R hR => and_read (p := decide (V.str (cutS z none (some 1)) = V.str "=")) (wh := ((tl z).drop 1).all isL) (fun R hR => ⟨_, rfl, 1, rfl, z, rfl, hz2, rfl, _, rfl, hR⟩) (fun R hR => ?_) hR) (fun G1 s1 => ?_)
    · refine test_op ?_
      refine read_those (K := K) (j := 2) (p := fun c => !isL c) (x := cutS z (some 1) none) (fun R hR => ⟨_, rfl, 1, rfl, z, rfl, hz2, hR⟩) (fun _ => rfl) (fun _ => rfl) (fun c H' R hR => ⟨_, rfl, c, _, rfl, rfl, _, rfl, by rw [letter_in]; exact hR⟩) hcl fun D H' hD sm hDl => ?_
      refine ⟨by show 0 ≤ sizeLine; decide, fun q hq => ⟨D, q, _, rfl, rfl, SqL.of (same_new hq _ _ hDl), SqL.of upd_same, _, rfl, ?_⟩⟩
      rw [no_bad, cut_drop]
      exact hR _ (sm.trans (same_new hq))
    have e0 : decide (V.str z = V.str "none") = decide (z = wN) := by
      rw [Bool.eq_iff_iff]
      simp only [decide_eq_true_eq, V.str.injEq]
      exact Iff.rfl
    have em : decide (V.str (cutS z none (some 1)) = V.str "=") = decide ((tl z).take 1 = [61]) := take_mark
    rw [e0, em, word_if]
    cases eb : (decide (z = wN) || wordL (tl z)) with
    | true =>
      have e : isPlain z = true := by
        unfold isPlain
        rcases Bool.or_eq_true_iff.mp eb with h | h
        · rw [h]; rfl
        · rw [h]; simp
      have q := k G1 s1
      rw [e] at q
      exact iteT q
    | false =>
      have ep : isPlain z = writtenL (tl z) := by
        unfold isPlain
        obtain ⟨h1, h2⟩ := Bool.or_eq_false_iff.mp eb
        rw [h1, h2]
        simp
      refine iteF ?_
      dsimp only [tNext, tSeq, tIfS]
      refine or_readS (p := decide (V.str (fz z) = V.str "")) (wh := decide (40 < (figs (tl z)).length) || !(figs (tl z)).all isF) (fun R hR => ⟨_, rfl, rfl, _, rfl, hR⟩)
        (fun R hR => or_readS (p := decide (40 < (figs (tl z)).length)) (wh := !(figs (tl z)).all isF) (fun R hR => ?_) (fun R hR => ?_) hR) (fun G2 s2 => ?_)
      · refine ⟨_, rfl, _, _, rfl, ⟨Nat.le_trans hfl (by decide), rfl⟩, _, 40, rfl, rfl, _, rfl, ?_⟩
        have e : decide ((40 : Int) < (((fz z).length : Nat) : Int)) = decide (40 < (figs (tl z)).length) := by
          rw [hl, Bool.eq_iff_iff]
          simp only [decide_eq_true_eq]
          omega
        rw [e]
        exact hR
      · refine test_op ?_
        refine read_those (K := K) (j := 2) (p := fun c => !isF c) (x := fz z) (fun R hR => ⟨_, rfl, hR⟩) (fun _ => rfl) (fun _ => rfl) (fun c H' R hR => ⟨_, rfl, c, _, rfl, rfl, _, rfl, by rw [figure_in]; exact hR⟩) (Nat.le_trans hfl (by decide)) fun D H' hD sm hDl => ?_
        refine ⟨by show 0 ≤ sizeLine; decide, fun q hq => ⟨D, q, _, rfl, rfl, SqL.of (same_new hq _ _ hDl), SqL.of upd_same, _, rfl, ?_⟩⟩
        rw [no_bad]
        exact hR _ (sm.trans (same_new hq))
      have s12 := s1.trans s2
      have ee : decide (V.str (fz z) = V.str "") = decide (figs (tl z) = []) := by
        rw [show (("" : Str)) = ⟨([] : List Nat).toArray⟩ from by decide +kernel, Bool.eq_iff_iff]
        simp only [decide_eq_true_eq]
        exact vstr
      rw [ee]
      cases e2 : (decide (figs (tl z) = []) || (decide (40 < (figs (tl z)).length) || !(figs (tl z)).all isF)) with
      | true =>
        have e : isPlain z = false := by
          rw [ep]
          unfold writtenL
          rcases Bool.or_eq_true_iff.mp e2 with h | h
          · rw [of_decide_eq_true h]; rfl
          rcases Bool.or_eq_true_iff.mp h with h | h
          · rw [decide_eq_false (show ¬ (figs (tl z)).length ≤ 40 by have := of_decide_eq_true h; omega)]
            simp
          · rw [show (figs (tl z)).all isF = false by simpa using h]
            simp
        have q := k G2 s12
        rw [e] at q
        exact iteT q
      | false =>
        obtain ⟨h1, h2⟩ := Bool.or_eq_false_iff.mp e2
        obtain ⟨h2, h3⟩ := Bool.or_eq_false_iff.mp h2
        obtain ⟨a, r, ef⟩ : ∃ a r, figs (tl z) = a :: r := by
          cases q : figs (tl z) with
          | nil => exact absurd q (of_decide_eq_false h1)
          | cons a r => exact ⟨a, r, rfl⟩
        have w1 : decide (1 ≤ (figs (tl z)).length) = true := decide_eq_true (by rw [ef, List.length_cons]; omega)
        have w2 : decide ((figs (tl z)).length ≤ 40) = true := decide_eq_true (by have := of_decide_eq_false h2; omega)
        have w3 : (figs (tl z)).all isF = true := by simpa using h3
        have e4 : decide (V.str z = V.str "0") = decide (tl z = [48]) := by
          rw [nought_is]
          conv => lhs; rw [str_tl z]
          rw [Bool.eq_iff_iff]
          simp only [decide_eq_true_eq]
          exact vstr
        refine iteF ⟨_, rfl, rfl, _, rfl, ?_⟩
        rw [e4]
        cases e5 : decide (tl z = [48]) with
        | true =>
          have e : isPlain z = true := by
            rw [ep]
            unfold writtenL
            rw [w1, w2, w3, e5]
            rfl
          have q := k G2 s12
          rw [e] at q
          exact iteT q
        | false =>
          refine iteF ⟨_, rfl, fz z, 0, a, rfl, rfl, Nat.le_trans hfl (by decide), ?_, rfl, ?_⟩
          · have e6 : (fz z).cps.toList = a :: r := ef
            rw [e6]
            exact at0 a r
          · have e : (!decide (V.str ⟨#[a]⟩ = V.str "0")) = isPlain z := by
              have e7 : decide (V.str ⟨#[a]⟩ = V.str "0") = decide ((figs (tl z)).head? = some 48) := by
                rw [ef, nought_is, Bool.eq_iff_iff]
                simp only [decide_eq_true_eq, List.head?_cons, Option.some.injEq]
                refine (vstr (a := [a]) (b := [48])).trans ?_
                simp
              rw [e7, ep]
              unfold writtenL
              rw [w1, w2, w3, e5]
              rfl
            rw [e]
            exact k G2 s12
end
end K91
set_option Elab.async false
set_option linter.all false
set_option maxRecDepth 100000
set_option maxHeartbeats 4000000
/-! K91, AM: texts of words, cut again. -/
namespace K91
open PySem PySem.Spec PyProof.Rows L2 TL
theorem noSp_32 {x : Str} (h : noSp x = true) : 32 ∉ tl x := fun hm => by
  have z := List.all_eq_true.mp h 32 hm
  simp at z
theorem noSp_10 {x : Str} (h : noSp x = true) : 10 ∉ tl x := fun hm => by
  have z := List.all_eq_true.mp h 10 hm
  simp at z
theorem tl_spc : tl SPC = 32 :: [] := by decide +kernel
theorem tl_nl : tl NL = 10 :: [] := by decide +kernel
theorem mem_joinL {S : List Nat} {c : Nat} : ∀ {ps : List (List Nat)}, c ∈ joinL S ps → c ∈ S ∨ ∃ p ∈ ps, c ∈ p
  | [], h => absurd h List.not_mem_nil
  | [p], h => .inr ⟨p, List.mem_singleton.mpr rfl, h⟩
  | p :: q :: r, h => by
    rcases List.mem_append.mp (show c ∈ p ++ (S ++ joinL S (q :: r)) from h) with h | h
    · exact .inr ⟨p, List.mem_cons_self, h⟩
    rcases List.mem_append.mp h with h | h
    · exact .inl h
    rcases mem_joinL h with h | ⟨x, hx, h⟩
    · exact .inl h
    · exact .inr ⟨x, List.mem_cons_of_mem _ hx, h⟩
theorem split_words {ws : List Str} (hn : ws ≠ []) (h : ∀ x ∈ ws, noSp x = true) : Txt.split (Txt.join SPC ws) SPC = ws :=
  split_join tl_spc (by decide +kernel) hn fun p hp => noSp_32 (h p hp)
theorem join_no_nl {ws : List Str} (h : ∀ x ∈ ws, noSp x = true) : 10 ∉ tl (Txt.join SPC ws) := fun hm => by
  rw [join_eq, tl_join, tl_spc] at hm
  rcases mem_joinL hm with hm | ⟨p, hp, hm⟩
  · simp at hm
  · obtain ⟨x, hx, rfl⟩ := List.mem_map.mp hp
    exact noSp_10 (h x hx) hm
theorem split_line {t : Str} (h : 10 ∉ tl t) : Txt.split t NL = [t] := by
  have z := split_join (parts := [t]) tl_nl (by decide +kernel) (by simp) (fun p hp => by rw [List.mem_singleton.mp hp]; exact h)
  rw [join_eq] at z
  exact z
theorem split_lines {t u : Str} (h : 10 ∉ tl t) (g : 10 ∉ tl u) : Txt.split (t ++ NL ++ u) NL = [t, u] := by
  have z := split_join (parts := [t, u]) tl_nl (by decide +kernel) (by simp) (fun p hp => by
    rcases List.mem_cons.mp hp with rfl | hp
    · exact h
    · rw [List.mem_singleton.mp hp]; exact g)
  rw [join_eq] at z
  exact z
end K91
set_option Elab.async false
set_option linter.all false
set_option maxRecDepth 100000
set_option maxHeartbeats 4000000
/-! K91, AN: a call with keywords only. -/
namespace K91
open PySem PySem.Spec PyProof.Rows L2
section
variable {X : Cx} {CX : CXT} {k : Nat} {f : Addr} {fd : FuncData} {ps ks : List Str} {sp : Sp} {E : XK} {x : Str} {p pos : Pos} {kws : List Keyword} {tk : TA} {g : List Value → List Value → List Value} {gV : List V → List V → List V}
/-- f(k = v, ..) -/
theorem pe_callK0 (F : FnOk X.prog X.w X.K X.mg X.base CX k f fd ps sp) (hr : Room k X.A) (hg : Gl X x) (hm : X.mg x = some (.ref f)) (hk : PySem.W.keepIn X.K (.ref f) = true) (hb : KBinds X.K fd ps ks g gV) (hx : Passes CX X E)
    (hkw : PK X kws tk) (hall : (backToKw pos (keywordEach kws X.env)).all (·.1.isSome) = true := by rfl) (hks : (backToKw pos (keywordEach kws X.env)).filterMap (·.1) = ks := by rfl)
    (hdb : (x == ("__debug__" : Str)) = false := by decide) (hpl : ((backTo pos (starEach [] X.env)).any (·.1) || (backToKw pos (keywordEach kws X.env)).any (·.1.isNone)) = false := by rfl) :
    PE X (.Call (.Name x p) [] kws pos) (tCallK sp gV E tNil tk) := by
  refine ⟨fun pins s σ H Q I h => ?_⟩
  refine wpAny_Call_Name_kw (ld_glob I hg hm ?_ hdb)
  refine PySem.W.callWith_KW0 (h₀ := X.base) I.ok.mod.kin hk hall ?_ hpl
  refine thn (hkw.run pos pins s σ H _ I h) fun ws s2 ⟨zs, H2, I2, rz, q2⟩ => ⟨I2.kIn, ?_⟩
  rw [hks]
  exact run_fnk (us := []) (vs := []) F hr hb hx I2 .nil rz q2
end
/-- a def with one parameter, called by its name -/
theorem kb1 {K : PySem.W.Frag} {x qual a : Str} {st : Stmt} {f : Addr} {fd : FuncData} (F : Fun K x qual st f fd)
    (h1 : ∀ (kV doc pm : Value) (an : Option Addr) (cdv ct u : Value), bindArgs (PySem.W.fnOf x qual (defArgs st) (defBody st) (defScope st) .none kV doc pm an cdv ct) ⟨[u], []⟩ = pure [(a, u)])
    (h2 : ∀ (kV doc pm : Value) (an : Option Addr) (cdv ct u : Value), bindArgs (PySem.W.fnOf x qual (defArgs st) (defBody st) (defScope st) .none kV doc pm an cdv ct) ⟨[], [(a, u)]⟩ = pure [(a, u)]) : KBinds K fd [a] [a] (fun us ws => us ++ ws) (fun vs zs => vs ++ zs) := by
  obtain ⟨oc, od, kV, doc, pm, an, cdv, ct, osl, rfl, lk, hcd⟩ := F.ex
  refine ⟨fun s us ws _ hl => ?_, fun r q => ?_⟩
  · match us, ws, hl with
    | [u], [], _ => exact BindsTo.of_eq (h1 kV doc pm an cdv ct u)
    | [], [u], _ => exact BindsTo.of_eq (h2 kV doc pm an cdv ct u)
  · induction r with
    | nil => exact q
    | cons a b ih => exact .cons a ih
section
variable {K : PySem.W.Frag} {mg : Str → Option Value}
theorem kb_text (T : Ctx K mg) : KBinds K (fdOf K 330) P_paper_text P_paper_text (fun us ws => us ++ ws) (fun vs zs => vs ++ zs) := kb1 (T.fun_ r_paper_text m_paper_text) (fun _ _ _ _ _ _ _ => rfl) (fun _ _ _ _ _ _ _ => rfl)
theorem kb_read (T : Ctx K mg) : KBinds K (fdOf K 1026) P_read_paper P_read_paper (fun us ws => us ++ ws) (fun vs zs => vs ++ zs) := kb1 (T.fun_ r_read_paper m_read_paper) (fun _ _ _ _ _ _ _ => rfl) (fun _ _ _ _ _ _ _ => rfl)
end
end K91
set_option Elab.async false
set_option linter.all false
set_option maxRecDepth 100000
set_option maxHeartbeats 4000000
/-! K91, AO: sum of lists. -/
namespace K91
open PySem PySem.Spec PyProof.Rows L2
def accL (cont : Nat → List Value) : Nat → List Value
  | 0 => []
  | n + 1 => accL cont n ++ cont n
section
variable {prog : Program} {w : World} {A : Around} {R : Result → Shared → Prop} {I : Addr} {fp wr : List Addr} {G : Array GenState → Array GenState → Prop} {n : Nat} {P : Nat → Value → Prop} {St : Nat → Shared → Prop}
theorem sum_loopL (W : WalksS prog w A.in1 I fp wr G n P St) (h0 : Heap) (cont : Nat → List Value) (S : Addr) (hSf : S ∉ fp) (hP : ∀ i v, P i v → ∃ l nn, v = .ref l ∧ IsL h0 l (cont i).toArray nn ∧ l ∉ S :: wr)
    (hz : ∀ i, i ≤ n → (accL cont i).length ≤ 100000) (hwr : ∀ i s, St i s → ∀ b ∈ wr, ∃ o, s.heap.get? b = some o) :
    ∀ (k i : Nat) (s : Shared) (t : Addr) (c nn : Nat), n - i = k → i ≤ n → St i s → s.heap.get? S = some { cls := .type "list", dict := none, data := .seq #[Value.ref t] c, slots := #[] } →
    (∀ b o, b ∉ S :: wr → h0.get? b = some o → s.heap.get? b = some o) → IsL s.heap t (accL cont i).toArray nn → t ∉ S :: wr →
    (∀ s' t' nn', Moved (S :: wr) G s s' → IsL s'.heap t' (accL cont n).toArray nn' → (t' = t ∧ i = n) ∨ S < t' → R (.ok (.ret (.ref t'))) s') → codeAny (model prog w) A (.builtin "sum.loop" ⟨[.ref I, .ref S, rawInt 2, rawInt 0], []⟩) R s := by
  have hSw : S ∉ wr := fun h => hSf (W.sub _ h)
  have hsub : ∀ b ∈ wr, b ∈ S :: wr := fun b hb => List.mem_cons_of_mem _ hb
  intro k
  induction k with
  | zero =>
    intro i s t c nn hk hi hst hS hkeep ht htw hR
    have hin : i = n := by omega
    subst hin
    refine codeAny_builtin PySem.F.entry_sum_loop ?_
    rw [Around.under_plainId PySem.F.plain_sum_loop _]
    show wpAny _ A.in1 (seqItems? (.ref S) >>= _) _ _ s
    refine wpAny_bind (wpAny_seqItems hS rfl ?_)
    show wpAny _ A.in1 (tryCatch (pyNext (.ref I)) _ >>= _) _ _ s
    refine wpAny_bind (wpAny_tryCatch (W.done s _ _ hst fun s' hm => ?_))
    exact wpAny_pure (hR s' t nn (hm.mono hsub) (hm.heap t _ (fun h => htw (hsub _ h)) ht) (.inl ⟨rfl, rfl⟩))
  | succ k ih =>
    intro i s t c nn hk hi hst hS hkeep ht htw hR
    have hlt : i < n := by omega
    refine codeAny_builtin PySem.F.entry_sum_loop ?_
    rw [Around.under_plainId PySem.F.plain_sum_loop _]
    show wpAny _ A.in1 (seqItems? (.ref S) >>= _) _ _ s
    refine wpAny_bind (wpAny_seqItems hS rfl ?_)
    show wpAny _ A.in1 (tryCatch (pyNext (.ref I)) _ >>= _) _ _ s
    refine wpAny_bind (wpAny_tryCatch (W.item i s _ _ hlt hst fun v s' hPv hst' hm => ?_))
    obtain ⟨l, nl, rfl, hl, hlw⟩ := hP i v hPv
    have hS' := hm.heap S _ hSw hS
    have ht' : IsL s'.heap t (accL cont i).toArray nn := hm.heap t _ (fun h => htw (hsub _ h)) ht
    have hl' : IsL s'.heap l (cont i).toArray nl := hm.heap l _ (fun h => hlw (hsub _ h)) (hkeep l _ hlw hl)
    show wpAny _ A.in1 ((holding [Value.ref l] (binaryOp .Add (.ref t) (.ref l))).attempt >>= _) _ _ _
    have hz2 := hz (i + 1) hlt
    have hz3 : (accL cont i).length + (cont i).length ≤ 100000 := by
      have e : accL cont (i + 1) = accL cont i ++ cont i := rfl
      rw [e, List.length_append] at hz2
      exact hz2
    refine wpAny_bind (wpAny_attempt (wpAny_holding (PySem.P.add_list ht' hl' ?_ (by rw [List.size_toArray, List.size_toArray]; exact Nat.le_trans hz3 (by decide)))))
    have hpush : ∀ b o, s'.heap.get? b = some o → (s'.heap.push { cls := .type "list", data := .seq ((accL cont i).toArray ++ (cont i).toArray) }).get? b = some o := fun b o e => Heap.get?_push_of_some _ e
    have hnew : IsL (s'.heap.push { cls := .type "list", data := .seq ((accL cont i).toArray ++ (cont i).toArray) }) s'.heap.objs.size (accL cont (i + 1)).toArray 0 := by
      have e : (accL cont (i + 1)).toArray = (accL cont i).toArray ++ (cont i).toArray := by
        show (accL cont i ++ cont i).toArray = _
        simp
      rw [e]
      exact IsL.new _ _
    have hT : s'.heap.objs.size ∉ S :: wr := fun h => by
      rcases List.mem_cons.mp h with h | h
      · exact absurd (Heap.lt_size hS') (by rw [← h]; exact Nat.lt_irrefl _)
      · obtain ⟨o, ho⟩ := hwr _ s' hst' _ h
        exact absurd (Heap.lt_size ho) (Nat.lt_irrefl _)
    generalize s'.heap.push { cls := .type "list", data := .seq ((accL cont i).toArray ++ (cont i).toArray) } = h2 at hpush hnew ⊢
    have hS2 := hpush _ _ hS'
    show wpAny _ A.in1 (updateSeq S (fun _ => #[.ref s'.heap.objs.size]) >>= _) _ _ _
    refine wpAny_bind (wpAny_updateSeq hS2 rfl ?_)
    have hS₂ := Heap.get?_update_self (Obj.mapSeq fun _ => #[Value.ref s'.heap.objs.size]) hS2 rfl
    refine wpAny_bind (wpAny_letGo ?_)
    have ko : ∀ (f g : Array Value → Array Value) (b : Addr) (o : Obj), S ≠ b → h2.get? b = some o → ((h2.update S (Obj.mapSeq f)).update S (Obj.mapSeq g)).get? b = some o := fun f g b o hb e => (Heap.get?_update_other _ _ hb).trans ((Heap.get?_update_other _ _ hb).trans e)
    refine wpAny_bind (wpAny_updateSeq hS₂ rfl (wpAny_pure ⟨plainId_quiet PySem.F.plain_sum_loop _, ih (i + 1) _ s'.heap.objs.size _ 0 (by omega) hlt (W.frame _ s' _ _ hst' (by first | exact Nat.le_refl _ | exact Nat.le_succ _ | omega) fun b hb o e => ?_) (Heap.get?_update_self _ hS₂ rfl) (fun b o hb e => ?_) ?_ hT fun s'' t'' nn'' hm'' hl'' hc'' => ?_⟩))
    · exact ko _ _ b o (fun h : S = b => hSf (by rw [h]; exact hb)) (hpush _ _ e)
    · exact ko _ _ b o (fun h : S = b => hb (by rw [h]; exact List.mem_cons_self)) (hpush _ _ (hm.heap b o (fun h => hb (hsub _ h)) (hkeep b o hb e)))
    · exact ko _ _ _ _ (fun h : S = _ => hT (by rw [← h]; exact List.mem_cons_self)) hnew
    · refine hR s'' t'' nn'' (Moved.trans W.gtrans ((hm.mono hsub).then_heap (by first | exact Nat.le_refl _ | exact Nat.le_succ _ | omega) fun b o hb e => ?_) hm'') hl'' (.inr ?_)
      · exact ko _ _ b o (fun h : S = b => hb (by rw [h]; exact List.mem_cons_self)) (hpush _ _ e)
      · rcases hc'' with ⟨hc, _⟩ | hc
        · rw [hc]
          exact Heap.lt_size hS'
        · exact hc
end
theorem args_sum2 (a b : Value) : argsOk "sum" ⟨[a, b], []⟩ := by unfold argsOk; kernel_rfl
theorem call_sumL {prog : Program} {w : World} {A : Around} {E : Value → Shared → Prop} {s : Shared} {a t0 : Addr} {its : List Value} {cont : Nat → List Value} {nn0 : Nat} {Q : Value → Shared → Prop} (hh : A.handled = none) (hl : s.heap.IsList a its.toArray) (ht0 : IsL s.heap t0 (([] : List Value)).toArray nn0)
    (hits : ∀ (i : Nat) v, its[i]? = some v → ∃ l nn, v = .ref l ∧ IsL s.heap l (cont i).toArray nn) (hz : ∀ i, i ≤ its.length → (accL cont i).length ≤ 100000)
    (h : ∀ h' tk t' nn', s.toks ≤ tk → (∀ b o, s.heap.get? b = some o → h'.get? b = some o) → IsL h' t' (accL cont its.length).toArray nn' → (t' = t0 ∧ its = []) ∨ s.heap.objs.size ≤ t' → Q (.ref t') { s with heap := h', toks := tk }) :
    wpAny (model prog w) A (call (.builtin "sum") [.ref a, .ref t0]) Q E s := by
  refine call_function_tree PySem.F.kind_sum PySem.F.plain_sum PySem.F.entry_sum (args_sum2 _ _) ?_
  unfold Builtin.«sum»
  simp only [List.length_cons, List.length_nil]
  rw [if_neg (by decide)]
  refine wpAny_bind (wpAny_of_eq (show Builtin.Builtins.bindParams "sum" ["start"] 0 ⟨[.ref t0], []⟩ = pure [some (.ref t0)] from rfl) ?_)
  refine wpAny_bind (wpAny_pyIter_list hl ?_)
  refine wpAny_bind (wpAny_pure ?_)
  have ht1 : IsL (s.heap.push { cls := .type "list_iterator", data := .fields #[.ref a, .int 0 0] }) t0 (([] : List Value)).toArray nn0 := Heap.get?_push_of_some _ ht0
  simp only [List.forIn_cons, List.forIn_nil]
  refine wpAny_bind (wpAny_bind (wpAny_bind (wpAny_isInstance (T := "list") (b := false) ⟨_, ht1, rfl⟩ PySem.F.sub_list_str ?_)))
  simp only [Bool.false_eq_true, if_false]
  refine wpAny_pure (wpAny_bind (wpAny_bind (wpAny_isInstance (T := "list") (b := false) ⟨_, ht1, rfl⟩ PySem.F.sub_list_bytes ?_)))
  simp only [Bool.false_eq_true, if_false]
  refine wpAny_pure (wpAny_bind (wpAny_bind (wpAny_isInstance (T := "list") (b := false) ⟨_, ht1, rfl⟩ PySem.F.sub_list_bytearray ?_)))
  simp only [Bool.false_eq_true, if_false]
  refine wpAny_pure (wpAny_pure ?_)
  refine wpAny_bind (wpAny_newObj_type ?_)
  have la : a < s.heap.objs.size := by obtain ⟨o, ho, _⟩ := hl; exact Heap.lt_size ho
  have hs1 : (s.heap.push { cls := .type "list_iterator", data := .fields #[.ref a, .int 0 0] }).objs.size = s.heap.objs.size + 1 := Heap.size_push ..
  have up : ∀ b o, s.heap.get? b = some o → ((s.heap.push { cls := .type "list_iterator", data := .fields #[.ref a, .int 0 0] }).push { cls := .type "list", data := .seq #[.ref t0] }).get? b = some o := fun b o e => Heap.get?_push_of_some _ (Heap.get?_push_of_some _ e)
  have notin : ∀ b o, s.heap.get? b = some o → b ∉ (s.heap.push { cls := .type "list_iterator", data := .fields #[.ref a, .int 0 0] }).objs.size :: [s.heap.objs.size] := fun b o e h => by
    have lb := Heap.lt_size e
    rcases List.mem_cons.mp h with h | h
    · rw [h, hs1] at lb; exact absurd lb (Nat.not_lt.mpr (Nat.le_succ _))
    · rw [List.mem_singleton.mp h] at lb; exact absurd lb (Nat.lt_irrefl _)
  have hh2 : A.in1.handled = none := hh
  refine wpAny_pure ⟨plainId_quiet PySem.F.plain_sum_loop _, sum_loopL (Walks.list (A := A.in1) hh2 s.heap.objs.size a (Nat.ne_of_lt la) its.toArray).toS s.heap cont _ (fun hm => ?_) (fun i v hv => ?_) (fun i hi => hz i (by simpa using hi)) (fun i s1 st b hb => ?_) its.length 0 _ t0 0 nn0 (by simp) (Nat.zero_le _) ⟨⟨_, Heap.get?_push_of_some _ (Heap.get?_push_size _ rfl), rfl, rfl⟩, hl.at fun o e => up _ o e⟩ (Heap.get?_push_size _ rfl) (fun b o _ e => up b o e) (up _ _ ht0) (notin _ _ ht0) fun s' t' nn' hm hl' hc => ?_⟩
  · rcases List.mem_cons.mp hm with hm | hm
    · rw [hs1] at hm; exact absurd hm (Nat.succ_ne_self _)
    · rw [List.mem_singleton.mp hm] at hs1
      rw [hs1] at la
      exact absurd la (Nat.not_lt.mpr (Nat.le_succ _))
  · have hv2 : its[i]? = some v := by simpa using hv
    obtain ⟨l, nn, rfl, hl2⟩ := hits i v hv2
    exact ⟨l, nn, rfl, hl2, notin _ _ hl2⟩
  · rw [List.mem_singleton.mp hb]
    obtain ⟨o, ho, _⟩ := st.1
    exact ⟨o, ho⟩
  · have e := Moved.eq_with hm
    rw [e]
    refine h s'.heap s'.toks t' nn' hm.toks (fun b o q => hm.heap b o (notin b o q) (up b o q)) (by simpa using hl') ?_
    rcases hc with ⟨h1, h2⟩ | h1
    · exact .inl ⟨h1, List.eq_nil_of_length_eq_zero (by simpa using h2.symm)⟩
    · exact .inr (Nat.le_of_lt (Nat.lt_of_succ_lt (by rw [hs1] at h1; exact h1)))
end K91
set_option Elab.async false
set_option linter.all false
set_option maxRecDepth 100000
set_option maxHeartbeats 4000000
/-! K91, AP: sum(xs, []) by values. -/
namespace K91
open PySem PySem.Spec PyProof.Rows L2
/-- what lists hold, one behind another -/
def flatL : List (List V) → List V := fun yss => yss.flatten
def rSumL (K : PySem.W.Frag) : List V → Hp → VK → Prop := fun vs H Q => ∃ (a t0 : Addr) (ls : List Addr) (yss : List (List V)), vs = [.ref a, .ref t0] ∧ H a = some (.lst (ls.map V.ref)) ∧ H t0 = some (.lst []) ∧ ls.length = yss.length ∧ (∀ (i : Nat) l, ls[i]? = some l → ∃ ys, yss[i]? = some ys ∧ H l = some (.lst ys)) ∧ yss.flatten.length ≤ 100000 ∧
  (ls = [] → Q (.ref t0) H) ∧ ∀ q, H q = none → Q (.ref q) (upd H q (.lst yss.flatten))
theorem call_sumLists {X : Cx} (hc : X.calm = true) : CallR X (.builtin "sum") (rSumL X.K) := by
  intro pins s σ H vs us Q I r h
  obtain ⟨a, t0, ls, yss, rfl, ha, ht, hlen, hls, hz, q1, q2⟩ := h
  obtain ⟨hza, its, na, ra, la, ea⟩ := I.lstM ha
  obtain ⟨_, it0, n0, r0, l0, e0⟩ := I.lstM ht
  have hit0 : it0 = [] := List.eq_nil_of_length_eq_zero l0.symm
  subst hit0
  have hex : ∀ i : Nat, ∃ c : List Value, ∀ l ys, ls[i]? = some l → yss[i]? = some ys → (∃ nn, IsL s.heap l c.toArray nn) ∧ Vals ys c := fun i => by
    cases e : ls[i]? with
    | none => exact ⟨[], fun l ys h => by cases h⟩
    | some l =>
      obtain ⟨ys, hy, hl⟩ := hls i l e
      obtain ⟨_, c, nn, rc, _, ec⟩ := I.lstM hl
      refine ⟨c, fun l' ys' h1 h2 => ?_⟩
      cases h1
      rw [hy] at h2
      cases h2
      exact ⟨⟨nn, ec⟩, rc⟩
  have hcont : ∃ cont : Nat → List Value, ∀ (i : Nat) l ys, ls[i]? = some l → yss[i]? = some ys → (∃ nn, IsL s.heap l (cont i).toArray nn) ∧ Vals ys (cont i) := ⟨fun i => Classical.choose (hex i), fun i => Classical.choose_spec (hex i)⟩
  obtain ⟨cont, hc2⟩ := hcont
  have hli : its.length = yss.length := by
    rw [← la, List.length_map, hlen]
  have hacc : ∀ i, i ≤ yss.length → Vals ((yss.take i).flatten) (accL cont i) := fun i => by
    induction i with
    | zero => exact fun _ => .nil
    | succ i ih =>
      intro hi
      have hy : yss[i]? = some yss[i] := List.getElem?_eq_getElem hi
      have hl : ls[i]? = some ls[i] := List.getElem?_eq_getElem (by omega)
      have h2 := (hc2 i _ _ hl hy).2
      rw [take_app hy, List.flatten_append]
      simpa [accL] using (ih (Nat.le_of_succ_le hi)).append h2
  have hr2 : us = [.ref a, .ref t0] := by
    cases r with
    | cons r1 rr =>
      cases rr with
      | cons r2 rr2 =>
        cases rr2
        have e1 : _ = Value.ref a := r1
        have e2 : _ = Value.ref t0 := r2
        rw [e1, e2]
  subst hr2
  have hits : ∀ (i : Nat) v, its[i]? = some v → ∃ l nn, v = .ref l ∧ IsL s.heap l (cont i).toArray nn := fun i v hv => by
    have hi : i < its.length := (List.getElem?_eq_some_iff.mp hv).1
    have hl : ls[i]? = some ls[i] := List.getElem?_eq_getElem (by omega)
    have hy : yss[i]? = some yss[i] := List.getElem?_eq_getElem (by omega)
    obtain ⟨u, hu, ru⟩ := ra.get (i := i) (x := .ref ls[i]) (by rw [List.getElem?_map, hl]; rfl)
    rw [hv] at hu
    cases hu
    obtain ⟨⟨nn, hn⟩, _⟩ := hc2 i _ _ hl hy
    exact ⟨ls[i], nn, ru, hn⟩
  have haccl : ∀ i, i ≤ its.length → (accL cont i).length ≤ 100000 := fun i hi => by
    have h1 := (hacc i (by omega)).length
    rw [← h1]
    refine Nat.le_trans ?_ hz
    have e : yss.flatten = (yss.take i).flatten ++ (yss.drop i).flatten := by rw [← List.flatten_append, List.take_append_drop]
    rw [e, List.length_append]
    omega
  refine call_sumL (I.ok.hd hc) ⟨_, ea, rfl, _, rfl⟩ e0 hits haccl fun h' tk t' nn' htk hk hl' hcc => ?_
  rw [hli] at hl'
  have hvals := hacc yss.length (Nat.le_refl _)
  rw [List.take_length] at hvals
  rcases hcc with ⟨h1, h2⟩ | h1
  · have hls0 : ls = [] := by
      have e : ls.length = 0 := by
        have q := hlen
        rw [← hli, h2] at q
        exact q
      exact List.eq_nil_of_length_eq_zero e
    subst h1
    exact ⟨.ref t', H, I.kept hk, rfl, q1 hls0⟩
  · exact ⟨.ref t', _, I.laid (a := t') (o := .lst yss.flatten) hk h1 ⟨Nat.le_trans hz (by decide), _, nn', hvals, hl'⟩, rfl, q2 t' (I.hok.fresh h1)⟩
end K91
set_option Elab.async false
set_option linter.all false
set_option maxRecDepth 100000
set_option maxHeartbeats 4000000
/-! K91, AQ: _law_tx_plain_words. -/
namespace K91
open PySem PySem.Spec PyProof.Rows L2
theorem none_of {H G : Hp} {q : Addr} (sm : Same H G) (h : G q = none) : H q = none := by
  cases e : H q with
  | none => rfl
  | some o => rw [sm _ _ e] at h; cases h
theorem PlL.get {H : Hp} : ∀ {ds : List D} {vs : List V} {i : Nat} {v : V}, PlL H ds vs → vs[i]? = some v → ∃ d, ds[i]? = some d ∧ Pl H d v
  | [], _, i, v, e, h => by
    have e : _ = [] := e
    rw [e] at h
    simp at h
  | d :: ds, _, 0, v, ⟨u, r, e, h1, h2⟩, h => by
    rw [e] at h
    have h : u = v := by simpa using h
    exact ⟨d, rfl, by rw [← h]; exact h1⟩
  | d :: ds, _, i + 1, v, ⟨u, r, e, h1, h2⟩, h => by
    rw [e] at h
    obtain ⟨d', e1, e2⟩ := PlL.get (i := i) h2 (by simpa using h)
    exact ⟨d', by simpa using e1, e2⟩
/-- lists of the words of data -/
def RWs (H : Hp) : List D → List Addr → Prop
  | [], ls => ls = []
  | d :: ds, ls => ∃ l r, ls = l :: r ∧ H l = some (.lst (d.words.map V.str)) ∧ RWs H ds r
theorem RWs.mono {H H' : Hp} : ∀ {ds : List D} {ls : List Addr}, (∀ l ∈ ls, ∀ o, H l = some o → H' l = some o) → RWs H ds ls → RWs H' ds ls
  | [], _, _, e => e
  | d :: ds, _, h, ⟨l, r, e, h1, k⟩ => by
    subst e
    exact ⟨l, r, rfl, h _ List.mem_cons_self _ h1, RWs.mono (fun x hx => h x (List.mem_cons_of_mem _ hx)) k⟩
theorem RWs.app {H : Hp} : ∀ {ds es : List D} {ls ms : List Addr}, RWs H ds ls → RWs H es ms → RWs H (ds ++ es) (ls ++ ms)
  | [], _, _, _, e, g => by
    have e : _ = [] := e
    rw [e]
    exact g
  | d :: ds, _, _, _, ⟨l, r, e, h1, k⟩, g => ⟨l, _, by rw [e]; rfl, h1, RWs.app k g⟩
theorem RWs.len {H : Hp} : ∀ {ds : List D} {ls : List Addr}, RWs H ds ls → ls.length = ds.length
  | [], _, e => by
    have e : _ = [] := e
    rw [e] <;> rfl
  | d :: ds, _, ⟨l, r, e, _, k⟩ => by rw [e, List.length_cons, List.length_cons, RWs.len k]
theorem RWs.get {H : Hp} : ∀ {ds : List D} {ls : List Addr} (i : Nat) (l : Addr), RWs H ds ls → ls[i]? = some l → ∃ ys, (ds.map fun d => d.words.map V.str)[i]? = some ys ∧ H l = some (.lst ys)
  | [], _, i, l, e, h => by
    have e : _ = [] := e
    rw [e] at h
    simp at h
  | d :: ds, _, 0, l, ⟨u, r, e, h1, h2⟩, h => by
    rw [e] at h
    have h : u = l := by simpa using h
    exact ⟨_, rfl, by rw [← h]; exact h1⟩
  | d :: ds, _, i + 1, l, ⟨u, r, e, h1, h2⟩, h => by
    rw [e] at h
    obtain ⟨ys, e1, e2⟩ := RWs.get i l h2 (by simpa using h)
    exact ⟨ys, by simpa using e1, e2⟩
theorem flat_words : ∀ ds : List D, (ds.map fun d => d.words.map V.str).flatten = (wordsL ds).map V.str
  | [] => rfl
  | d :: ds => by
    show d.words.map V.str ++ (ds.map fun d => d.words.map V.str).flatten = (d.words ++ wordsL ds).map V.str
    rw [flat_words ds, List.map_append]
/-- sum([f(one) for one in t], []) -/
theorem sum_read {K : PySem.W.Frag} {j : Nat} {σ : L2.St} {H : Hp} {a : Addr} {vs : List V} {ds : List D} {wi : TI} {te : TE} {Q : VK} (hw : ∀ R : It → Hp → Prop, R (Itt K a) H → wi σ H R) (hwp : ∀ v, wipe ((wipe σ [j]).set j (some v)) [j] = wipe σ [j])
    (ha : H a = some (.tup vs)) (hp : PlL H ds vs) (hlen : vs.length ≤ 1000) (hz : (wordsL ds).length ≤ 100000)
    (hte : ∀ (i : Nat) (d : D) (v : V) (G : Hp) (R : VK), ds[i]? = some d → Pl G d v → (∀ l G', G l = none → Same G G' → G' l = some (.lst (d.words.map V.str)) → R (.ref l) G') → te ((wipe σ [j]).set j (some v)) G R)
    (k : ∀ q G, H q = none → Same H G → G q = some (.lst ((wordsL ds).map V.str)) → Q (.ref q) G) :
    tCB (rSumL K) (tCons (tLc wi (gName j) tYes te [j]) (tCons (tLst tNil) tNil)) σ H Q := by
  refine hw _ fun D hD => ?_
  refine lc_tup (K := K) (a := a) (xs := vs) (fun i G => Same H G ∧ ∃ ls : List Addr, G D = some (.lst (ls.map V.ref)) ∧ RWs G (ds.take i) ls ∧ ∀ l ∈ ls, l ≠ D) ⟨same_new hD, [], upd_same, rfl, fun l hl => absurd hl List.not_mem_nil⟩ (fun i G _ z => SqT.of (z.1 _ _ ha)) (fun i x G hi z => ⟨hwp _, lcTurn ?_⟩) (fun G z => ?_)
  · obtain ⟨z1, ls, z2, z3, z4⟩ := z
    obtain ⟨d, e1, e2⟩ := PlL.get hp hi
    refine hte i d x G _ e1 (Pl.mono (Kpt.of z1) _ _ e2) fun l G' hl sm hG => ?_
    have hD' := sm _ _ z2
    have nlD : l ≠ D := (ne_of_none z2 hl).symm
    have ll := RWs.len z3
    refine ⟨_, hD', ?_, fun b o e => ?_, ls ++ [l], ?_, ?_, fun m hm => ?_⟩
    · rw [List.length_map, ll]
      have h1 := List.length_take_le' i ds
      have h2 := PlL.len hp
      exact Nat.lt_of_le_of_lt (show (ds.take i).length ≤ 1000 by omega) (by decide)
    · rw [upd_ne (ne_of_none e hD)]
      exact sm _ _ (z1 _ _ e)
    · rw [upd_same, List.map_append]
      rfl
    · rw [take_app e1]
      refine RWs.app (RWs.mono (fun m hm o e => ?_) z3) ⟨l, [], rfl, ?_, rfl⟩
      · rw [upd_ne (z4 m hm)]
        exact sm _ _ e
      · rw [upd_ne nlD]
        exact hG
    · rcases List.mem_append.mp hm with hm | hm
      · exact z4 m hm
      · rw [List.mem_singleton.mp hm]
        exact nlD
  · obtain ⟨z1, ls, z2, z3, z4⟩ := z
    rw [List.take_of_length_le (by rw [PlL.len hp]; exact Nat.le_refl _)] at z3
    refine ⟨by show 0 ≤ sizeLine; decide, fun t0 ht0 => ?_⟩
    have s0 := z1.trans (same_new (o := .lst []) ht0)
    refine ⟨D, t0, ls, ds.map fun d => d.words.map V.str, rfl, same_new ht0 _ _ z2, upd_same, by rw [List.length_map]; exact RWs.len z3, fun i l hl => ?_, by rw [flat_words, List.length_map]; exact hz, fun e => ?_, fun q hq => ?_⟩
    · exact RWs.get i l (RWs.mono (fun m _ o e => same_new ht0 _ _ e) z3) hl
    · have e2 : ds = [] := List.eq_nil_of_length_eq_zero (by rw [← RWs.len z3, e]; rfl)
      subst e2
      exact k t0 _ (none_of z1 ht0) s0 upd_same
    · rw [flat_words]
      exact k q _ (none_of s0 hq) (s0.trans (same_new hq)) upd_same
theorem val_word {w : Str} {t : V} : valV ([(Sum.inr ("word" : Str), V.str w), (Sum.inr ("parts" : Str), t)] : List (Key × V)) (Sum.inr ("word" : Str)) = some (V.str w) := by rfl
theorem val_parts {w : V} {t : V} : valV ([(Sum.inr ("word" : Str), w), (Sum.inr ("parts" : Str), t)] : List (Key × V)) (Sum.inr ("parts" : Str)) = some t := by rfl
def spPW (n : Nat) : Sp := fun vs H Q _ => ∃ (d : D) (v : V), vs = [v] ∧ Pl H d v ∧ d.Fine ∧ d.fd ≤ n ∧ d.sz ≤ 1000 ∧ d.words.length ≤ 10000 ∧ ∀ q H', H q = none → Same H H' → H' q = some (.lst (d.words.map V.str)) → Q (.ref q) H'
theorem wordsL_get : ∀ {ds : List D} {i : Nat} {d : D}, ds[i]? = some d → d.words.length ≤ (wordsL ds).length
  | [], i, d, e => by simp at e
  | x :: ds, 0, d, e => by
    have e : x = d := by simpa using e
    rw [← e]
    show _ ≤ (x.words ++ wordsL ds).length
    rw [List.length_append]
    omega
  | x :: ds, i + 1, d, e => by
    have h := wordsL_get (i := i) (show ds[i]? = some d by simpa using e)
    show _ ≤ (x.words ++ wordsL ds).length
    rw [List.length_append]
    omega
section
variable {w : World} {K : PySem.W.Frag} {mg : Str → Option Value} {base : Heap}
theorem ok_pw0 (T : Ctx K mg) : FnOk PW w K mg base CX0 1 r_lx_plain_words.at_ (fdOf K r_lx_plain_words.at_) P_lx_plain_words (spPW 0) := by
  have F := T.fun_ r_lx_plain_words m_lx_plain_words
  refine F.ok sc_lx_plain_words (fun vs H Q E h => ?_) (fun cdv A outer s H vs Q E hr h => ⟨_, pss_cons (ps_if (pt_cmpR op_isN (pv 0) pe_non (nomark _)) (pss_one (ps_ret (pe_lst (pa_cons pe_str pa_nil)))) pss_nil)
    (pss_cons (ps_if (pt_val (pe_callB call_isi rfl T.free (by decide +kernel) (pa_cons (pv 0) (pa_cons (pe_bltn (v := .ty "int") rfl T.free (by decide +kernel) rfl) pa_nil)))) (pss_one (ps_ret (pe_lst (pa_cons (pe_callTy call_str_int rfl T.free (by decide +kernel) (pa_cons (pv 0) pa_nil)) pa_nil)))) pss_nil)
    (pss_cons (ps_if (pt_val (pe_callB call_isi rfl T.free (by decide +kernel) (pa_cons (pv 0) (pa_cons (pe_bltn (v := .ty "str") rfl T.free (by decide +kernel) rfl) pa_nil)))) (pss_one (ps_ret (pe_lst (pa_cons (pe_op op_add_str pe_str (pv 0)) pa_nil)))) pss_nil)
    pss_never)), ?_⟩)
  · obtain ⟨d, v, rfl, _⟩ := h
    rfl
  · obtain ⟨d, v, rfl, hp, hf, hn, hz, hw, k⟩ := h
    refine ⟨_, rfl, rfl, _, rfl, ?_⟩
    cases d with
    | bl b => exact hp.elim
    | dct => exact hp.elim
    | tup ds => exact absurd hn (Nat.not_succ_le_zero _)
    | pap wd ds => exact absurd hn (Nat.not_succ_le_zero _)
    | non =>
      obtain rfl : v = .non := hp
      exact decT rfl ⟨by show 1 ≤ sizeLine; decide, fun q hq => k q _ hq (same_new hq) upd_same⟩
    | int i =>
      obtain rfl : v = .int i := hp
      have hf : i.natAbs < 10 ^ 100 := hf
      refine decF (fun z => by cases z) ?_
      refine ⟨_, rfl, .int i, .ty "int", .type "int", _, true, rfl, .ty _, .base (.int i), kit_ty (by decide +kernel), _, rfl, iteT ?_⟩
      exact ⟨_, rfl, i, rfl, pow_small hf, by show 1 ≤ sizeLine; decide, fun q hq => k q _ hq (same_new hq) upd_same⟩
    | str z =>
      obtain rfl : v = .str z := hp
      have hf : z.length ≤ 1000 := hf
      refine decF (fun z => by cases z) ?_
      refine ⟨_, rfl, .str z, .ty "int", .type "str", _, false, rfl, .ty _, .base (.str z), kit_ty (by decide +kernel), _, rfl, iteF ?_⟩
      refine ⟨_, rfl, .str z, .ty "str", .type "str", _, true, rfl, .ty _, .base (.str z), kit_ty (by decide +kernel), _, rfl, iteT ?_⟩
      exact ⟨_, rfl, wE, z, rfl, rfl, Nat.le_trans (Nat.add_le_add_left hf _) (by decide +kernel), by show 1 ≤ sizeLine; decide, fun q hq => k q _ hq (same_new hq) upd_same⟩
theorem ok_pw1 (T : Ctx K mg) (n : Nat) (hi : FnOk PW w K mg base CX0 (n + 1) r_lx_plain_words.at_ (fdOf K r_lx_plain_words.at_) P_lx_plain_words (spPW n)) : FnOk PW w K mg base CX0 (n + 2) r_lx_plain_words.at_ (fdOf K r_lx_plain_words.at_) P_lx_plain_words (spPW (n + 1)) := by
  have F := T.fun_ r_lx_plain_words m_lx_plain_words
  have bp : Binds K (fdOf K r_lx_plain_words.at_) P_lx_plain_words [] := F.binds fun _ _ _ _ _ _ us hl => match us, hl with | [_], _ => rfl
  refine F.ok sc_lx_plain_words (fun vs H Q E h => ?_) (fun cdv A outer s H vs Q E hr h => ⟨_, pss_cons (ps_if (pt_cmpR op_isN (pv 0) pe_non (nomark _)) (pss_one (ps_ret (pe_lst (pa_cons pe_str pa_nil)))) pss_nil)
    (pss_cons (ps_if (pt_val (pe_callB call_isi rfl T.free (by decide +kernel) (pa_cons (pv 0) (pa_cons (pe_bltn (v := .ty "int") rfl T.free (by decide +kernel) rfl) pa_nil)))) (pss_one (ps_ret (pe_lst (pa_cons (pe_callTy call_str_int rfl T.free (by decide +kernel) (pa_cons (pv 0) pa_nil)) pa_nil)))) pss_nil)
    (pss_cons (ps_if (pt_val (pe_callB call_isi rfl T.free (by decide +kernel) (pa_cons (pv 0) (pa_cons (pe_bltn (v := .ty "str") rfl T.free (by decide +kernel) rfl) pa_nil)))) (pss_one (ps_ret (pe_lst (pa_cons (pe_op op_add_str pe_str (pv 0)) pa_nil)))) pss_nil)
    (pss_cons (ps_if (pt_val (pe_callB call_isi rfl T.free (by decide +kernel) (pa_cons (pv 0) (pa_cons (pe_bltn (v := .ty "dict") rfl T.free (by decide +kernel) rfl) pa_nil))))
        (pss_one (ps_ret (pe_op op_cat (pe_op op_cat (pe_lst (pa_cons (pe_dget (hu_of hr) (pv 0) pe_str (fun _ _ => rfl)) (pa_cons pe_str pa_nil))) (pe_callB (call_sumLists rfl) rfl T.free (by decide +kernel) (pa_cons
          (pe_lc (own := [("one", 1)]) (g := gName 1) (tt := tYes) rfl sc_lx_plain_words.nd (pi_tup (pe_dget (hu_of hr) (pv 0) pe_str (fun _ _ => rfl))) (blkOk_by (N := N_lx_plain_words) (sc := defScope s_lx_plain_words) (by decide +kernel)) (fun _ _ _ _ _ => pg_name (i := 1) sc_lx_plain_words.nd rfl (Or.inl rfl)) (fun _ _ _ _ _ => pts_nil)
            (fun _ _ _ _ _ => pe_call hi hr rfl T.glo F.kp bp .nil pass0 (pa_cons (pv 1) pa_nil))) (pa_cons (pe_lst pa_nil) pa_nil)))) (pe_lst (pa_cons pe_str pa_nil))))) pss_nil)
    (pss_one (ps_ret (pe_op op_cat (pe_op op_cat (pe_lst (pa_cons pe_str pa_nil)) (pe_callB (call_sumLists rfl) rfl T.free (by decide +kernel) (pa_cons
          (pe_lc (own := [("one", 1)]) (g := gName 1) (tt := tYes) rfl sc_lx_plain_words.nd (pi_tup (pv 0)) (blkOk_by (N := N_lx_plain_words) (sc := defScope s_lx_plain_words) (by decide +kernel)) (fun _ _ _ _ _ => pg_name (i := 1) sc_lx_plain_words.nd rfl (Or.inl rfl)) (fun _ _ _ _ _ => pts_nil)
            (fun _ _ _ _ _ => pe_call hi hr rfl T.glo F.kp bp .nil pass0 (pa_cons (pv 1) pa_nil))) (pa_cons (pe_lst pa_nil) pa_nil)))) (pe_lst (pa_cons pe_str pa_nil)))))))), ?_⟩)
  · obtain ⟨d, v, rfl, _⟩ := h
    rfl
  · obtain ⟨d, v, rfl, hp, hf, hn, hz, hw, k⟩ := h
    refine ⟨_, rfl, rfl, _, rfl, ?_⟩
    cases d with
    | bl b => exact hp.elim
    | dct => exact hp.elim
    | non =>
      obtain rfl : v = .non := hp
      exact decT rfl ⟨by show 1 ≤ sizeLine; decide, fun q hq => k q _ hq (same_new hq) upd_same⟩
    | int i =>
      obtain rfl : v = .int i := hp
      have hf : i.natAbs < 10 ^ 100 := hf
      refine decF (fun z => by cases z) ?_
      refine ⟨_, rfl, .int i, .ty "int", .type "int", _, true, rfl, .ty _, .base (.int i), kit_ty (by decide +kernel), _, rfl, iteT ?_⟩
      exact ⟨_, rfl, i, rfl, pow_small hf, by show 1 ≤ sizeLine; decide, fun q hq => k q _ hq (same_new hq) upd_same⟩
    | str z =>
      obtain rfl : v = .str z := hp
      have hf : z.length ≤ 1000 := hf
      refine decF (fun z => by cases z) ?_
      refine ⟨_, rfl, .str z, .ty "int", .type "str", _, false, rfl, .ty _, .base (.str z), kit_ty (by decide +kernel), _, rfl, iteF ?_⟩
      refine ⟨_, rfl, .str z, .ty "str", .type "str", _, true, rfl, .ty _, .base (.str z), kit_ty (by decide +kernel), _, rfl, iteT ?_⟩
      exact ⟨_, rfl, wE, z, rfl, rfl, Nat.le_trans (Nat.add_le_add_left hf _) (by decide +kernel), by show 1 ≤ sizeLine; decide, fun q hq => k q _ hq (same_new hq) upd_same⟩
    | tup ds =>
      obtain ⟨a, vs, rfl, ea, hl⟩ := hp
      have hff : FineL ds := hf
      have hn' : fdL ds ≤ n := Nat.le_of_succ_le_succ hn
      have hz' : szL ds + 1 ≤ 1000 := hz
      have hw' : (wO :: (wordsL ds ++ [wC])).length ≤ 10000 := hw
      rw [List.length_cons, List.length_append, List.length_singleton] at hw'
      have hlen := PlL.len hl
      have hln := len_szL ds
      refine decF (fun z => by cases z) ?_
      refine ⟨_, rfl, .ref a, .ty "int", .type "tuple", _, false, rfl, .ty _, .base (.tup ea), kit_ty (by decide +kernel), _, rfl, iteF ?_⟩
      refine ⟨_, rfl, .ref a, .ty "str", .type "tuple", _, false, rfl, .ty _, .base (.tup ea), kit_ty (by decide +kernel), _, rfl, iteF ?_⟩
      refine ⟨_, rfl, .ref a, .ty "dict", .type "tuple", _, false, rfl, .ty _, .base (.tup ea), kit_ty (by decide +kernel), _, rfl, iteF ?_⟩
      refine ⟨by show 1 ≤ sizeLine; decide, fun l1 hl1 => ?_⟩
      have s1 := same_new (o := .lst [V.str ("(" : Str)]) hl1
      refine sum_read (K := K) (j := 1) (a := a) (vs := vs) (ds := ds) (fun R hR => ⟨_, rfl, a, rfl, ⟨_, SqT.of (s1 _ _ ea)⟩, hR⟩) (fun _ => rfl) (s1 _ _ ea) (PlL.mono (Kpt.of s1) _ _ hl) (by omega) (by omega) (fun i d v G R hd hpl hR => ?_) (fun q G hq sm hG => ?_)
      · have hd1 := wordsL_get hd
        exact ⟨_, rfl, d, v, rfl, hpl, FineL.get hff d (List.mem_of_getElem? hd), Nat.le_trans (fdL_get hd) hn', Nat.le_trans (szL_get hd) (by omega), by omega, hR⟩
      · have hlw : ((wordsL ds).map V.str).length = (wordsL ds).length := List.length_map _
        refine ⟨l1, q, _, _, rfl, rfl, sm _ _ upd_same, hG, by rw [hlw]; exact Nat.le_trans (show 1 + (wordsL ds).length ≤ 10001 by omega) (by decide), fun p hp => ?_⟩
        refine ⟨by show 1 ≤ sizeLine; decide, fun l2 hl2 => ⟨p, l2, _, _, rfl, rfl, same_new hl2 _ _ upd_same, upd_same, ?_, fun r hr => ?_⟩⟩
        · rw [List.length_append, hlw]
          exact Nat.le_trans (show 1 + (wordsL ds).length + 1 ≤ 10002 by omega) (by decide)
        · have ss := ((s1.trans sm).trans (same_new (o := .lst ([V.str ("(" : Str)] ++ (wordsL ds).map V.str)) hp)).trans (same_new (o := .lst [V.str (")" : Str)]) hl2)
          refine k r _ (none_of ss hr) (ss.trans (same_new hr)) ?_
          rw [upd_same]
          show some (HO.lst (V.str ("(" : Str) :: (((wordsL ds).map V.str) ++ [V.str (")" : Str)]))) = some (HO.lst (V.str wO :: ((wordsL ds ++ [wC]).map V.str)))
          rw [List.map_append]
          rfl
    | pap wd ds =>
      obtain ⟨a, t, vs, rfl, ea, et, hl⟩ := hp
      have hff : FineL ds := hf
      have hn' : fdL ds ≤ n := Nat.le_of_succ_le_succ hn
      have hz' : szL ds + 1 ≤ 1000 := hz
      have hw' : (wd :: wO :: (wordsL ds ++ [wC])).length ≤ 10000 := hw
      rw [List.length_cons, List.length_cons, List.length_append, List.length_singleton] at hw'
      have hlen := PlL.len hl
      have hln := len_szL ds
      refine decF (fun z => by cases z) ?_
      refine ⟨_, rfl, .ref a, .ty "int", .type "dict", _, false, rfl, .ty _, .base (.dK ea), kit_ty (by decide +kernel), _, rfl, iteF ?_⟩
      refine ⟨_, rfl, .ref a, .ty "str", .type "dict", _, false, rfl, .ty _, .base (.dK ea), kit_ty (by decide +kernel), _, rfl, iteF ?_⟩
      refine ⟨_, rfl, .ref a, .ty "dict", .type "dict", _, true, rfl, .ty _, .base (.dK ea), kit_ty (by decide +kernel), _, rfl, iteT ?_⟩
      refine ⟨_, rfl, a, V.str wd, rfl, (by rw [← val_word (t := V.ref t)]; exact DGet.k (k := Sum.inr ("word" : Str)) ea), by show 2 ≤ sizeLine; decide, fun l1 hl1 => ?_⟩
      have s1 := same_new (o := .lst [V.str wd, V.str ("(" : Str)]) hl1
      refine sum_read (K := K) (j := 1) (a := t) (vs := vs) (ds := ds) (fun R hR => ⟨_, rfl, a, V.ref t, rfl, (by rw [← val_parts (w := V.str wd)]; exact DGet.k (k := Sum.inr ("parts" : Str)) (s1 _ _ ea)), t, rfl, ⟨_, SqT.of (s1 _ _ et)⟩, hR⟩) (fun _ => rfl) (s1 _ _ et) (PlL.mono (Kpt.of s1) _ _ hl) (by omega) (by omega) (fun i d v G R hd hpl hR => ?_) (fun q G hq sm hG => ?_)
      · have hd1 := wordsL_get hd
        exact ⟨_, rfl, d, v, rfl, hpl, FineL.get hff d (List.mem_of_getElem? hd), Nat.le_trans (fdL_get hd) hn', Nat.le_trans (szL_get hd) (by omega), by omega, hR⟩
      · have hlw : ((wordsL ds).map V.str).length = (wordsL ds).length := List.length_map _
        refine ⟨l1, q, _, _, rfl, rfl, sm _ _ upd_same, hG, by rw [hlw]; exact Nat.le_trans (show 2 + (wordsL ds).length ≤ 10002 by omega) (by decide), fun p hp => ?_⟩
        refine ⟨by show 1 ≤ sizeLine; decide, fun l2 hl2 => ⟨p, l2, _, _, rfl, rfl, same_new hl2 _ _ upd_same, upd_same, ?_, fun r hr => ?_⟩⟩
        · rw [List.length_append, hlw]
          exact Nat.le_trans (show 2 + (wordsL ds).length + 1 ≤ 10003 by omega) (by decide)
        · have ss := ((s1.trans sm).trans (same_new (o := .lst ([V.str wd, V.str ("(" : Str)] ++ (wordsL ds).map V.str)) hp)).trans (same_new (o := .lst [V.str (")" : Str)]) hl2)
          refine k r _ (none_of ss hr) (ss.trans (same_new hr)) ?_
          rw [upd_same]
          show some (HO.lst (V.str wd :: V.str ("(" : Str) :: (((wordsL ds).map V.str) ++ [V.str (")" : Str)]))) = some (HO.lst (V.str wd :: V.str wO :: ((wordsL ds ++ [wC]).map V.str)))
          rw [List.map_append]
          rfl
theorem ok_pw (T : Ctx K mg) : ∀ n, FnOk PW w K mg base CX0 (n + 1) r_lx_plain_words.at_ (fdOf K r_lx_plain_words.at_) P_lx_plain_words (spPW n)
  | 0 => ok_pw0 T
  | n + 1 => ok_pw1 T n (ok_pw T n)
end
end K91
set_option Elab.async false
set_option linter.all false
set_option maxRecDepth 100000
set_option maxHeartbeats 4000000
/-! K91, AR: _law_tx_paper_bad. -/
namespace K91
open PySem PySem.Spec PyProof.Rows L2
def capV : Option Nat → V
  | none => .non
  | some n => .int (n : Int)
def oI : Option Nat → V
  | none => .non
  | some n => .int (n : Int)
def wV : Option Str → V
  | none => .non
  | some x => .str x
def tpV : List Addr → V
  | [] => .non
  | a :: _ => .ref a
/-- the law's line on the heap, the top first -/
def RepB (G : Hp) : List LF → List Addr → Prop
  | [], as => as = []
  | (c, k) :: r, as => ∃ a as', as = a :: as' ∧ G a = some (.lst [capV c, .int (k : Int)]) ∧ RepB G r as'
theorem RepB.mono {G G' : Hp} : ∀ {line : List LF} {as : List Addr}, (∀ a ∈ as, ∀ o, G a = some o → G' a = some o) → RepB G line as → RepB G' line as
  | [], _, _, e => e
  | (c, k) :: r, _, h, ⟨a, as', e, e1, q⟩ => by
    subst e
    exact ⟨a, as', rfl, h _ List.mem_cons_self _ e1, RepB.mono (fun x hx => h x (List.mem_cons_of_mem _ hx)) q⟩
theorem RepB.len {G : Hp} : ∀ {line : List LF} {as : List Addr}, RepB G line as → as.length = line.length
  | [], _, e => by
    have e : _ = [] := e
    rw [e] <;> rfl
  | (c, k) :: r, _, ⟨a, as', e, _, q⟩ => by rw [e, List.length_cons, List.length_cons, RepB.len q]
theorem if_readS {c : TT} {ta tb : TE} {σ : L2.St} {H : Hp} {Q : VK} {b : Bool} {y : V} (hc : ∀ R : Bool → Hp → Prop, (∀ G, Same H G → R b G) → c σ H R) (ht : b = true → ∀ G, Same H G → ∀ R : V → Hp → Prop, R y G → ta σ G R) (hf : b = false → ∀ G, Same H G → ∀ R : V → Hp → Prop, R y G → tb σ G R)
    (k : ∀ G, Same H G → Q y G) : tIf c ta tb σ H Q := by
  refine hc _ fun G s => ?_
  cases b with
  | true => exact iteT (ht rfl G s _ (k G s))
  | false => exact iteF (hf rfl G s _ (k G s))
theorem cut_but (xs : List V) : cutV xs none (some (-1)) = xs.dropLast := by
  unfold cutV
  have e : HT.sIx xs.length xs.length (some (-1)) = xs.length - 1 := by
    unfold HT.sIx
    simp
    omega
  rw [HT.sIx_none, e, List.drop_zero, Nat.sub_zero, List.dropLast_eq_take]
theorem or_readC {tA tB : TT} {σ : L2.St} {G : Hp} {Q : Bool → Hp → Prop} {p wh : Bool} (hA : ∀ R : Bool → Hp → Prop, R p G → tA σ G R) (hB : p = false → ∀ R : Bool → Hp → Prop, R wh G → tB σ G R) (k : Q (p || wh) G) : tOr tA tB σ G Q := by
  refine hA _ ?_
  cases p with
  | true => exact iteT k
  | false => exact iteF (hB rfl _ (by rw [Bool.false_or] at k; exact k))
theorem asg_read {te : TE} {g : TG} {D : Ends} {σ : L2.St} {H : Hp} {y : V} (h : ∀ R : V → Hp → Prop, R y H → te σ H R) (k : g y σ H D.nx) : tAsg te g D σ H := h _ k
theorem RepB.there {G : Hp} : ∀ {line : List LF} {as : List Addr}, RepB G line as → ∀ a ∈ as, ∃ o, G a = some o
  | [], _, e, a, ha => by
    have e : _ = [] := e
    rw [e] at ha
    exact absurd ha List.not_mem_nil
  | (c, k) :: r, _, ⟨a, as', e, e1, q⟩, x, hx => by
    rw [e] at hx
    rcases List.mem_cons.mp hx with hx | hx
    · rw [hx]; exact ⟨_, e1⟩
    · exact RepB.there q x hx
def roomL : List LF → Bool
  | [] => true
  | (c, n) :: _ => roomN c n
section
variable {ws : List Str} {line rest : List LF} {i n : Nat} {w : Str} {c : Option Nat}
theorem sb_none (h : ws[i]? = none) (h2 : ¬ (line = [] ∧ 0 < i)) : stepB ws line i = .ret (some i) := by
  unfold stepB
  rw [h]
  cases line with
  | nil =>
    show (if i > 0 then _ else _) = _
    rw [if_neg (fun z => h2 ⟨rfl, z⟩)]
  | cons p r => rfl
theorem sb_done0 (h : ws[i]? = none) (hi : 0 < i) : stepB ws [] i = .ret none := by
  unfold stepB
  rw [h]
  show (if i > 0 then _ else _) = _
  rw [if_pos hi]
theorem sb_done1 (h : ws[i]? = some w) (hi : 0 < i) : stepB ws [] i = .ret (some i) := by
  unfold stepB
  rw [h]
  show (if i > 0 then _ else _) = _
  rw [if_pos hi]
theorem sb_open (h : ws[i]? = some w) (hn : (cnt w).isSome = true) (hr : roomL line = true) (h2 : ¬ (line = [] ∧ 0 < i)) : stepB ws line i = if ws[i + 1]? = some wO then .go ((cnt w, 0) :: line) (i + 2) else .ret (some (i + 1)) := by
  unfold stepB
  rw [h]
  cases line with
  | nil =>
    show (if i > 0 then _ else if (cnt w).isSome = true then _ else _) = _
    rw [if_neg (fun z => h2 ⟨rfl, z⟩), if_pos hn]
  | cons p r =>
    obtain ⟨c, k⟩ := p
    have hr : roomN c k = true := hr
    show (if (cnt w).isSome = true ∧ roomN c k = true then _ else _) = _
    rw [if_pos ⟨hn, hr⟩]
theorem sb_nil (h : ws[i]? = some w) (hn : ¬ (cnt w).isSome = true) (h2 : ¬ 0 < i) : stepB ws [] i = .ret (some i) := by
  unfold stepB
  rw [h]
  show (if i > 0 then _ else if (cnt w).isSome = true then _ else _) = _
  rw [if_neg h2, if_neg hn]
theorem sb_shut (h : ws[i]? = some w) (ho : ¬ ((cnt w).isSome = true ∧ roomN c n = true)) (hs : w = wC ∧ wholeN c n = true) : stepB ws ((c, n) :: rest) i = .go (match rest with
        | [] => []
        | (c', k') :: r => (c', k' + 1) :: r) (i + 1) := by
  unfold stepB
  rw [h]
  show (if (cnt w).isSome = true ∧ roomN c n = true then _ else if w = wC ∧ wholeN c n = true then _ else _) = _
  rw [if_neg ho, if_pos hs]
  all_goals (cases rest <;> rfl)
theorem sb_row (h : ws[i]? = some w) (ho : ¬ ((cnt w).isSome = true ∧ roomN c n = true)) (hs : ¬ (w = wC ∧ wholeN c n = true)) (hr : roomN c n = true ∧ w = wO) : stepB ws ((c, n) :: rest) i = .go ((none, 0) :: (c, n) :: rest) (i + 1) := by
  unfold stepB
  rw [h]
  show (if (cnt w).isSome = true ∧ roomN c n = true then _ else if w = wC ∧ wholeN c n = true then _ else if roomN c n = true ∧ w = wO then _ else _) = _
  rw [if_neg ho, if_neg hs, if_pos hr]
theorem sb_leaf (h : ws[i]? = some w) (ho : ¬ ((cnt w).isSome = true ∧ roomN c n = true)) (hs : ¬ (w = wC ∧ wholeN c n = true)) (hr : ¬ (roomN c n = true ∧ w = wO)) (hl : roomN c n = true ∧ isPlain w = true) : stepB ws ((c, n) :: rest) i = .go ((c, n + 1) :: rest) (i + 1) := by
  unfold stepB
  rw [h]
  show (if (cnt w).isSome = true ∧ roomN c n = true then _ else if w = wC ∧ wholeN c n = true then _ else if roomN c n = true ∧ w = wO then _ else if roomN c n = true ∧ isPlain w = true then _ else _) = _
  rw [if_neg ho, if_neg hs, if_neg hr, if_pos hl]
theorem sb_else (h : ws[i]? = some w) (ho : ¬ ((cnt w).isSome = true ∧ roomN c n = true)) (hs : ¬ (w = wC ∧ wholeN c n = true)) (hr : ¬ (roomN c n = true ∧ w = wO)) (hl : ¬ (roomN c n = true ∧ isPlain w = true)) : stepB ws ((c, n) :: rest) i = .ret (some i) := by
  unfold stepB
  rw [h]
  show (if (cnt w).isSome = true ∧ roomN c n = true then _ else if w = wC ∧ wholeN c n = true then _ else if roomN c n = true ∧ w = wO then _ else if roomN c n = true ∧ isPlain w = true then _ else _) = _
  rw [if_neg ho, if_neg hs, if_neg hr, if_neg hl]
end
theorem iteNF {c A B : Prop} [Decidable c] (hc : c) (h : B) : if (!decide c) = true then A else B := by
  rw [decide_eq_true hc]
  exact iteF h
/-- one more on the line -/
theorem push_ok {H0 G : Hp} {line : List LF} {as : List Addr} {L b lb L' : Addr} {c : Option Nat} {xs ys : List V} (hB : RepB G line as) (hnd : as.Nodup) (hfr : ∀ a ∈ as, H0 a = none) (sm : Same H0 G) (hb : G b = none) (hlb : upd G b (.lst [capV c, .int ((0 : Nat) : Int)]) lb = none)
    (hL' : upd (upd G b (.lst [capV c, .int ((0 : Nat) : Int)])) lb (.lst xs) L' = none) : RepB (upd (upd (upd G b (.lst [capV c, .int ((0 : Nat) : Int)])) lb (.lst xs)) L' (.lst ys)) ((c, 0) :: line) (b :: as) ∧ (b :: as).Nodup ∧ (∀ a ∈ b :: as, H0 a = none) ∧ L' ∉ b :: as ∧
    Same H0 (upd (upd (upd G b (.lst [capV c, .int ((0 : Nat) : Int)])) lb (.lst xs)) L' (.lst ys)) := by
  have s1 := same_new (o := .lst [capV c, .int ((0 : Nat) : Int)]) hb
  have s2 := same_new (o := .lst xs) hlb
  have s3 := same_new (o := .lst ys) hL'
  have s := (s1.trans s2).trans s3
  have hth := hB.there
  have hbb : upd (upd G b (.lst [capV c, .int ((0 : Nat) : Int)])) lb (.lst xs) b = some (.lst [capV c, .int ((0 : Nat) : Int)]) := s2 _ _ upd_same
  refine ⟨⟨b, as, rfl, s3 _ _ hbb, RepB.mono (fun a _ o e => s a o e) hB⟩, List.nodup_cons.mpr ⟨fun hm => ?_, hnd⟩, fun a ha => ?_, fun hm => ?_, sm.trans s⟩
  · obtain ⟨o, ho⟩ := hth b hm
    rw [hb] at ho
    cases ho
  · rcases List.mem_cons.mp ha with ha | ha
    · rw [ha]; exact none_of sm hb
    · exact hfr a ha
  · rcases List.mem_cons.mp hm with hm | hm
    · rw [hm, hbb] at hL'
      cases hL'
    · obtain ⟨o, ho⟩ := hth L' hm
      rw [s2 _ _ (s1 _ _ ho)] at hL'
      cases hL'
theorem rev_snoc {as : List Addr} {b : Addr} : (as.map V.ref).reverse ++ [V.ref b] = ((b :: as).map V.ref).reverse := by
  rw [List.map_cons, List.reverse_cons]
/-- the loop's state -/
def BInv (H0 : Hp) (ws : List Str) (wl cd : Addr) (turn : Nat) (σ : L2.St) (G : Hp) : Prop := ∃ (line : List LF) (as : List Addr) (L : Addr) (i : Nat) (o4 o5 o6 o7 : Option V),
  σ = [some (.ref wl), some (.ref cd), some (.ref L), some (.int (i : Int)), o4, o5, o6, o7] ∧ G L = some (.lst (as.map V.ref).reverse) ∧ RepB G line as ∧ as.Nodup ∧ (∀ a ∈ as, H0 a = none) ∧ L ∉ as ∧ Same H0 G ∧ line.length ≤ turn ∧ runB ws (ws.length + 1 - turn) line i = badW ws ∧ i ≤ 2 * turn
def spBad : Sp := fun vs H Q _ => ∃ (wl : Addr) (ws : List Str), vs = [.ref wl] ∧ H wl = some (.lst (ws.map V.str)) ∧ ws.length ≤ 1000 ∧ (∀ x ∈ ws, x.length ≤ 1000) ∧ ∀ H', Same H H' → Q (oI (badW ws)) H'
section
variable {w : World} {K : PySem.W.Frag} {mg : Str → Option Value} {base : Heap}
theorem ok_bad (T : Ctx K mg) : FnOk PW w K mg base CX0 2 r_lx_paper_bad.at_ (fdOf K r_lx_paper_bad.at_) P_lx_paper_bad spBad := by
  have F := T.fun_ r_lx_paper_bad m_lx_paper_bad
  have Fc := T.fun_ r_lx_counts m_lx_counts
  have Fl := T.fun_ r_lx_is_leaf m_lx_is_leaf
  have bc : Binds K (fdOf K r_lx_counts.at_) P_lx_counts [] := Fc.binds fun _ _ _ _ _ _ us hl => match us, hl with | [], _ => rfl
  have bl : Binds K (fdOf K r_lx_is_leaf.at_) P_lx_is_leaf [] := Fl.binds fun _ _ _ _ _ _ us hl => match us, hl with | [_], _ => rfl
  have nd := sc_lx_paper_bad.nd
  refine F.ok sc_lx_paper_bad (fun vs H Q E h => ?_) (fun cdv A outer s H vs Q E hr h => ⟨_, pss_cons (ps_par3 (i := 1) (j := 2) (l := 3) rfl nd rfl rfl rfl (by decide) (by decide) (by decide) rfl rfl rfl (pa_cons (pe_call0 (ok_lx_counts T) (hr.mono (by decide)) rfl T.glo Fc.kp bc .nil pass0) (pa_cons (pe_lst pa_nil) (pa_cons pe_int pa_nil))) rfl)
    (pss_cons (ps_for PassesOwn.never rfl (pi_range1 rfl T.free (pa_cons (pe_op op_add (pe_callB call_len rfl T.free (by decide +kernel) (pa_cons (pv 0) pa_nil)) pe_int) pa_nil)) (pg_name (i := 4) nd rfl (Or.inl rfl))
      (pss_cons (ps_par (i := 5) (j := 6) rfl nd rfl rfl (by decide) rfl rfl (pa_cons (pe_ifExp (pt_cmpR op_lt (pv 3) (pe_callB call_len rfl T.free (by decide +kernel) (pa_cons (pv 0) pa_nil)) (nomark _)) (pe_ix ix_list (pv 0) (pv 3) (fun _ _ => rfl)) pe_non)
          (pa_cons (pe_ifExp (pt_cmpR (op_neE (Nat.lt_of_succ_lt (hu_of hr))) (pv 2) (pe_lst pa_nil) (nomark _)) (pe_ix ix_list (pv 2) (pe_un un_neg pe_int) (fun _ _ => rfl)) pe_non) pa_nil)) rfl)
      (pss_cons (ps_if (PW.pt (pw_and (pt_cmpR op_isN (pv 6) pe_non (nomark _)) (pw_and1 (pt_cmpR op_gt (pv 3) pe_int (nomark _))))) (pss_one (ps_ret (pe_ifExp (pt_cmpR op_notN (pv 5) pe_non (nomark _)) (pv 3) pe_non))) pss_nil)
      (pss_cons (ps_if (pt_cmpR op_isN (pv 5) pe_non (nomark _)) (pss_one (ps_ret (pv 3))) pss_nil)
      (pss_cons (ps_asg (pe_or (pe_cmpR op_isN (pv 6) pe_non (nomark _)) (pe_or (pe_cmpR op_isN (pe_ix ix_list (pv 6) pe_int (fun _ _ => rfl)) pe_non (nomark _)) (pe_one (pe_cmpR op_lt (pe_ix ix_list (pv 6) pe_int (fun _ _ => rfl)) (pe_ix ix_list (pv 6) pe_int (fun _ _ => rfl)) (nomark _))))) (pg_name (i := 7) nd rfl (Or.inl rfl)))
      (pss_one (ps_if (PW.pt (pw_and (pt_cmp (pc_din (hu_of hr) (pv 5) (pv 1))) (pw_and1 (pt_val (pv 7)))))
        (pss_cons (ps_if (PW.pt (pw_or (pt_cmpR op_ge (pe_op op_add (pv 3) pe_int) (pe_callB call_len rfl T.free (by decide +kernel) (pa_cons (pv 0) pa_nil)) (nomark _)) (pw_or1 (pt_cmpR op_ne (pe_ix ix_list (pv 0) (pe_op op_add (pv 3) pe_int) (fun _ _ => rfl)) pe_str (nomark _))))) (pss_one (ps_ret (pe_op op_add (pv 3) pe_int))) pss_nil)
          (pss_one (ps_par (i := 2) (j := 3) rfl nd rfl rfl (by decide) rfl rfl (pa_cons (pe_op op_cat (pv 2) (pe_lst (pa_cons (pe_lst (pa_cons (pe_dget (hu_of hr) (pv 1) (pv 5) (fun _ _ => rfl)) (pa_cons pe_int pa_nil))) pa_nil))) (pa_cons (pe_op op_add (pv 3) pe_int) pa_nil)) rfl)))
        (pss_one (ps_if (pt_cmpR op_isN (pv 6) pe_non (nomark _)) (pss_one (ps_ret (pv 3)))
        (pss_one (ps_if (PW.pt (pw_and (pt_cmpR op_eq (pv 5) pe_str (nomark _)) (pw_and1 (PW.pt (pw_or (pt_cmpR op_isN (pe_ix ix_list (pv 6) pe_int (fun _ _ => rfl)) pe_non (nomark _)) (pw_or1 (pt_cmpR op_eq (pe_ix ix_list (pv 6) pe_int (fun _ _ => rfl)) (pe_ix ix_list (pv 6) pe_int (fun _ _ => rfl)) (nomark _))))))))
          (pss_cons (ps_par (i := 2) (j := 3) rfl nd rfl rfl (by decide) rfl rfl (pa_cons (pe_slice sl_list (pv 2) po_none (po_some (pe_un un_neg pe_int))) (pa_cons (pe_op op_add (pv 3) pe_int) pa_nil)) rfl)
            (pss_one (ps_if (pt_cmpR (op_neE (Nat.lt_of_succ_lt (hu_of hr))) (pv 2) (pe_lst pa_nil) (nomark _)) (pss_one (ps_asg (pe_op op_add (pe_ix ix_list (pe_ix ix_list (pv 2) (pe_un un_neg pe_int) (fun _ _ => rfl)) pe_int (fun _ _ => rfl)) pe_int) (pg_sub (pe_ix ix_list (pv 2) (pe_un un_neg pe_int) (fun _ _ => rfl)) pe_int set_list))) pss_nil)))
        (pss_one (ps_if (PW.pt (pw_and (pt_val (pv 7)) (pw_and1 (pt_cmpR op_eq (pv 5) pe_str (nomark _)))))
          (pss_one (ps_par (i := 2) (j := 3) rfl nd rfl rfl (by decide) rfl rfl (pa_cons (pe_op op_cat (pv 2) (pe_lst (pa_cons (pe_lst (pa_cons pe_non (pa_cons pe_int pa_nil))) pa_nil))) (pa_cons (pe_op op_add (pv 3) pe_int) pa_nil)) rfl))
        (pss_one (ps_if (PW.pt (pw_and (pt_val (pv 7)) (pw_and1 (pt_val (pe_call (ok_leaf T) (hr.mono (by decide)) rfl T.glo Fl.kp bl .nil pass0 (pa_cons (pv 5) pa_nil))))))
          (pss_one (ps_asg (pe_tup (pa_cons (pe_op op_add (pe_ix ix_list (pv 6) pe_int (fun _ _ => rfl)) pe_int) (pa_cons (pe_op op_add (pv 3) pe_int) pa_nil))) (pg_tup rfl (pgs_cons (pg_sub (pv 6) pe_int set_list) (pgs_cons (pg_name (i := 3) nd rfl (Or.inl rfl)) pgs_nil)))))
          (pss_one (ps_ret (pv 3))))))))))))))))))
    (pss_one (ps_ret (pv 3)))), ?_⟩)
  · obtain ⟨wl, ws, rfl, _⟩ := h
    rfl
  · obtain ⟨wl, ws, rfl, hW, hws, hxs, k⟩ := h
    refine ⟨rfl, fun cd H1 hcd sm1 hc => ⟨by show 0 ≤ sizeLine; decide, fun L0 hL0 => ⟨_, _, _, rfl, ?_⟩⟩⟩
    have smA : Same H (upd H1 L0 (.lst [])) := sm1.trans (same_new hL0)
    have hWA := smA _ _ hW
    have hcA := same_new (o := .lst []) hL0 _ _ hc
    have hLA : upd H1 L0 (.lst []) L0 = some (.lst []) := upd_same
    refine (show tSeq _ _ _ [some (.ref wl), some (.ref cd), some (.ref L0), some (.int ((0 : Nat) : Int)), none, none, none, none] (upd H1 L0 (.lst [])) from ?_)
    generalize upd H1 L0 (.lst []) = H0 at smA hWA hcA hLA ⊢
    have hlw : (ws.map V.str).length = ws.length := List.length_map _
    refine ⟨_, rfl, .ref wl, (ws.map V.str).length, rfl, .inl ⟨_, SqL.of hWA, rfl⟩, _, 1, rfl, rfl, (((ws.map V.str).length : Nat) : Int) + 1, rfl, by omega, by omega, ?_⟩
    have e0 : ((((ws.map V.str).length : Nat) : Int) + 1) = (((ws.length + 1 : Nat)) : Int) := by rw [hlw]; rfl
    rw [e0]
    refine for_range (lo := 0) (n := ws.length + 1) (BInv H0 ws wl cd) ⟨[], [], L0, 0, _, _, _, _, rfl, hLA, rfl, List.nodup_nil, fun a ha => absurd ha List.not_mem_nil, List.not_mem_nil, Same.refl _, Nat.le_refl _, rfl, Nat.le_refl _⟩ (fun turn σ G ht hinv => ?_) (fun σ G hinv => ?_)
    · obtain ⟨line, as, L, i, o4, o5, o6, o7, rfl, hL, hB, hnd, hfr, hLas, sm, hlen, hrun, hi⟩ := hinv
      have hWG := sm _ _ hWA
      have hcG := sm _ _ hcA
      have hlt : decide ((i : Int) < (((ws.map V.str).length : Nat) : Int)) = decide (i < ws.length) := by
        rw [hlw, Bool.eq_iff_iff]
        simp only [decide_eq_true_eq]
        omega
      have hstep : runB ws (ws.length + 1 - turn) line i = (match stepB ws line i with
        | .ret r => r
        | .go l j => runB ws (ws.length + 1 - (turn + 1)) l j) := by
        obtain ⟨m, hm⟩ : ∃ m, ws.length + 1 - turn = m + 1 := ⟨ws.length - turn, by omega⟩
        have hm2 : ws.length + 1 - (turn + 1) = m := by omega
        rw [hm, hm2]
        rfl
      have rt : ∀ (r : Option Nat) (G' : Hp), stepB ws line i = .ret r → Same H0 G' → Q (oI r) G' := fun r G' e sm' => by
        rw [hstep, e] at hrun
        have hrun : r = badW ws := hrun
        rw [hrun]
        exact k G' (smA.trans sm')
      have nx : ∀ (l : List LF) (j : Nat) (as' : List Addr) (L' : Addr) (a4 a5 a6 a7 : Option V) (G' : Hp), stepB ws line i = .go l j → G' L' = some (.lst (as'.map V.ref).reverse) → RepB G' l as' → as'.Nodup → (∀ a ∈ as', H0 a = none) → L' ∉ as' → Same H0 G' → l.length ≤ line.length + 1 → j ≤ i + 2 →
          BInv H0 ws wl cd (turn + 1) [some (.ref wl), some (.ref cd), some (.ref L'), some (.int (j : Int)), a4, a5, a6, a7] G' := fun l j as' L' a4 a5 a6 a7 G' e h1 h2 h3 h4 h5 h6 h7 h8 => by
        rw [hstep, e] at hrun
        exact ⟨l, as', L', j, a4, a5, a6, a7, rfl, h1, h2, h3, h4, h5, h6, by omega, hrun, by omega⟩
      refine (show tSeq _ _ _ [some (.ref wl), some (.ref cd), some (.ref L), some (.int (i : Int)), some (.int (0 + (turn : Int))), o5, o6, o7] G from ?_)
      refine if_readS (b := decide (i < ws.length)) (y := wV ws[i]?) (fun R hR => ⟨_, rfl, _, rfl, .ref wl, (ws.map V.str).length, rfl, .inl ⟨_, SqL.of hWG, rfl⟩, (i : Int), _, rfl, rfl, _, rfl, by rw [hlt]; exact hR _ (Same.refl _)⟩) (fun hb G1 s1 R hR => ?_) (fun hb G1 s1 R hR => ?_) fun G1 s1 => ?_
      · have hb : i < ws.length := of_decide_eq_true hb
        rw [List.getElem?_eq_getElem hb] at hR
        exact ⟨_, rfl, _, rfl, wl, _, (i : Int), .str ws[i], rfl, rfl, SqL.of (s1 _ _ hWG), atI_nat (by rw [List.getElem?_map, List.getElem?_eq_getElem hb]; rfl), hR⟩
      · have hb : ¬ i < ws.length := of_decide_eq_false hb
        rw [List.getElem?_eq_none (by omega)] at hR
        exact hR
      have he : (!((as.map V.ref).reverse).isEmpty) = !as.isEmpty := by
        cases as with
        | nil => rfl
        | cons a b => simp
      refine if_readS (b := !as.isEmpty) (y := tpV as) (fun R hR => ⟨_, rfl, by show 0 ≤ sizeLine; decide, fun q hq => ⟨L, q, _, rfl, rfl, SqL.of (same_new hq _ _ (s1 _ _ hL)), SqL.of upd_same, _, rfl, by rw [he]; exact hR _ (same_new hq)⟩⟩) (fun hb G2 s2 R hR => ?_) (fun hb G2 s2 R hR => ?_) fun G2 s2 => ⟨_, _, rfl, ?_⟩
      · cases as with
        | nil => cases hb
        | cons a b => exact ⟨_, rfl, 1, rfl, L, _, -1, .ref a, rfl, rfl, SqL.of (s2 _ _ (s1 _ _ hL)), at_lastR, hR⟩
      · cases as with
        | nil => exact hR
        | cons a b => cases hb
      have s12 := s1.trans s2
      have sm2 := sm.trans s12
      have hW2 := s12 _ _ hWG
      have hc2 := s12 _ _ hcG
      have hL2 := s12 _ _ hL
      have hB2 := RepB.mono (fun a _ o e => s12 a o e) hB
      clear hB hL hWG hcG
      refine (show tSeq _ _ _ [some (.ref wl), some (.ref cd), some (.ref L), some (.int (i : Int)), some (.int (0 + (turn : Int))), some (wV ws[i]?), some (tpV as), o7] G2 from ?_)
      clear sm s1 s2 s12
      dsimp only [tSeq]
      have hgt : decide ((0 : Int) < (i : Int)) = decide (0 < i) := by
        rw [Bool.eq_iff_iff]
        simp only [decide_eq_true_eq]
        omega
      have hle : as = [] → line = [] := fun e => List.eq_nil_of_length_eq_zero (by rw [← RepB.len hB2, e]; rfl)
      have hle2 : line = [] → as = [] := fun e => List.eq_nil_of_length_eq_zero (by rw [RepB.len hB2, e]; rfl)
      have htp : decide (tpV as = V.non) = as.isEmpty := by
        cases as with
        | nil => exact decide_eq_true rfl
        | cons a b => exact decide_eq_false (fun z => by cases z)
      refine and_read (p := as.isEmpty) (wh := decide (0 < i)) (fun R hR => ⟨_, rfl, rfl, _, rfl, by rw [htp]; exact hR⟩) (fun R hR => ⟨_, rfl, (i : Int), 0, rfl, rfl, _, rfl, by rw [hgt]; exact hR _ (Same.refl _)⟩) fun G3 s3 => ?_
      have sm3 := sm2.trans s3
      cases hb : (as.isEmpty && decide (0 < i)) with
      | true =>
        obtain ⟨b1, b2⟩ := Bool.and_eq_true_iff.mp hb
        have b2 := of_decide_eq_true b2
        obtain rfl : as = [] := List.isEmpty_iff.mp b1
        obtain rfl := hle rfl
        refine iteT ?_
        cases hx : ws[i]? with
        | none => exact ⟨_, rfl, rfl, _, rfl, iteNF rfl (rt none _ (sb_done0 hx b2) sm3)⟩
        | some wd => exact ⟨_, rfl, rfl, _, rfl, iteNT (fun z => by cases z) ⟨_, rfl, rt (some i) _ (sb_done1 hx b2) sm3⟩⟩
      | false =>
        have h2 : ¬ (line = [] ∧ 0 < i) := fun ⟨z1, z2⟩ => by
          rw [hle2 z1, decide_eq_true z2] at hb
          cases hb
        refine iteF ?_
        dsimp only [tNext, tIfS]
        cases hx : ws[i]? with
        | none => exact ⟨_, rfl, rfl, _, rfl, decT rfl ⟨_, rfl, rt (some i) _ (sb_none hx h2) sm3⟩⟩
        | some wd =>
          refine ⟨_, rfl, rfl, _, rfl, decF (fun z => by cases z) ?_⟩
          have hW3 := s3 _ _ hW2
          have hc3 := s3 _ _ hc2
          have hL3 := s3 _ _ hL2
          have hB3 := RepB.mono (fun a _ o e => s3 a o e) hB2
          clear hW2 hc2 hL2 hB2 sm2 s3
          dsimp only [tNext, tSeq]
          refine asg_read (y := .bl (roomL line)) (fun R hR => ?_) ?_
          · cases line with
            | nil =>
              obtain rfl := hle2 rfl
              exact ⟨_, rfl, rfl, _, rfl, decT rfl hR⟩
            | cons p r =>
              obtain ⟨c, n⟩ := p
              obtain ⟨a, as', rfl, ha, _⟩ := hB3
              refine ⟨_, rfl, rfl, _, rfl, decF (fun z => by cases z) ?_⟩
              cases c with
              | none => exact ⟨_, rfl, a, _, 0, .non, rfl, rfl, SqL.of ha, rfl, rfl, _, rfl, decT rfl hR⟩
              | some m =>
                have e : decide ((n : Int) < (m : Int)) = roomL ((some m, n) :: r) := by
                  show _ = decide (n < m)
                  rw [Bool.eq_iff_iff]
                  simp only [decide_eq_true_eq]
                  omega
                rw [← e] at hR
                exact ⟨_, rfl, a, _, 0, .int (m : Int), rfl, rfl, SqL.of ha, rfl, rfl, _, rfl, decF (fun z => by cases z) ⟨_, rfl, a, _, 1, .int (n : Int), rfl, rfl, SqL.of ha, rfl, _, rfl, a, _, 0, .int (m : Int), rfl, rfl, SqL.of ha, rfl, (n : Int), (m : Int), rfl, rfl, hR⟩⟩
          dsimp only [gName, tIfS, List.set, wV]
          have hcs : (valV ctab (Sum.inr wd)).isSome = (cnt wd).isSome := by
            rw [ctab_val]
            cases cnt wd <;> rfl
          refine and_read (p := (cnt wd).isSome) (wh := roomL line) (fun R hR => ⟨_, rfl, _, rfl, cd, _, rfl, DGet.k (k := Sum.inr wd) hc3, _, rfl, by rw [hcs]; exact hR⟩) (fun R hR => ⟨_, rfl, _, rfl, hR _ (Same.refl _)⟩) fun G4 s4 => ?_
          have sm4 := sm3.trans s4
          have hW4 := s4 _ _ hW3
          have hc4 := s4 _ _ hc3
          have hL4 := s4 _ _ hL3
          have hB4 := RepB.mono (fun a _ o e => s4 a o e) hB3
          clear hW3 hc3 hL3 hB3 sm3 s4
          cases hop : ((cnt wd).isSome && roomL line) with
          | true =>
            obtain ⟨q1, q2⟩ := Bool.and_eq_true_iff.mp hop
            refine iteT ?_
            dsimp only [tSeq, tIfS]
            have hge : decide ((((ws.map V.str).length : Nat) : Int) ≤ (i : Int) + 1) = decide (ws.length ≤ i + 1) := by
              rw [hlw, Bool.eq_iff_iff]
              simp only [decide_eq_true_eq]
              omega
            refine or_readC (p := decide (ws.length ≤ i + 1)) (wh := !decide (ws[i + 1]? = some wO)) (fun R hR => ⟨_, rfl, (i : Int), 1, rfl, rfl, _, rfl, .ref wl, (ws.map V.str).length, rfl, .inl ⟨_, SqL.of hW4, rfl⟩, (i : Int) + 1, _, rfl, rfl, _, rfl, by rw [hge]; exact hR⟩) (fun hp R hR => ?_) ?_
            · have hp := of_decide_eq_false hp
              have hg : ws[i + 1]? = some ws[i + 1] := List.getElem?_eq_getElem (by omega)
              have e : decide (V.str ws[i + 1] = V.str "(") = decide (ws[i + 1]? = some wO) := by
                rw [hg, Bool.eq_iff_iff]
                simp only [decide_eq_true_eq, V.str.injEq, Option.some.injEq]
                exact Iff.rfl
              rw [← e] at hR
              exact ⟨_, rfl, _, rfl, (i : Int), 1, rfl, rfl, wl, _, (i : Int) + 1, .str ws[i + 1], rfl, rfl, SqL.of hW4, (by show atI _ (((i + 1 : Nat)) : Int) = _; exact atI_nat (by rw [List.getElem?_map, hg]; rfl)), rfl, _, rfl, hR⟩
            cases hq : (decide (ws.length ≤ i + 1) || !decide (ws[i + 1]? = some wO)) with
            | true =>
              have ne : ¬ ws[i + 1]? = some wO := fun z => by
                have := get_lt z
                rw [decide_eq_true z, decide_eq_false (by omega)] at hq
                cases hq
              have e := sb_open hx q1 q2 h2
              rw [if_neg ne] at e
              exact iteT ⟨_, rfl, (i : Int), 1, rfl, rfl, rt (some (i + 1)) _ e sm4⟩
            | false =>
              obtain ⟨_, ne⟩ := Bool.or_eq_false_iff.mp hq
              have ne : ws[i + 1]? = some wO := by simpa using ne
              have e := sb_open hx q1 q2 h2
              rw [if_pos ne] at e
              refine iteF ?_
              obtain ⟨m, hm⟩ := Option.isSome_iff_exists.mp q1
              have hvm : valV ctab (Sum.inr wd) = some (.int (m : Int)) := by
                rw [ctab_val, hm]
                rfl
              refine ⟨_, rfl, _, rfl, _, rfl, cd, .int (m : Int), rfl, (by rw [← hvm]; exact DGet.k (k := Sum.inr wd) hc4), by show 2 ≤ sizeLine; decide, fun b hb => ⟨by show 1 ≤ sizeLine; decide, fun lb hlb => ⟨L, lb, _, _, rfl, rfl, same_new hlb _ _ (same_new hb _ _ hL4), upd_same, ?_, fun L' hL' => ⟨_, rfl, (i : Int), 2, rfl, rfl, _, _, rfl, ?_⟩⟩⟩⟩
              · rw [List.length_reverse, List.length_map, RepB.len hB4]
                exact Nat.le_trans (show line.length + 1 ≤ 1002 by omega) (by decide)
              · obtain ⟨p1, p2, p3, p4, p5⟩ := push_ok (c := some m) (L := L) (xs := [.ref b]) (ys := (as.map V.ref).reverse ++ [V.ref b]) hB4 hnd hfr sm4 hb hlb hL'
                exact nx ((cnt wd, 0) :: line) (i + 2) (b :: as) L' _ _ _ _ _ e (by rw [upd_same]; exact congrArg (fun l => some (HO.lst l)) rev_snoc) (by rw [hm]; exact p1) p2 p3 p4 p5 (Nat.le_refl _) (Nat.le_refl _)
          | false =>
            refine iteF ?_
            refine ⟨_, rfl, rfl, _, rfl, ?_⟩
            cases line with
            | nil =>
              obtain rfl := hle2 rfl
              have hn : ¬ (cnt wd).isSome = true := fun z => by
                rw [z] at hop
                cases hop
              exact decT rfl ⟨_, rfl, rt (some i) _ (sb_nil hx hn (fun z => h2 ⟨rfl, z⟩)) sm4⟩
            | cons p r =>
              obtain ⟨c, n⟩ := p
              obtain ⟨a, as', rfl, ha, hB'⟩ := id hB4
              have ho : ¬ ((cnt wd).isSome = true ∧ roomN c n = true) := fun ⟨z1, z2⟩ => by
                have z2 : roomL ((c, n) :: r) = true := z2
                rw [z1, z2] at hop
                cases hop
              refine decF (fun z => by cases z) ?_
              have ewc : decide (V.str wd = V.str ")") = decide (wd = wC) := by
                rw [Bool.eq_iff_iff]
                simp only [decide_eq_true_eq, V.str.injEq]
                exact Iff.rfl
              have ewo : decide (V.str wd = V.str "(") = decide (wd = wO) := by
                rw [Bool.eq_iff_iff]
                simp only [decide_eq_true_eq, V.str.injEq]
                exact Iff.rfl
              have hlr : r.length + 1 ≤ turn := hlen
              refine and_read (p := decide (wd = wC)) (wh := wholeN c n) (fun R hR => ⟨_, rfl, rfl, _, rfl, by rw [ewc]; exact hR⟩) (fun R hR => ?_) fun G5 s5 => ?_
              · have hR' := hR _ (Same.refl _)
                cases c with
                | none => exact ⟨_, rfl, a, _, 0, .non, rfl, rfl, SqL.of ha, rfl, rfl, _, rfl, decT rfl hR'⟩
                | some m =>
                  have e : decide (V.int (n : Int) = V.int (m : Int)) = wholeN (some m) n := by
                    show _ = decide (n = m)
                    rw [Bool.eq_iff_iff]
                    simp only [decide_eq_true_eq, V.int.injEq]
                    omega
                  rw [← e] at hR'
                  exact ⟨_, rfl, a, _, 0, .int (m : Int), rfl, rfl, SqL.of ha, rfl, rfl, _, rfl, decF (fun z => by cases z) ⟨_, rfl, a, _, 1, .int (n : Int), rfl, rfl, SqL.of ha, rfl, _, rfl, a, _, 0, .int (m : Int), rfl, rfl, SqL.of ha, rfl, rfl, _, rfl, hR'⟩⟩
              have sm5 := sm4.trans s5
              have hL5 := s5 _ _ hL4
              have hB5 := RepB.mono (fun a _ o e => s5 a o e) hB4
              have ha5 := s5 _ _ ha
              have hB5' := RepB.mono (fun a _ o e => s5 a o e) hB'
              clear hL4 hB4 ha hB' hW4 hc4 s5 sm4
              obtain ⟨hna, hnd'⟩ := List.nodup_cons.mp hnd
              cases hsh : (decide (wd = wC) && wholeN c n) with
              | true =>
                obtain ⟨z1, z2⟩ := Bool.and_eq_true_iff.mp hsh
                have e := sb_shut (rest := r) hx ho ⟨of_decide_eq_true z1, z2⟩
                refine iteT ?_
                have ed : cutV (((a :: as').map V.ref).reverse) none (some (-1)) = (as'.map V.ref).reverse := by
                  rw [cut_but]
                  exact last_revR.2
                refine ⟨_, rfl, 1, rfl, -1, rfl, L, _, rfl, SqL.of hL5, fun q hq => ?_⟩
                rw [ed]
                have s6 := same_new (o := .lst (as'.map V.ref).reverse) hq
                have hq6 : upd G5 q (.lst (as'.map V.ref).reverse) q = some (.lst (as'.map V.ref).reverse) := upd_same
                have hqn : q ∉ as' := fun hm => by
                  obtain ⟨o, ho⟩ := hB5'.there q hm
                  rw [hq] at ho
                  cases ho
                refine ⟨_, rfl, (i : Int), 1, rfl, rfl, _, _, rfl, ?_⟩
                dsimp only [List.set, tIfS, tpV, roomL]
                generalize upd G5 q (.lst (as'.map V.ref).reverse) = G6 at s6 hq6 ⊢
                have hB6 := RepB.mono (fun a _ o e => s6 a o e) hB5'
                have he' : (!((as'.map V.ref).reverse).isEmpty) = !as'.isEmpty := by
                  cases as' with
                  | nil => rfl
                  | cons a b => simp
                refine ⟨_, rfl, by show 0 ≤ sizeLine; decide, fun q2 hq2 => ⟨q, q2, _, rfl, rfl, SqL.of (same_new hq2 _ _ hq6), SqL.of upd_same, _, rfl, ?_⟩⟩
                rw [he']
                have s7 := same_new (o := .lst []) hq2
                have hq7 := s7 _ _ hq6
                have hB7 := RepB.mono (fun a _ o e => s7 a o e) hB6
                have sm7 := (sm5.trans s6).trans s7
                generalize upd G6 q2 (.lst []) = G7 at s7 hq7 hB7 sm7 ⊢
                cases r with
                | nil =>
                  obtain rfl : as' = [] := hB7
                  exact iteF (nx [] (i + 1) [] q _ _ _ _ _ e hq7 rfl List.nodup_nil (fun a ha => absurd ha List.not_mem_nil) List.not_mem_nil sm7 (Nat.zero_le _) (by omega))
                | cons p r =>
                  obtain ⟨c2, k2⟩ := p
                  obtain ⟨a2, as2, rfl, ha2, hB8⟩ := hB7
                  obtain ⟨hna2, hnd2⟩ := List.nodup_cons.mp hnd'
                  refine iteT ⟨_, rfl, 1, rfl, q, _, -1, .ref a2, rfl, rfl, SqL.of hq7, at_lastR, a2, _, 1, .int (k2 : Int), rfl, rfl, SqL.of ha2, rfl, (k2 : Int), 1, rfl, rfl, _, rfl, 1, rfl, q, _, -1, .ref a2, rfl, rfl, SqL.of hq7, at_lastR, a2, _, 1, 1, rfl, rfl, ha2, rfl, ?_⟩
                  have nqa : q ≠ a2 := fun z => hqn (by rw [z]; exact List.mem_cons_self)
                  refine nx ((c2, k2 + 1) :: r) (i + 1) (a2 :: as2) q _ _ _ _ _ e (by rw [upd_ne nqa]; exact hq7) ⟨a2, as2, rfl, upd_same, RepB.mono (fun x hx o e => by rw [upd_ne (fun z => hna2 (by rw [← z]; exact hx))]; exact e) hB8⟩ hnd' (fun x hx => hfr x (List.mem_cons_of_mem _ hx)) hqn (fun x o e => ?_) (by show r.length + 1 ≤ r.length + 1 + 1 + 1; omega) (by omega)
                  rw [upd_ne (ne_of_none e (hfr a2 (List.mem_cons_of_mem _ List.mem_cons_self)))]
                  exact sm7 _ _ e
              | false =>
                have hs : ¬ (wd = wC ∧ wholeN c n = true) := fun ⟨z1, z2⟩ => by
                  rw [decide_eq_true z1, z2] at hsh
                  cases hsh
                refine iteF ?_
                refine and_read (p := roomN c n) (wh := decide (wd = wO)) (fun R hR => ⟨_, rfl, _, rfl, hR⟩) (fun R hR => ⟨_, rfl, rfl, _, rfl, by rw [ewo]; exact hR _ (Same.refl _)⟩) fun G6 s6 => ?_
                have sm6 := sm5.trans s6
                have hL6 := s6 _ _ hL5
                have hB6 := RepB.mono (fun a _ o e => s6 a o e) hB5
                have ha6 := s6 _ _ ha5
                cases hro : (roomN c n && decide (wd = wO)) with
                | true =>
                  obtain ⟨z1, z2⟩ := Bool.and_eq_true_iff.mp hro
                  have e := sb_row (rest := r) hx ho hs ⟨z1, of_decide_eq_true z2⟩
                  refine iteT ⟨_, rfl, by show 2 ≤ sizeLine; decide, fun b hb => ⟨by show 1 ≤ sizeLine; decide, fun lb hlb => ⟨L, lb, _, _, rfl, rfl, same_new hlb _ _ (same_new hb _ _ hL6), upd_same, ?_, fun L' hL' => ⟨_, rfl, (i : Int), 1, rfl, rfl, _, _, rfl, ?_⟩⟩⟩⟩
                  · rw [List.length_reverse, List.length_map, RepB.len hB6]
                    exact Nat.le_trans (show r.length + 1 + 1 ≤ 1002 by omega) (by decide)
                  · obtain ⟨p1, p2, p3, p4, p5⟩ := push_ok (c := none) (L := L) (xs := [.ref b]) (ys := ((a :: as').map V.ref).reverse ++ [V.ref b]) hB6 hnd hfr sm6 hb hlb hL'
                    exact nx ((none, 0) :: (c, n) :: r) (i + 1) (b :: a :: as') L' _ _ _ _ _ e (by rw [upd_same]; exact congrArg (fun l => some (HO.lst l)) rev_snoc) p1 p2 p3 p4 p5 (Nat.le_refl _) (by omega)
                | false =>
                  have hrw : ¬ (roomN c n = true ∧ wd = wO) := fun ⟨z1, z2⟩ => by
                    rw [decide_eq_true z2, z1] at hro
                    cases hro
                  refine iteF ?_
                  refine and_read (p := roomN c n) (wh := isPlain wd) (fun R hR => ⟨_, rfl, _, rfl, hR⟩) (fun R hR => ⟨_, rfl, wd, rfl, hxs wd (List.mem_of_getElem? hx), fun H' sm' => ⟨_, rfl, hR _ sm'⟩⟩) fun G7 s7 => ?_
                  have sm7 := sm6.trans s7
                  have hL7 := s7 _ _ hL6
                  have hB7 := RepB.mono (fun a _ o e => s7 a o e) hB6
                  have ha7 := s7 _ _ ha6
                  cases hlf : (roomN c n && isPlain wd) with
                  | true =>
                    obtain ⟨z1, z2⟩ := Bool.and_eq_true_iff.mp hlf
                    have e := sb_leaf (rest := r) hx ho hs hrw ⟨z1, z2⟩
                    refine iteT ⟨_, rfl, a, _, 1, .int (n : Int), rfl, rfl, SqL.of ha7, rfl, (n : Int), 1, rfl, rfl, _, rfl, (i : Int), 1, rfl, rfl, by show 2 ≤ sizeLine; decide, fun t ht => ⟨t, _, rfl, SqT.of upd_same, rfl, _, _, rfl, _, rfl, a, _, 1, 1, rfl, rfl, same_new ht _ _ ha7, rfl, _, _, rfl, rfl, ?_⟩⟩
                    have s8 := same_new (o := .tup [V.int ((n : Int) + 1), V.int ((i : Int) + 1)]) ht
                    have sm8 := sm7.trans s8
                    have hL8 := s8 _ _ hL7
                    have hB8 := RepB.mono (fun a _ o e => s8 a o e) hB7
                    have nLa : L ≠ a := fun z => hLas (by rw [z]; exact List.mem_cons_self)
                    obtain ⟨a', as'', ee, ha8, hB9⟩ := hB8
                    obtain ⟨rfl, rfl⟩ := List.cons.inj ee
                    refine nx ((c, n + 1) :: r) (i + 1) (a :: as') L _ _ _ _ _ e (by rw [upd_ne nLa]; exact hL8) ⟨a, as', rfl, upd_same, RepB.mono (fun x hx o e => by rw [upd_ne (fun z => hna (by rw [← z]; exact hx))]; exact e) hB9⟩ hnd hfr hLas (fun x o e => ?_) (by show r.length + 1 ≤ r.length + 1 + 1; omega) (by omega)
                    rw [upd_ne (ne_of_none e (hfr a List.mem_cons_self))]
                    exact sm8 _ _ e
                  | false =>
                    have hl : ¬ (roomN c n = true ∧ isPlain wd = true) := fun ⟨z1, z2⟩ => by
                      rw [z1, z2] at hlf
                      cases hlf
                    exact iteF ⟨_, rfl, rt (some i) _ (sb_else hx ho hs hrw hl) sm7⟩
    · obtain ⟨line, as, L, i, o4, o5, o6, o7, rfl, hL, hB, hnd, hfr, hLas, sm, hlen, hrun, hi⟩ := hinv
      rw [Nat.sub_self] at hrun
      have hrun : some i = badW ws := hrun
      have q := k G (smA.trans sm)
      rw [← hrun] at q
      exact ⟨_, rfl, q⟩
end
end K91
set_option Elab.async false
set_option linter.all false
set_option maxRecDepth 100000
set_option maxHeartbeats 4000000
/-! K91, AS: a lambda with one default (lines of HandS.Lambda, turned to KE.KDflt). -/
namespace K91
open PySem PySem.Spec PyProof.Rows L2 LamX
/-- one name of its own, that the maker has not; captured ones and globals -/
structure LamD (N : List Str) (sc scope : Scope) : Prop where
  kind : scope.kind = .function
  co : scope.isCoroutine = false
  gen : scope.isGenerator = false
  own : ∀ y ∈ scope.names, y.2 ≠ .cell ∧ (y.2 = .local → y.1 ∉ N)
  free : ∀ y ∈ scope.names, y.2 = .free → sc.names.lookup y.1 = some .cell ∨ sc.names.lookup y.1 = some .free
def lamDB (N : List Str) (sc scope : Scope) : Bool :=
  decide (scope.kind = .function) && (!scope.isCoroutine && (!scope.isGenerator && (scope.names.all fun y => !decide (y.2 = .cell) && ((!decide (y.2 = .local) || !decide (y.1 ∈ N)) && (!decide (y.2 = .free) || (decide (sc.names.lookup y.1 = some .cell) || decide (sc.names.lookup y.1 = some .free)))))))
theorem lamD_by {N : List Str} {sc scope : Scope} (h : lamDB N sc scope = true) : LamD N sc scope := by
  unfold lamDB at h
  simp only [Bool.and_eq_true, Bool.or_eq_true, Bool.not_eq_true', decide_eq_true_eq, decide_eq_false_iff_not, List.all_eq_true] at h
  obtain ⟨h1, h2, h3, h4⟩ := h
  refine ⟨h1, h2, h3, fun y hy => ⟨(h4 y hy).1, fun e => ?_⟩, fun y hy e => ?_⟩
  · rcases (h4 y hy).2.1 with z | z
    · exact absurd e z
    · exact z
  · rcases (h4 y hy).2.2 with z | z | z
    · exact absurd e z
    · exact .inl z
    · exact .inr z
theorem LamD.has {X : Cx} {scope : Scope} {N : List Str} (L : LamD N X.env.scope scope) (ok : X.Ok) : ∀ y ∈ scope.names, y.2 = .free → ∃ c, X.env.cells.lookup y.1 = some c := fun y hy e => by
  rcases L.free y hy e with k | k
  · exact ok.has _ (.inl k)
  · exact ok.has _ (.inr k)
section
variable {X : Cx} {pins : List (Addr × Obj)} {σ : L2.St} {H HZ : Hp} {s s1 : Shared}
/-- the lambda is made -/
theorem lam_makeD {T : List (Addr × Str)} {c P : Addr} {params : Arguments} {body e1 : Expr} {scope : Scope} {pos : Pos} {v0 : V} {E : Value → Shared → Prop} {Q : Value → Shared → Prop} (I : Inv X pins σ H s) (hE : X.xe = E) (TB : TabB X.base X.mg c P) (hcode : X.env.code = .ref c)
    (hm : (P, X.env.qual ++ "<lambda>") ∈ T) (hu : ∀ p ∈ T, p.1 = P → p.2 = X.env.qual ++ "<lambda>") (hT : Tabs T H) (hdef : params.defaults = [e1]) (hk0 : params.kw_defaults = []) (he : PE X e1 (tC v0)) (hfree : ∀ y ∈ scope.names, y.2 = .free → ∃ c, X.env.cells.lookup y.1 = some c)
    (h : ∀ (f c' td : Addr) (doc pm ctv u : Value) (H1 : Hp) (s' : Shared), Inv X pins σ H1 s' → RelV v0 u → ExtN H H1 → Tabs T H1 →
      s'.heap.get? f = some (PySem.W.kdv_obj "<lambda>" (X.env.qual ++ "<lambda>") params (.expr body) scope (cloFrom X.env.cells scope.names []) (.ref td) doc pm c' ctv) → H1 f = none → f ∉ frs X.stack → s'.heap.get? td = some (PySem.W.kdv_tup [u]) → H1 td = none → td ∉ frs X.stack →
      H1 c' = some (CodeO c' (X.env.qual ++ "<lambda>")) → Q (.ref f) s') :
    wpAny (model X.prog X.w) X.A (eval (.Lambda params body scope pos) X.env) Q E s := by
  subst hE
  obtain ⟨ps, hP, ht, ha⟩ := hT _ hm
  refine PySem.W.kdv_lam (by rw [hdef]; rfl) hk0 ?_
  rw [hdef]
  refine PySem.W.kdv_all1 (thn (he.run pins s σ H (fun v H' => v = v0 ∧ H' = H) I ⟨rfl, rfl⟩) fun u s1 ⟨v, H1, I1, r1, ev, eH⟩ => PySem.W.kdv_all0 ?_)
  subst ev eH
  rw [makeFunction_eq]
  simp only [List.zip_nil_right, List.filterMap_nil, List.isEmpty_nil, if_true, pure_bind, List.isEmpty_cons, Bool.false_eq_true, if_false]
  refine wpAny_bind (wpAny_newTextTuple ?_)
  have I2 : Inv X pins σ H1 { s1 with heap := s1.heap.push (PySem.W.kdv_tup [u]) } := I1.kept (t' := s1.toks) fun b o e => Heap.get?_push_of_some _ e
  have htd : (s1.heap.push (PySem.W.kdv_tup [u])).get? s1.heap.objs.size = some (PySem.W.kdv_tup [u]) := Heap.get?_push_size _ rfl
  have hszd : s1.heap.objs.size < (s1.heap.push (PySem.W.kdv_tup [u])).objs.size := Heap.lt_size htd
  have Htd : H1 s1.heap.objs.size = none := I1.hok.fresh (Nat.le_refl _)
  have nofr1 : ∀ f, s1.heap.objs.size ≤ f → f ∉ frs X.stack := fun f hf z => by
    rcases List.mem_cons.mp (I1.stkSub _ z) with e | e
    · have h1 := I1.lt
      rw [← e] at h1
      exact Nat.lt_irrefl _ (Nat.lt_of_lt_of_le h1 hf)
    · exact I1.nofs hf e
  show wpAny _ _ (makeTail _ _ _ _ _ _ (.ref s1.heap.objs.size) .none none _ _) Q _ { s1 with heap := s1.heap.push (PySem.W.kdv_tup [u]) }
  generalize s1.heap.objs.size = td at htd hszd Htd nofr1 ⊢
  generalize hh2 : s1.heap.push (PySem.W.kdv_tup [u]) = h2 at I2 htd hszd ⊢
  have htdfr : td ∉ frs X.stack := nofr1 _ (Nat.le_refl _)
  have nofr : ∀ f, h2.objs.size ≤ f → f ∉ frs X.stack := fun f hf => nofr1 f (Nat.le_trans (Nat.le_of_lt hszd) hf)
  have bP : h2.BuiltinsAt X.mg P := TB.bm.keeps I2.bk
  have hP' : h2.get? P = some { cls := .none, data := .fields ps } := I2.hok P _ hP
  cases hc : codeAmong pos ps.toList with
  | none =>
    refine PySem.W.kdv_makeTail (mg := X.mg) (c := c) (P := P) (ps := ps) (closure_ok hfree) I.ok.glob (I.mod.glob.keeps I2.bk) hcode (TB.code.keeps I2.bk) hP' ht hc TB.gP bP fun c' ctv doc h' tk hx hge hlt hrec htb => ?_
    obtain ⟨c2, oc, vs, t, e2, hoc, hd, hv⟩ := hrec
    cases e2
    have hsz : h2.objs.size ≤ h'.objs.size := Nat.le_trans hge (Nat.le_of_lt hlt)
    have nC : H1 c' = none := I2.hok.fresh hge
    have nPt : td ≠ P := fun z => by
      rw [z, hP] at Htd
      cases Htd
    have I3 := inv_table (t' := tk) (more := #[rawInt pos.line, rawInt pos.col, .ref c']) (h' := h'.push (PySem.W.kdv_obj "<lambda>" (X.env.qual ++ "<lambda>") params (.expr body) scope (cloFrom X.env.cells scope.names []) (.ref td) doc ((X.mg "__name__").getD .none) c' ctv)) I2 hP
      (fun b o hb e => Heap.get?_push_of_some _ (hx b o hb e)) (Heap.get?_push_of_some _ htb) hge ⟨oc, vs, t, Heap.get?_push_of_some _ hoc, hd, hv⟩
    have hE : ExtN H1 (upd (upd H1 P (.tbl (ps ++ #[rawInt pos.line, rawInt pos.col, .ref c']))) c' (CodeO c' (X.env.qual ++ "<lambda>"))) := fun b o e n => by
      rw [upd_ne (ne_of_none e nC), upd_ne (fun z => n ps (Option.some.inj (e.symm.trans (by rw [z]; exact hP))))]
      exact e
    have eL : (ps ++ #[rawInt pos.line, rawInt pos.col, .ref c']).toList = ps.toList ++ [rawInt pos.line, rawInt pos.col, .ref c'] := by simp
    have up : ∀ b, b ≠ P → b ≠ c' → upd (upd H1 P (.tbl (ps ++ #[rawInt pos.line, rawInt pos.col, .ref c']))) c' (CodeO c' (X.env.qual ++ "<lambda>")) b = H1 b := fun b n1 n2 => by rw [upd_ne n2, upd_ne n1]
    refine h h'.objs.size c' td doc ((X.mg "__name__").getD .none) ctv u _ _ I3 r1 hE (fun p hp => ?_) (Heap.get?_push_size _ rfl) ?_ (nofr _ hsz) (Heap.get?_push_of_some _ (hx td _ nPt htd)) ?_ htdfr upd_same
    · by_cases hb : p.1 = P
      · rw [hu p hp hb, hb]
        refine ⟨_, by rw [upd_ne (ne_of_none hP nC), upd_same], by rw [eL]; exact PySem.TriplesOk_snoc _ _ _ _ ht, fun p' cv hcv => ?_⟩
        rw [eL] at hcv
        rcases among_app _ ht hcv with z | z
        · obtain ⟨c0, e1, e2⟩ := ha p' cv z
          exact ⟨c0, e1, hE _ _ e2 codeO_ne⟩
        · exact ⟨c', z, upd_same⟩
      · obtain ⟨ps', a1, a2, a3⟩ := hT p hp
        refine ⟨ps', by rw [upd_ne (ne_of_none a1 nC), upd_ne hb]; exact a1, a2, fun p' cv hcv => ?_⟩
        obtain ⟨c0, e1, e2⟩ := a3 p' cv hcv
        exact ⟨c0, e1, hE _ _ e2 codeO_ne⟩
    · have n1 : h'.objs.size ≠ c' := Nat.ne_of_gt hlt
      have n2 : h'.objs.size ≠ P := Nat.ne_of_gt (Nat.lt_of_lt_of_le (Heap.lt_size hP') hsz)
      rw [up _ n2 n1]
      exact I2.hok.fresh hsz
    · rw [up _ nPt (fun z => by
        rw [z] at hszd
        exact Nat.lt_irrefl _ (Nat.lt_of_lt_of_le hszd hge))]
      exact Htd
  | some cv =>
    obtain ⟨c', e, hco⟩ := ha pos cv hc
    subst e
    refine PySem.W.kdv_makeTailHit (mg := X.mg) (c := c) (P := P) (ps := ps) (closure_ok hfree) I.ok.glob (I.mod.glob.keeps I2.bk) hcode (TB.code.keeps I2.bk) hP' ht hc bP fun ctv doc h' tk hx hsz => ?_
    have I3 : Inv X pins σ H1 { s1 with heap := h'.push (PySem.W.kdv_obj "<lambda>" (X.env.qual ++ "<lambda>") params (.expr body) scope (cloFrom X.env.cells scope.names []) (.ref td) doc ((X.mg "__name__").getD .none) c' ctv), toks := tk } := I2.kept fun b o e => Heap.get?_push_of_some _ (hx b o e)
    exact h h'.objs.size c' td doc ((X.mg "__name__").getD .none) ctv u H1 _ I3 r1 (ExtN.refl H1) hT (Heap.get?_push_size _ rfl) (I2.hok.fresh hsz) (nofr _ hsz) (Heap.get?_push_of_some _ (hx td _ htd)) Htd htdfr hco
theorem lam_startD {A : Around} {outer : List Env} {E : XK} {scope : Scope} {f c' : Addr} {h₁ : Heap} {tk : Nat} {m : Str → Option Value} (I : Inv X pins σ H s) (L : LamD X.N X.env.scope scope) (e0 : Env0 X.prog X.w X.K X.mg X.base A outer s1 HZ) (hd : A.handled = none)
    (un : Un (frs X.stack) [] H HZ s.heap s1.heap) (hns : h₁.Ns s1.heap.objs.size m) (kp : ∀ b o, s1.heap.get? b = some o → h₁.get? b = some o) :
    Inv (lamCx X A outer s1 HZ E scope f c') [] σ HZ { s1 with heap := h₁, toks := tk } := by
  have hfree := L.has I.ok
  have cm : ∀ {y c}, (cloFrom X.env.cells scope.names []).lookup y = some c → X.env.cells.lookup y = some c := fun {y c} e => by
    rcases cloFrom_mem (PySem.mem_of_lookup e) with hm | ⟨h1, h2⟩
    · cases hm
    · obtain ⟨c1, hc⟩ := hfree _ h1 rfl
      have hc : X.env.cells.lookup y = some c1 := hc
      have e2 : c = c1 := by
        rw [h2, hc] <;> rfl
      rw [e2]
      exact hc
  have look : ∀ {y}, scope.names.lookup y = some .free → ∃ c, (cloFrom X.env.cells scope.names []).lookup y = some c := fun {y} hl => by
    have hy : (y, NameKind.free) ∈ scope.names := PySem.mem_of_lookup hl
    exact mem_lookup (cloFrom_has (cells := X.env.cells) (acc := []) hy)
  have cellK : ∀ {c : Addr} {v : Option Value}, H c = none → s.heap.IsCell c v → h₁.IsCell c v := fun {c v} n ⟨o, ho, hd⟩ => by
    obtain ⟨sl, q⟩ := un.any ho n (by simp)
    exact ⟨_, kp _ _ q, hd⟩
  have noA : ∀ b : Addr, b ∉ (lamCx X A outer s1 HZ E scope f c').ex := fun b z => absurd (show b ∈ ([] : List Addr) from z) (by simp)
  refine ⟨⟨e0.mod, L.kind, rfl, rfl, Nat.le_refl _, fun y z c e1 e2 => I.ok.inj y z c (cm e1) (cm e2), fun y hy => ?_, fun y c z _ => ?_, fun _ => hd, Around.frames_deeper e0.frames, .inr ⟨rfl, rfl⟩, fun b z => absurd z (noA b), e0.bs, e0.bsz, fun b _ _ => noA b,
      fun b z => absurd z (noA b), e0.funs, e0.frf⟩,
    rfl, e0.bare, Un.kept kp, ⟨_, hns, fun i y v e1 e2 e3 => ?_⟩, fun y c e => ?_, e0.hok.fresh (Nat.le_refl _), fun y c e => ?_, fun q hq => absurd (show q ∈ ([] : List (Addr × Obj)) ++ [] from hq) (by simp), e0.hok.kept kp, I.len⟩
  · have hy : scope.names.lookup y = some .cell ∨ scope.names.lookup y = some .free := hy
    rcases hy with hy | hy
    · exact absurd rfl (L.own _ (PySem.mem_of_lookup hy)).1
    · exact look hy
  · have z : false = true := z
    cases z
  · have e3 : Vis scope y := e3
    have e1 : X.N[i]? = some y := e1
    rcases e3 with k | k | k
    · exact absurd (List.mem_of_getElem? e1) ((L.own _ (PySem.mem_of_lookup k)).2 rfl)
    · exact absurd rfl (L.own _ (PySem.mem_of_lookup k)).1
    · obtain ⟨m, hn, hl⟩ := I.loc
      have hvis : Vis X.env.scope y := (L.free _ (PySem.mem_of_lookup k) rfl).elim (fun k => .inr (.inl k)) (fun k => .inr (.inr k))
      obtain ⟨w', r, q⟩ := hl i y v e1 e2 hvis
      obtain ⟨c2, h2⟩ := look k
      refine ⟨w', r, .inr ⟨.inr k, c2, h2, ?_⟩⟩
      have c1 := cm h2
      rcases q with ⟨k', _⟩ | ⟨_, c3, e', z⟩
      · have k' : X.env.scope.names.lookup y = some .local := k'
        rcases L.free _ (PySem.mem_of_lookup k) rfl with k2 | k2 <;> rw [show X.env.scope.names.lookup y = _ from k2] at k' <;> cases k'
      · rw [c1] at e'
        cases e'
        exact cellK (I.freeC y _ c1) z
  · obtain ⟨w', z⟩ := I.cell y c (cm e)
    exact ⟨w', cellK (I.freeC y c (cm e)) z⟩
  · obtain ⟨v, o, ho, hd⟩ := I.cell y c (cm e)
    exact un.free c o ho (I.freeC y c (cm e)) (by simp)
/-- x(), in the def that got the lambda -/
theorem pe_actD {CXg : CXT} {Eg : XK} {Ng : List Str} {qg : Str} {sg : Scope} {g f c' td : Addr} {cdg doc pm ctv u : Value} {params : Arguments} {body : Expr} {scope : Scope} {k i : Nat} {a a1 : Str} {pn : List (Addr × Obj)} {xe : Value → Shared → Prop} {W : WX} {E : XK} {tb : TE} {p1 p2 : Pos}
    (I : Inv X pins σ H s) (L : LamD X.N X.env.scope scope) (hf : s.heap.get? f = some (PySem.W.kdv_obj "<lambda>" (X.env.qual ++ "<lambda>") params (.expr body) scope (cloFrom X.env.cells scope.names []) (.ref td) doc pm c' ctv)) (hfn : H f = none) (hfr : f ∉ frs X.stack)
    (htd : s.heap.get? td = some (PySem.W.kdv_tup [u])) (htn : H td = none) (htr : td ∉ frs X.stack) (ha1 : scope.names.lookup a1 = some .local)
    (hbind : ∃ kk : Option (Array Value) → Sem (List (Str × Value)), bindArgs (PySem.W.kdv_fn "<lambda>" (X.env.qual ++ "<lambda>") params (.expr body) scope (cloFrom X.env.cells scope.names []) (.ref td) doc pm (.ref c') ctv) ⟨[], []⟩ = seqItems? (.ref td) >>= kk ∧ kk (some #[u]) = pure [(a1, u)])
    (tk : Takes ((cxOf CXg X.prog X.w X.K X.mg X.base Ng qg sg g cdg X.A X.stack s H Eg).tr pn xe) W) (hr : Room (k + 1) (X.A.deeper (envOfC qg sg s.heap.objs.size g cdg)))
    (hbody : ∀ (A : Around) (outer : List Env) (s : Shared) (H : Hp), Room k (A.deeper (lamEnv X scope s.heap.objs.size f c')) → PE (lamCx X A outer s H E scope f c') body tb)
    (hN : Ng[i]? = some a) (hv : Vis sg a) (hd : (a == ("__debug__" : Str)) = false := by decide) (hcd : (a == ("__classdict__" : Str)) = false := by decide) :
    PE ((cxOf CXg X.prog X.w X.K X.mg X.base Ng qg sg g cdg X.A X.stack s H Eg).tr pn xe) (.Call (.Name a p1) [] [] p2)
      (fun σZ HZ Q => σZ[i]? = some (some (.ref f)) ∧ HZ c' = some (CodeO c' (X.env.qual ++ "<lambda>")) ∧ (∀ cls d H', E cls d H' → W cls d σZ H') ∧ tb σ HZ Q) := by
  refine ⟨fun pinsZ sZ σZ HZ Q IZ h => ?_⟩
  obtain ⟨hs, hc, hW, ht⟩ := h
  refine wpAny_Call_Name_kw (thn ((pe_var (pos := p1) (i := i) hN hv hd hcd).run pinsZ sZ σZ HZ (fun v H1 => v = .ref f ∧ H1 = HZ) IZ ⟨.ref f, hs, rfl, rfl⟩) fun u2 s1 ⟨v, H1, I1, r1, q1⟩ => ?_)
  obtain ⟨ev, eH⟩ := q1
  subst ev
  rw [eH] at I1
  obtain rfl : u2 = Value.ref f := r1
  have of1 : s1.heap.get? f = some (PySem.W.kdv_obj "<lambda>" (X.env.qual ++ "<lambda>") params (.expr body) scope (cloFrom X.env.cells scope.names []) (.ref td) doc pm c' ctv) := I1.base.keep f _ hf hfn hfr (fun z => nomatch (show f ∈ ([] : List Addr) from z))
  have ot1 : s1.heap.get? td = some (PySem.W.kdv_tup [u]) := I1.base.keep td _ htd htn htr (fun z => nomatch (show td ∈ ([] : List Addr) from z))
  refine PySem.W.callWith_F0 ⟨_, _, _, _, of1⟩ ?_
  have un : Un (frs X.stack) [] H HZ s.heap s1.heap := I1.base
  obtain ⟨⟨oc, vs, t, hoc, hdc, hvc⟩, _, _⟩ := I1.hok c' _ hc
  obtain ⟨kk, hb1, hb2⟩ := hbind
  have hB : BindsTo s1 (PySem.W.kdv_fn "<lambda>" (X.env.qual ++ "<lambda>") params (.expr body) scope (cloFrom X.env.cells scope.names []) (.ref td) doc pm (.ref c') ctv) ⟨[], []⟩ [(a1, u)] := BindsTo.of_defaults rfl ot1 rfl hb1 hb2
  have rc : codeAny (model X.prog X.w) (X.A.deeper (envOfC qg sg s.heap.objs.size g cdg)) (.call (.ref f) ⟨[], []⟩) (CR (L2.CX X.prog X.w) (envOfC qg sg s.heap.objs.size g cdg :: X.stack) X.prog X.w HZ s1 Q E) s1 := by
    refine PySem.W.kla_callFunE hr.depth of1 rfl L.co L.gen rfl ⟨c', oc, vs, t, rfl, hoc, hdc, hvc⟩ ?_
    refine hB _ _ _ _ ?_
    refine wpAny_newFunctionEnv (fun y hy => (L.own y hy).1) (fun y hy => by rw [List.mem_singleton.mp hy]; exact ha1) (fun h₁ hns hsb => ⟨I1.nolimit.fresh _ hsb, ?_⟩) L.kind
    show codeAny _ _ (.expr body (lamEnv X scope s1.heap.objs.size f c')) _ _
    have kp : ∀ b o, s1.heap.get? b = some o → h₁.get? b = some o := fun b o e => hsb.extBut b o (Nat.ne_of_lt (Heap.lt_size e)) (Heap.get?_push_of_some _ e)
    have J : Inv (lamCx X (X.A.deeper (envOfC qg sg s.heap.objs.size g cdg)) (envOfC qg sg s.heap.objs.size g cdg :: X.stack) s1 HZ E scope f c') [] σ HZ { s1 with heap := h₁, toks := s1.toks + ([(a1, u)] : List (Str × Value)).length } :=
      lam_startD I L I1.env0 hr.hd un hns kp
    refine PySem.W.kla_codeExpr (wpAny_mono ((hbody _ _ s1 HZ (hr.deeper _)).run [] _ _ HZ Q J ht) (fun v s' hq => ?_) fun e s' hq => hq)
    obtain ⟨w', H', J', rv, q⟩ := hq
    exact ⟨w', H', J'.os, J'.bare, J'.base, J'.hok, rv, q⟩
  refine wpAny_call (codeAny_mono rc fun r s' hq => ?_)
  cases r with
  | error e => exact tk e s' (XE.of_call I1 hW hq)
  | ok fl =>
    cases fl with
    | ret u => exact I1.after hq
    | next => exact False.elim hq
    | brk => exact False.elim hq
    | cont => exact False.elim hq
end
section
variable {X : Cx}
/-- x(lambda a1=e1: body) -/
theorem pe_lamcallD {T : List (Addr × Str)} {TT : (XK → Hp → VK → Prop) → Hp → VK → Prop} {x a a1 : Str} {g c P : Addr} {k : Nat} {pg : Arguments} {bg : List Stmt} {sg : Scope} {dV kV doc pm cdv ct oc : Value} {an od : Option Addr} {osl : Array (Option Value)} {Ng : List Str}
    {params : Arguments} {body e1 : Expr} {scope : Scope} {v0 : V} {t : XK → TE} {p lpos pos : Pos} (hg : Gl X x) (hm : X.mg x = some (.ref g)) (hk : PySem.W.keepIn X.K (.ref g) = true)
    (lk : X.K.lookup g = some ⟨oc, od, .func (PySem.W.fnOf x x pg bg sg dV kV doc pm an cdv ct), osl⟩) (hcg : PySem.W.codeIn X.K cdv x = true) (hb : L2.Binds X.K (PySem.W.fnOf x x pg bg sg dV kV doc pm an cdv ct) [a] []) (Sg : FnScope Ng [a] sg) (hNg : Ng[0]? = some a) (hva : Vis sg a)
    (hG : GivesTo2 X Ng x sg g cdv bg a (X.env.qual ++ "<lambda>") TT)
    (TB : TabB X.base X.mg c P) (hcode : X.env.code = .ref c) (hmT : (P, X.env.qual ++ "<lambda>") ∈ T) (hu : ∀ p ∈ T, p.1 = P → p.2 = X.env.qual ++ "<lambda>") (hr : Room (k + 2) X.A) (L : LamD X.N X.env.scope scope) (hdef : params.defaults = [e1]) (hk0 : params.kw_defaults = []) (he : PE X e1 (tC v0)) (ha1 : scope.names.lookup a1 = some .local)
    (hbind : ∀ (q : Str) (cl : List (Str × Addr)) (doc pm cv ctv : Value) (td : Addr), ∃ kk : Option (Array Value) → Sem (List (Str × Value)), bindArgs (PySem.W.kdv_fn "<lambda>" q params (.expr body) scope cl (.ref td) doc pm cv ctv) ⟨[], []⟩ = seqItems? (.ref td) >>= kk ∧ ∀ u, kk (some #[u]) = pure [(a1, u)])
    (hbody : ∀ (A : Around) (outer : List Env) (s : Shared) (H : Hp) (E : XK) (f c' : Addr), Room k (A.deeper (lamEnv X scope s.heap.objs.size f c')) → PE (lamCx X A outer s H E scope f c') body (t E))
    (hdb : (x == ("__debug__" : Str)) = false := by decide) (hd : (a == ("__debug__" : Str)) = false := by decide) (hcd : (a == ("__classdict__" : Str)) = false := by decide) :
    PE X (.Call (.Name x p) [.Lambda params body scope lpos] [] pos) (tLam2 T TT t) := by
  refine ⟨fun pins s σ H Q I h => ?_⟩
  obtain ⟨hT, h⟩ := h
  refine wpAny_Call_Name_kw (ld_glob I hg hm ?_ hdb)
  refine PySem.W.callWith_K (h₀ := X.base) I.ok.mod.kin hk ?_ (by rfl) (by rfl)
  show wpAny _ _ (spliced ((false, eval (.Lambda params body scope lpos) X.env) :: backTo pos (starEach [] X.env))) _ _ s
  refine Calls.spliced_cons (lam_makeD I rfl TB hcode hmT hu hT hdef hk0 he (L.has I.ok) fun f c' td doc' pm' ctv u H1 s' I1 ru eN T1 hf hfn hfr htd htn htr hco => ?_)
  refine Calls.spliced_nil ⟨I1.kIn, ?_⟩
  have rc : codeAny (model X.prog X.w) X.A (.call (.ref g) ⟨[.ref f], []⟩) (CR C8.CX0 X.stack X.prog X.w H1 s' Q C8.E0) s' := by
    refine run_ofS (N := Ng) (ps := [a]) (us := [.ref f]) (vs := [.ref f]) lk hcg Sg hr I1.env0 (hb s' [.ref f] I1.kIn rfl) (.cons rfl .nil) rfl fun hr' => ?_
    obtain ⟨t', ht', hq'⟩ := hG f c' s' H1 Q (fun E H' Q' => t E σ H' Q') (fun W pn xe E p1 p2 tk => pe_actD (i := 0) (a1 := a1) (u := u) I1 L hf hfn hfr htd htn htr ha1 (by
      obtain ⟨kk, b1, b2⟩ := hbind (X.env.qual ++ "<lambda>") (cloFrom X.env.cells scope.names []) doc' pm' (.ref c') ctv td
      exact ⟨kk, b1, b2 u⟩) tk hr' (fun A outer s H hr2 => hbody A outer s H E f c' hr2) hNg hva hd hcd) hco (h H1 eN T1)
    exact ⟨t', ht'.nox, hq'⟩
  refine wpAny_call (codeAny_mono rc fun r s2 hq => ?_)
  cases r with
  | error e => exact (show False from hq).elim
  | ok fl =>
    cases fl with
    | ret u => exact I1.after hq
    | next => exact False.elim hq
    | brk => exact False.elim hq
    | cont => exact False.elim hq
end
end K91
set_option Elab.async false
set_option linter.all false
set_option maxRecDepth 100000
set_option maxHeartbeats 4000000
/-! K91, AT: what is read of texts of words; no program in sight. -/
namespace K91
open PySem PySem.Spec PyProof.Rows L2 TL
theorem joinL_len (S : List Nat) : ∀ ps : List (List Nat), (joinL S ps).length ≤ (ps.map List.length).sum + ps.length * S.length
  | [] => Nat.zero_le _
  | [p] => by
    show p.length ≤ p.length + 0 + 1 * S.length
    omega
  | p :: q :: r => by
    have h := joinL_len S (q :: r)
    show (p ++ (S ++ joinL S (q :: r))).length ≤ p.length + ((q :: r).map List.length).sum + ((q :: r).length + 1) * S.length
    rw [List.length_append, List.length_append, Nat.succ_mul]
    omega
theorem sum_len {b : Nat} : ∀ {ws : List Str}, (∀ x ∈ ws, x.length ≤ b) → (ws.map (·.length)).sum ≤ ws.length * b
  | [], _ => Nat.zero_le _
  | x :: ws, h => by
    have h1 := h x List.mem_cons_self
    have h2 := sum_len (ws := ws) fun y hy => h y (List.mem_cons_of_mem _ hy)
    show x.length + (ws.map (·.length)).sum ≤ (ws.length + 1) * b
    rw [Nat.succ_mul]
    omega
theorem join_len {b : Nat} {ws : List Str} (h : ∀ x ∈ ws, x.length ≤ b) : (Txt.join SPC ws).length ≤ ws.length * b + ws.length := by
  rw [len_tl, join_eq, tl_join, tl_spc]
  have h1 := joinL_len [32] (ws.map tl)
  have h2 := sum_len h
  have e : ((ws.map tl).map List.length) = ws.map (·.length) := by
    rw [List.map_map]
    refine List.map_congr_left fun x _ => ?_
    exact (len_tl x).symm
  rw [e, List.length_map] at h1
  show _ ≤ _
  have h3 : ([32] : List Nat).length = 1 := rfl
  rw [h3] at h1
  omega
theorem numL_pow (n : Nat) : n < 10 ^ (numL n).length := by
  induction n using Nat.strongRecOn with
  | _ n ih =>
    by_cases c : n < 10
    · rw [numL_lt c]
      exact c
    · rw [numL_step (by omega), List.length_append, List.length_singleton, Nat.pow_succ]
      have := ih (n / 10) (by omega)
      omega
mutual
theorem fine_w : ∀ d : D, d.ok = true → (∀ x ∈ d.words, x.length ≤ 1000) → d.Fine
  | .non, _, _ => True.intro
  | .int i, h, _ => by
    have h1 : (numL i.natAbs).length ≤ 40 := of_decide_eq_true h
    show i.natAbs < 10 ^ 100
    exact Nat.lt_of_lt_of_le (numL_pow _) (Nat.pow_le_pow_right (by decide) (by omega))
  | .str s, _, h => by
    have h1 := h (wE ++ s) (List.mem_singleton.mpr rfl)
    rw [len_tl, tl_append, List.length_append] at h1
    show s.length ≤ 1000
    rw [len_tl]
    omega
  | .tup ds, h, hx => fineL_w ds h fun x hm => hx x (List.mem_cons_of_mem _ (List.mem_append_left _ hm))
  | .pap w ds, h, hx => fineL_w ds (Bool.and_eq_true_iff.mp h).2 fun x hm => hx x (List.mem_cons_of_mem _ (List.mem_cons_of_mem _ (List.mem_append_left _ hm)))
  | .bl _, h, _ => by cases h
  | .dct, h, _ => by cases h
theorem fineL_w : ∀ ds : List D, okD ds = true → (∀ x ∈ wordsL ds, x.length ≤ 1000) → FineL ds
  | [], _, _ => True.intro
  | d :: ds, h, hx => ⟨fine_w d (Bool.and_eq_true_iff.mp h).1 fun x hm => hx x (List.mem_append_left _ hm), fineL_w ds (Bool.and_eq_true_iff.mp h).2 fun x hm => hx x (List.mem_append_right _ hm)⟩
end
mutual
theorem sz_w : ∀ d : D, d.ok = true → d.sz ≤ d.words.length
  | .non, _ => Nat.le_refl _
  | .int i, _ => Nat.le_refl _
  | .str s, _ => Nat.le_refl _
  | .tup ds, h => by
    have := szL_w ds h
    show szL ds + 1 ≤ (wO :: (wordsL ds ++ [wC])).length
    rw [List.length_cons, List.length_append]
    omega
  | .pap w ds, h => by
    have := szL_w ds (Bool.and_eq_true_iff.mp h).2
    show szL ds + 1 ≤ (w :: wO :: (wordsL ds ++ [wC])).length
    rw [List.length_cons, List.length_cons, List.length_append]
    omega
  | .bl _, h => by cases h
  | .dct, h => by cases h
theorem szL_w : ∀ ds : List D, okD ds = true → szL ds ≤ (wordsL ds).length
  | [], _ => Nat.le_refl _
  | d :: ds, h => by
    have h1 := sz_w d (Bool.and_eq_true_iff.mp h).1
    have h2 := szL_w ds (Bool.and_eq_true_iff.mp h).2
    show d.sz + szL ds ≤ (d.words ++ wordsL ds).length
    rw [List.length_append]
    omega
end
/-- words as the law has them -/
def Neat (ws : List Str) : Prop := ws ≠ [] ∧ ws.length ≤ 128 ∧ ∀ x ∈ ws, x.length ≤ 100 ∧ noSp x = true
theorem odd_neat : ∀ x ∈ oddL, x.length ≤ 100 ∧ noSp x = true := fun x hx => by
  have z : oddL.all (fun x => decide (x.length ≤ 100) && noSp x) = true := by decide +kernel
  obtain ⟨z1, z2⟩ := ba (List.all_eq_true.mp z x hx)
  exact ⟨of_decide_eq_true z1, z2⟩
theorem Neat.len {ws : List Str} (h : Neat ws) : (Txt.join SPC ws).length ≤ 20000 ∧ (ws.map (·.length)).sum + ws.length ≤ 16777216 := by
  obtain ⟨_, h1, h2⟩ := h
  have z1 := join_len fun x hx => (h2 x hx).1
  have z2 := sum_len fun x hx => (h2 x hx).1
  have z3 : ws.length * 100 ≤ 128 * 100 := Nat.mul_le_mul_right _ h1
  exact ⟨by omega, by omega⟩
theorem Neat.line {ws : List Str} (h : Neat ws) : Txt.split (Txt.join SPC ws) NL = [Txt.join SPC ws] ∧ Txt.split (Txt.join SPC ws) SPC = ws :=
  ⟨split_line (join_no_nl fun x hx => (h.2.2 x hx).2), split_words h.1 fun x hx => (h.2.2 x hx).2⟩
/-- read_paper of the text of words -/
theorem read_neat {ws : List Str} (h : Neat ws) {H : Hp} {Q : VK} {E : XK} (hb : ∀ k, readW ws = .bad k → BadT E H 0 k) (hk : ∀ d, readW ws = .ok d → ∀ v H', Same H H' → Rep H' d v → Q v H') : spRead [.str (Txt.join SPC ws)] H Q E := by
  obtain ⟨l1, l2⟩ := h.line
  obtain ⟨z1, z2⟩ := h.len
  refine ⟨.str (Txt.join SPC ws), .str (Txt.join SPC ws), rfl, rfl, Txt.join SPC ws, [], ws, l1, l2, by omega, by omega, by have := h.2.1; omega, Nat.zero_le _, fun x hx => by have := (h.2.2 x hx).1; omega, ?_⟩
  cases e : readW ws with
  | bad k => exact hb k e
  | ok d =>
    show (if ([] : List Str) = [] then _ else _)
    rw [if_pos rfl]
    exact hk d e
/-- .. twice, on two lines -/
theorem read_twice {ws : List Str} (h : Neat ws) {d : D} (hr : readW ws = .ok d) {H : Hp} {Q : VK} {E : XK} (hb : BadT E H 1 0) : spRead [.str (Txt.join SPC ws ++ NL ++ Txt.join SPC ws)] H Q E := by
  obtain ⟨l1, l2⟩ := h.line
  obtain ⟨z1, z2⟩ := h.len
  have nn := join_no_nl fun x hx => (h.2.2 x hx).2
  have hz : (Txt.join SPC ws ++ NL ++ Txt.join SPC ws).length ≤ 100000 := by
    rw [len_tl, tl_append, tl_append, List.length_append, List.length_append, ← len_tl, tl_nl]
    show _ + 1 + _ ≤ _
    omega
  refine ⟨.str _, .str _, rfl, rfl, Txt.join SPC ws, [Txt.join SPC ws], ws, split_lines nn nn, l2, hz, by omega, by have := h.2.1; omega, by show 1 ≤ 1000; decide, fun x hx => by have := (h.2.2 x hx).1; omega, ?_⟩
  rw [hr]
  show (if ([Txt.join SPC ws] : List Str) = [] then _ else _)
  rw [if_neg (by simp)]
  exact hb
/-- paper_text of a paper whose words are so -/
theorem text_neat {w : Str} {ds : List D} (hok : (D.pap w ds).ok = true) (h : Neat (D.pap w ds).words) {H : Hp} {v : V} {Q : VK} {E : XK} (hv : Rep H (.pap w ds) v) (hk : ∀ H', Same H H' → Q (.str (Txt.join SPC (D.pap w ds).words)) H') : spText [v] H Q E := by
  obtain ⟨z1, z2⟩ := h.len
  have h3 := h.2.1
  refine ⟨.pap w ds, v, rfl, hv, fine_w _ hok fun x hx => Nat.le_trans (h.2.2 x hx).1 (by decide), Nat.le_trans (sz_w _ hok) (by omega), z2, fun _ _ H' sm => ?_, fun e => ?_⟩
  · rw [← space_is]
    exact hk H' sm
  · rw [hok] at e
    cases e
/-- a paper is what a text tells -/
theorem read_pap {ws : List Str} {d : D} (h : readW ws = .ok d) : badW ws = none ∧ d.words = ws ∧ d.ok = true ∧ ∃ w ds, d = .pap w ds := by
  have a := read_agree (ws := ws)
  rw [h] at a
  obtain ⟨a1, a2, a3⟩ := a
  refine ⟨a1, a2, a3, ?_⟩
  have key : ∃ w, ws[0]? = some w ∧ (cnt w).isSome = true ∧ ws[1]? = some wO := by
    unfold readW openAt at h
    cases e0 : ws[0]? with
    | none => rw [e0] at h; cases h
    | some w =>
      rw [e0] at h
      by_cases hn : (cnt w).isSome = true
      · refine ⟨w, rfl, hn, ?_⟩
        have h : onFirst ws (if (cnt w).isSome = true then (match ws[0 + 1]? with
          | none => .bad (0 + 1)
          | some x => if x = wO then .opened (some w) (0 + 2) else .bad (0 + 1)) else if w = wO ∧ true = false then .opened none (0 + 1) else .nope) = .ok d := h
        rw [if_pos hn] at h
        cases e1 : ws[0 + 1]? with
        | none => rw [e1] at h; cases h
        | some x =>
          rw [e1] at h
          have h : onFirst ws (if x = wO then .opened (some w) (0 + 2) else .bad (0 + 1)) = .ok d := h
          by_cases hx : x = wO
          · exact congrArg some hx
          · rw [if_neg hx] at h
            cases h
      · have h : onFirst ws (if (cnt w).isSome = true then (match ws[0 + 1]? with
          | none => .bad (0 + 1)
          | some x => if x = wO then .opened (some w) (0 + 2) else .bad (0 + 1)) else if w = wO ∧ true = false then .opened none (0 + 1) else .nope) = .ok d := h
        rw [if_neg hn, if_neg (fun z => by cases z.2)] at h
        cases h
  obtain ⟨w, k1, k2, k3⟩ := key
  rw [← a2] at k1 k3
  cases d with
  | pap w ds => exact ⟨w, ds, rfl⟩
  | tup ds =>
    have e : wO = w := Option.some.inj k1
    rw [← e, cnt_wO] at k2
    cases k2
  | non => cases k3
  | int i => cases k3
  | str s => cases k3
  | bl b => cases a3
  | dct => cases a3
end K91
set_option Elab.async false
set_option linter.all false
set_option maxRecDepth 100000
set_option maxHeartbeats 4000000
/-! K91, AU: what law makes: papers of the bare classes, its odd ones; what stays. -/
namespace K91
open PySem PySem.Spec PyProof.Rows L2 LamX
/-- all but the list at p and the tables is kept -/
def LK (p : Addr) (H H' : Hp) : Prop := ∀ a o, a ≠ p → H a = some o → (∀ ps, o ≠ .tbl ps) → H' a = some o
theorem LK.refl {p : Addr} {H : Hp} : LK p H H := fun _ _ _ e _ => e
theorem LK.trans {p : Addr} {H H1 H2 : Hp} (a : LK p H H1) (b : LK p H1 H2) : LK p H H2 := fun x o n e t => b x o n (a x o n e t) t
theorem LK.of {p : Addr} {H H1 : Hp} (a : Same H H1) : LK p H H1 := fun x o _ e _ => a x o e
theorem LK.sb {p : Addr} {H H1 : Hp} (a : SB p H H1) : LK p H H1 := fun x o n e _ => a x o n e
theorem LK.ext {p : Addr} {H H1 : Hp} (a : ExtN H H1) : LK p H H1 := fun x o _ e t => a x o e t
theorem LK.sol {p : Addr} {H H' : Hp} {xs : List V} (h : LK p H H') (hp : H p = some (.lst xs)) : Sol H H' := fun a o e s => h a o (fun z => by rw [z, hp] at e; cases e; exact s) e (fun ps z => by subst z; exact s)
theorem PenAt.ext {p c : Addr} {n : Nat} {H H' : Hp} (h : ExtN H H') : PenAt p c n H → PenAt p c n H' := fun ⟨cs, t, r, e1, e2, e⟩ => ⟨cs, t, r, h _ _ e1 (fun _ z => by cases z), h _ _ e2 (fun _ z => by cases z), e⟩
theorem tabs_sb {T : List (Addr × Str)} {p : Addr} {H H' : Hp} {xs : List V} (sb : SB p H H') (hp : H p = some (.lst xs)) (hT : Tabs T H) : Tabs T H' := fun q hq => by
  obtain ⟨ps, h1, h2, h3⟩ := hT q hq
  refine ⟨ps, sb _ _ (fun z => ?_) h1, h2, fun pos cv hc => ?_⟩
  · rw [z, hp] at h1
    cases h1
  · obtain ⟨c, e1, e2⟩ := h3 pos cv hc
    refine ⟨c, e1, sb _ _ (fun z => ?_) e2⟩
    rw [z, hp] at e2
    unfold CodeO at e2
    cases e2
theorem tabs_same {T : List (Addr × Str)} {H H' : Hp} (s : Same H H') (hT : Tabs T H) : Tabs T H' := hT.ext s
section
variable {K : PySem.W.Frag} {mg : Str → Option Value}
theorem Ctx.funC (T : Ctx K mg) (r : FnRow) (h : r ∈ fnRows) (hc : r.cell = none := by rfl) : ∃ (oc : Value) (od : Option Addr) (kV doc pm : Value) (an : Option Addr) (ct : Value) (osl : Array (Option Value)),
    K.lookup r.at_ = some ⟨oc, od, .func (PySem.W.fnOf r.name r.qual (defArgs r.st) (defBody r.st) (defScope r.st) .none kV doc pm an (.ref r.code) ct), osl⟩ ∧ PySem.W.codeIn K (.ref r.code) r.qual = true ∧
    fdOf K r.at_ = PySem.W.fnOf r.name r.qual (defArgs r.st) (defBody r.st) (defScope r.st) .none kV doc pm an (.ref r.code) ct := by
  obtain ⟨oc, od, kV, doc, pm, an, ct, osl, k1, k2, k3, k4⟩ := fn_data (T.fnv h) (T.a5 r h)
  rw [hc] at k4
  have k4 : fdOf K r.at_ = PySem.W.fnOf r.name r.qual (defArgs r.st) (defBody r.st) (defScope r.st) .none kV doc pm an (.ref r.code) ct := k4
  exact ⟨oc, od, kV, doc, pm, an, ct, osl, by rw [← k4]; exact k1, k3, k4⟩
end
/-! ### Paper(..), Denial() -/
section
variable {X : Cx} {e : Expr} {es : List Expr} {t : TA} {x : Str} {p pos : Pos}
def spBare (n : Nat) : Sp := fun vs H Q E => ∃ ws rest, vs = ws ++ rest ∧ ws.length = [("self" : Str)].length ∧ rest.length ≤ sizeLine ∧ ∀ p, H p = Option.none → spPaper n (ws ++ [V.ref p]) (upd H p (.tup rest)) Q E
theorem mk_Paper (T : Ctx X.K X.mg) (n : Nat) (hr : Room (n + 3) X.A) (hg : Gl X ("Paper" : Str)) (ha : PA X (e :: es) t) (he : starEach (e :: es) X.env = (false, eval e X.env) :: starEach es X.env := by rfl)
    (hpl : (backTo pos (starEach es X.env)).any (·.1) = false := by rfl) : PE X (.Call (.Name ("Paper" : Str) p) (e :: es) [] pos) (StX.tMakeR 274 (spBare n) E0 t) :=
  StX.pe_makeR (mk_of T.a8) (ok_paper (P := X.prog) (w := X.w) (base := X.base) T n) hr hg (T.glo (x := ("Paper" : Str)) (a := 274)) pass0 ha (by decide) he hpl
theorem mk_Denial (T : Ctx X.K X.mg) (n : Nat) (hr : Room (n + 3) X.A) (hg : Gl X ("Denial" : Str)) : PE X (.Call (.Name ("Denial" : Str) p) [] [] pos) (StX.tMakeR 295 (spBare n) E0 tNil) := by
  refine ⟨fun pins s σ H Q I h => ?_⟩
  refine wpAny_Call_Name_kw (ld_glob I hg (T.glo (x := ("Denial" : Str)) (a := 295)) ?_ (by decide))
  exact PySem.W.callWith_K0 I.kIn (mk_of T.a10).kp (StX.run_makeR (us := []) (mk_of T.a10) (ok_paper (P := X.prog) (w := X.w) (base := X.base) T n) hr pass0 I .nil h)
end
end K91
set_option Elab.async false
set_option linter.all false
set_option maxRecDepth 100000
set_option maxHeartbeats 4000000
/-! K91, AV: law's odd values and bad texts. -/
namespace K91
open PySem PySem.Spec PyProof.Rows L2 LamX
/-- te makes d -/
def Mks (te : TE) (σ : L2.St) (d : D) : Prop := ∀ (H : Hp) (R : V → Hp → Prop), (∀ v G, Same H G → Rep G d v → R v G) → te σ H R
def MksL (t : TA) (σ : L2.St) (ds : List D) : Prop := ∀ (H : Hp) (R : List V → Hp → Prop), (∀ vs G, Same H G → RepL G ds vs → R vs G) → t σ H R
theorem MksL.nil {σ : L2.St} : MksL tNil σ [] := fun H R k => k [] H (Same.refl _) rfl
theorem MksL.cons {te : TE} {t : TA} {σ : L2.St} {d : D} {ds : List D} (h1 : Mks te σ d) (h2 : MksL t σ ds) : MksL (tCons te t) σ (d :: ds) := fun H R k =>
  h1 H _ fun v G s r => h2 G _ fun vs G2 s2 rl => k (v :: vs) G2 (s.trans s2) ⟨v, vs, rfl, Rep.mono (Sol.of s2) _ _ r, rl⟩
theorem Mks.non {σ : L2.St} : Mks (tC .non) σ .non := fun H R k => k .non H (Same.refl _) rfl
theorem Mks.int {σ : L2.St} {i : Int} : Mks (tC (.int i)) σ (.int i) := fun H R k => k (.int i) H (Same.refl _) rfl
theorem Mks.str {σ : L2.St} {z : Str} : Mks (tC (.str z)) σ (.str z) := fun H R k => k (.str z) H (Same.refl _) rfl
theorem Mks.bl {σ : L2.St} {b : Bool} : Mks (tC (.bl b)) σ (.bl b) := fun H R k => k (.bl b) H (Same.refl _) rfl
theorem Mks.dct {σ : L2.St} : Mks tDNewK σ .dct := fun H R k p hp => k (.ref p) _ (same_new hp) ⟨p, rfl, upd_same⟩
theorem Mks.pow {σ : L2.St} {i j : Int} (h : CPow i j) : Mks (tOp (rI CPow fun i j => V.int (i ^ j.toNat)) (tC (.int i)) (tC (.int j))) σ (.int (i ^ j.toNat)) := fun H R k => ⟨i, j, rfl, rfl, h, k _ H (Same.refl _) rfl⟩
theorem Mks.tup {t : TA} {σ : L2.St} {ds : List D} (h : MksL t σ ds) (hl : ds.length ≤ sizeLine) : Mks (tTup t) σ (.tup ds) := fun H R k =>
  h H _ fun vs G s rl => ⟨by rw [RepL.len rl]; exact hl, fun p hp => k (.ref p) _ (s.trans (same_new hp)) ⟨p, vs, rfl, upd_same, RepL.mono (Sol.of (same_new hp)) _ _ rl⟩⟩
theorem Mks.pap {t : TA} {σ : L2.St} {ds : List D} {wd : Str} {c : PC} {n : Nat} {C : Addr} (hc : pcAt wd = some c) (hC : C = c.at_) (h : MksL t σ ds) (hl : ds.length = c.attrs.length) (hz : szL ds < 100000) (hd : depL ds < n) : Mks (tMake C (spCls wd n) [] E0 t) σ (.pap wd ds) := fun H R k =>
  h H _ fun vs G s rl => by
    subst hC
    exact make_read hc rl hl hz hd fun v H' s' r => k v H' (s.trans s') r
theorem bare_read {wd : Str} {C : Addr} {n : Nat} {xs : List V} {H1 : Hp} {Q : VK} {ds : List D} (hC : C = clsAt wd) (kn : ∀ m, Kn wd m) (hr : RepL H1 ds xs) (hl : ds.length ≤ sizeLine) (hz : szL ds < 100000) (hd : depL ds < n) (hat : attrsAt wd = []) (k : ∀ v H', Same H1 H' → Rep H' (.pap wd ds) v → Q v H') :
    ∀ x dx, H1 x = none → H1 dx = none → dx ≠ x → spBare n (.ref x :: xs) (upd (upd H1 dx (.own x)) x (.ins C dx [])) (fun v H2 => v = .non ∧ Q (.ref x) H2) E0 := fun x dx hx hdx ne => by
  subst hC
  have at0 : ∀ b o, H1 b = some o → upd (upd H1 dx (.own x)) x (.ins (clsAt wd) dx []) b = some o := fun b o e => by
    rw [upd_ne (ne_of_none e hx), upd_ne (ne_of_none e hdx)]
    exact e
  have hxx : upd (upd H1 dx (.own x)) x (.ins (clsAt wd) dx []) x = some (.ins (clsAt wd) dx []) := upd_same
  generalize upd (upd H1 dx (.own x)) x (.ins (clsAt wd) dx []) = G at at0 hxx ⊢
  refine ⟨[.ref x], xs, rfl, rfl, by rw [RepL.len hr]; exact hl, fun p hp => ?_⟩
  have sp := same_new (o := .tup xs) hp
  refine ⟨x, dx, p, wd, ds, xs, 0, rfl, kn 0, sp _ _ hxx, upd_same, RepL.mono (fun a o e _ => sp _ _ (at0 a o e)) _ _ hr, hz, hd, fun t ys H' kp hx' ht rp => ⟨rfl, k (.ref x) H' (fun b o e => kp b o (sp _ _ (at0 b o e)) (ne_of_none e hx)) ⟨x, dx, t, ys, rfl, ?_, ht, kn _, rp⟩⟩⟩
  rw [hx']
  unfold fsOf
  rw [hat]
  rfl
theorem kn_paper (m : Nat) : Kn ("paper" : Str) m := .inr (.inl rfl)
theorem kn_denial (m : Nat) : Kn ("denial" : Str) m := .inr (.inr rfl)
theorem pc_paper0 : pcAt ("paper" : Str) = none := by decide +kernel
theorem pc_denial0 : pcAt ("denial" : Str) = none := by decide +kernel
theorem attrs_paper : attrsAt ("paper" : Str) = [] := by unfold attrsAt; rw [pc_paper0]
theorem attrs_denial : attrsAt ("denial" : Str) = [] := by unfold attrsAt; rw [pc_denial0]
theorem cls_paper : (274 : Addr) = clsAt ("paper" : Str) := by unfold clsAt; rw [pc_paper0]; rfl
theorem cls_denial : (295 : Addr) = clsAt ("denial" : Str) := by unfold clsAt; rw [pc_denial0]; rfl
theorem Mks.bare {t : TA} {σ : L2.St} {ds : List D} {wd : Str} {n : Nat} {C : Addr} (hC : C = clsAt wd) (kn : ∀ m, Kn wd m) (hat : attrsAt wd = []) (h : MksL t σ ds) (hl : ds.length ≤ sizeLine) (hz : szL ds < 100000) (hd : depL ds < n) : Mks (StX.tMakeR C (spBare n) E0 t) σ (.pap wd ds) := fun H R k =>
  h H _ fun vs G s rl => bare_read hC kn rl hl hz hd hat fun v H' s' r => k v H' (s.trans s') r
/-- [..] of such -/
theorem lst_mks {t : TA} {σ : L2.St} {ds : List D} (h : MksL t σ ds) (hl : ds.length ≤ sizeLine) {H : Hp} {Q : VK} (k : ∀ l xs G, H l = none → Same H G → G l = some (.lst xs) → RepL G ds xs → Q (.ref l) G) : tLst t σ H Q :=
  h H _ fun vs G s rl => ⟨by rw [RepL.len rl]; exact hl, fun p hp => k p vs _ (none_of s hp) (s.trans (same_new hp)) upd_same (RepL.mono (Sol.of (same_new hp)) _ _ rl)⟩
def oddDs : List D := [.non, .int 5, .str "plan ( )", .tup [.int 1, .int 2], .pap "paper" [.int 1], .pap "denial" [], .pap "fits" [.bl true, .tup []], .pap "fits" [.dct, .tup []], .pap "unfit" [.str "A"], .pap "unfit" [.int (10 ^ (40 : Int).toNat)], .pap "plan" [.tup [], .str "a b"], .pap "plan" [.pap "paper" [.int 1], .tup []], .pap "sayable" [.bl false]]
def tOdds : TA := tCons (tC .non) (tCons (tC (.int 5)) (tCons (tC (.str "plan ( )")) (tCons (tTup (tCons (tC (.int 1)) (tCons (tC (.int 2)) tNil))) (tCons (StX.tMakeR 274 (spBare 8) E0 (tCons (tC (.int 1)) tNil)) (tCons (StX.tMakeR 295 (spBare 8) E0 tNil)
  (tCons (tMake 601 (spCls ("fits" : Str) 8) [] E0 (tCons (tC (.bl true)) (tCons (tTup tNil) tNil))) (tCons (tMake 601 (spCls ("fits" : Str) 8) [] E0 (tCons tDNewK (tCons (tTup tNil) tNil))) (tCons (tMake 622 (spCls ("unfit" : Str) 8) [] E0 (tCons (tC (.str "A")) tNil))
  (tCons (tMake 622 (spCls ("unfit" : Str) 8) [] E0 (tCons (tOp (rI CPow fun i j => V.int (i ^ j.toNat)) (tC (.int 10)) (tC (.int 40))) tNil)) (tCons (tMake 454 (spCls ("plan" : Str) 8) [] E0 (tCons (tTup tNil) (tCons (tC (.str "a b")) tNil)))
  (tCons (tMake 454 (spCls ("plan" : Str) 8) [] E0 (tCons (StX.tMakeR 274 (spBare 8) E0 (tCons (tC (.int 1)) tNil)) (tCons (tTup tNil) tNil))) (tCons (tMake 685 (spCls ("sayable" : Str) 8) [] E0 (tCons (tC (.bl false)) tNil)) tNil))))))))))))
theorem odds_mks {σ : L2.St} : MksL tOdds σ oddDs := by
  have z0 : (0 : Nat) ≤ sizeLine := Nat.zero_le _
  have z1 : (1 : Nat) ≤ sizeLine := by decide
  have z2 : (2 : Nat) ≤ sizeLine := by decide
  have tup0 : Mks (tTup tNil) σ (.tup []) := .tup .nil z0
  have pap1 : Mks (StX.tMakeR 274 (spBare 8) E0 (tCons (tC (.int 1)) tNil)) σ (.pap "paper" [.int 1]) := .bare cls_paper kn_paper attrs_paper (.cons .int .nil) z1 (by decide) (by decide)
  exact .cons .non (.cons .int (.cons .str (.cons (.tup (.cons .int (.cons .int .nil)) z2) (.cons pap1 (.cons (.bare cls_denial kn_denial attrs_denial .nil z0 (by decide) (by decide))
    (.cons (.pap pc_Fits rfl (.cons .bl (.cons tup0 .nil)) rfl (by decide) (by decide)) (.cons (.pap pc_Fits rfl (.cons .dct (.cons tup0 .nil)) rfl (by decide) (by decide)) (.cons (.pap pc_Unfit rfl (.cons .str .nil) rfl (by decide) (by decide))
    (.cons (.pap pc_Unfit rfl (.cons (.pow ⟨by decide, by decide, by decide⟩) .nil) rfl (by decide) (by decide)) (.cons (.pap pc_Plan rfl (.cons tup0 (.cons .str .nil)) rfl (by decide) (by decide)) (.cons (.pap pc_Plan rfl (.cons pap1 (.cons tup0 .nil)) rfl (by decide) (by decide)) (.cons (.pap pc_Sayable rfl (.cons .bl .nil) rfl (by decide) (by decide)) .nil))))))))))))
def badDs : List D := [.non, .int 5, .tup [], .bl true, .str "", .str "\nplan ( none none )", .str "( )", .str "none", .str "=x", .str "Plan ( none none )"]
def tBads : TA := tCons (tC .non) (tCons (tC (.int 5)) (tCons (tTup tNil) (tCons (tC (.bl true)) (tCons (tC (.str "")) (tCons (tC (.str "\nplan ( none none )")) (tCons (tC (.str "( )")) (tCons (tC (.str "none")) (tCons (tC (.str "=x")) (tCons (tC (.str "Plan ( none none )")) tNil)))))))))
theorem bads_mks {σ : L2.St} : MksL tBads σ badDs := .cons .non (.cons .int (.cons (.tup .nil (Nat.zero_le _)) (.cons .bl (.cons .str (.cons .str (.cons .str (.cons .str (.cons .str (.cons .str .nil)))))))))
/-- an odd value cannot be told -/
theorem odd_ok : ∀ d ∈ oddDs, (d.isPap && d.ok) = false ∧ d.sz ≤ 10000 ∧ (d.words.map (·.length)).sum + d.words.length ≤ 16777216 := fun d hd => by
  have z : oddDs.all (fun d => !(d.isPap && d.ok) && (decide (d.sz ≤ 10000) && decide ((d.words.map (·.length)).sum + d.words.length ≤ 16777216))) = true := by decide +kernel
  obtain ⟨z1, z2⟩ := ba (List.all_eq_true.mp z d hd)
  obtain ⟨z2, z3⟩ := ba z2
  refine ⟨?_, of_decide_eq_true z2, of_decide_eq_true z3⟩
  cases e : (d.isPap && d.ok) with
  | true => rw [e] at z1; cases z1
  | false => rfl
theorem odd_fine : ∀ d ∈ oddDs, d.Fine := fun d hd => by
  have t0 : True := True.intro
  have i1 : (1 : Int).natAbs < 10 ^ 100 := by decide +kernel
  have i2 : (2 : Int).natAbs < 10 ^ 100 := by decide +kernel
  have i5 : (5 : Int).natAbs < 10 ^ 100 := by decide +kernel
  have i40 : ((10 : Int) ^ (40 : Int).toNat).natAbs < 10 ^ 100 := by decide +kernel
  have s1 : ("plan ( )" : Str).length ≤ 1000 := by decide +kernel
  have s2 : ("A" : Str).length ≤ 1000 := by decide +kernel
  have s3 : ("a b" : Str).length ≤ 1000 := by decide +kernel
  have hd : d ∈ [.non, .int 5, .str "plan ( )", .tup [.int 1, .int 2], .pap "paper" [.int 1], .pap "denial" [], .pap "fits" [.bl true, .tup []], .pap "fits" [.dct, .tup []], .pap "unfit" [.str "A"], .pap "unfit" [.int (10 ^ (40 : Int).toNat)], .pap "plan" [.tup [], .str "a b"], .pap "plan" [.pap "paper" [.int 1], .tup []], .pap "sayable" [.bl false]] := hd
  simp only [List.mem_cons, List.not_mem_nil, or_false] at hd
  rcases hd with rfl | rfl | rfl | rfl | rfl | rfl | rfl | rfl | rfl | rfl | rfl | rfl | rfl
  · exact t0
  · exact i5
  · exact s1
  · exact ⟨i1, i2, t0⟩
  · exact ⟨i1, t0⟩
  · exact t0
  · exact ⟨t0, t0, t0⟩
  · exact ⟨t0, t0, t0⟩
  · exact ⟨s2, t0⟩
  · exact ⟨i40, t0⟩
  · exact ⟨t0, s3, t0⟩
  · exact ⟨⟨i1, t0⟩, t0, t0⟩
  · exact ⟨t0, t0⟩
/-- a bad text is refused at its first word -/
theorem bad_read {d : D} (h : d ∈ badDs) {v : V} {H : Hp} {Q : VK} {E : XK} (hv : Rep H d v) (hb : BadT E H 0 0) : spRead [v] H Q E := by
  have key : ∀ z : Str, z ∈ ([("" : Str), "\nplan ( none none )", "( )", "none", "=x", "Plan ( none none )"] : List Str) → ∃ l0 more, Txt.split z NL = l0 :: more ∧ z.length ≤ 100000 ∧ l0.length ≤ 100000 ∧ (Txt.split l0 SPC).length ≤ 200 ∧ more.length ≤ 1000 ∧ (∀ x ∈ Txt.split l0 SPC, x.length ≤ 600) ∧ openAt (Txt.split l0 SPC) 0 true = .nope := fun z hz => by
    have q : ([("" : Str), "\nplan ( none none )", "( )", "none", "=x", "Plan ( none none )"] : List Str).all (fun z => match Txt.split z NL with
      | [] => false
      | l0 :: more => decide (z.length ≤ 100000) && (decide (l0.length ≤ 100000) && (decide ((Txt.split l0 SPC).length ≤ 200) && (decide (more.length ≤ 1000) && ((Txt.split l0 SPC).all (fun x => decide (x.length ≤ 600)) && (match openAt (Txt.split l0 SPC) 0 true with
        | .nope => true
        | _ => false)))))) = true := by decide +kernel
    have q := List.all_eq_true.mp q z hz
    cases e : Txt.split z NL with
    | nil => rw [e] at q; cases q
    | cons l0 more =>
      rw [e] at q
      obtain ⟨q1, q⟩ := ba q
      obtain ⟨q2, q⟩ := ba q
      obtain ⟨q3, q⟩ := ba q
      obtain ⟨q4, q⟩ := ba q
      obtain ⟨q5, q⟩ := ba q
      refine ⟨l0, more, rfl, of_decide_eq_true q1, of_decide_eq_true q2, of_decide_eq_true q3, of_decide_eq_true q4, fun x hx => of_decide_eq_true (List.all_eq_true.mp q5 x hx), ?_⟩
      cases e2 : openAt (Txt.split l0 SPC) 0 true with
      | nope => rfl
      | bad k => rw [e2] at q; cases q
      | opened o k => rw [e2] at q; cases q
  have fin : ∀ z : Str, z ∈ ([("" : Str), "\nplan ( none none )", "( )", "none", "=x", "Plan ( none none )"] : List Str) → Rep H (.str z) v → spRead [v] H Q E := fun z hz hv => by
    obtain ⟨l0, more, k1, k2, k3, k4, k5, k6, k7⟩ := key z hz
    refine ⟨.str z, v, rfl, hv, l0, more, _, k1, rfl, k2, k3, k4, k5, k6, ?_⟩
    have e : readW (Txt.split l0 SPC) = .bad 0 := by
      unfold readW
      rw [k7]
      rfl
    rw [e]
    exact hb
  have h : d ∈ [.non, .int 5, .tup [], .bl true, .str "", .str "\nplan ( none none )", .str "( )", .str "none", .str "=x", .str "Plan ( none none )"] := h
  simp only [List.mem_cons, List.not_mem_nil, or_false] at h
  rcases h with rfl | rfl | rfl | rfl | rfl | rfl | rfl | rfl | rfl | rfl
  · exact ⟨.non, v, rfl, hv, hb⟩
  · exact ⟨.int 5, v, rfl, hv, hb⟩
  · exact ⟨.tup [], v, rfl, hv, hb⟩
  · exact ⟨.bl true, v, rfl, hv, hb⟩
  · exact fin _ (by simp) hv
  · exact fin _ (by simp) hv
  · exact fin _ (by simp) hv
  · exact fin _ (by simp) hv
  · exact fin _ (by simp) hv
  · exact fin _ (by simp) hv
end K91
set_option Elab.async false
set_option linter.all false
set_option maxRecDepth 100000
set_option maxHeartbeats 4000000
/-! K91, AW: law. -/
namespace K91
open PySem PySem.Spec PyProof.Rows L2 LamX
theorem room_law : Room 225 callerA := ⟨rfl, by decide, by decide⟩
theorem bits_nat {z : Int} (h : Builtin.Int.intBits z ≤ 1048576) : z.natAbs < 2 ^ 1048577 := by
  unfold Builtin.Int.intBits at h
  by_cases e : z = 0
  · rw [e]
    exact Nat.pow_pos (by decide)
  · rw [if_neg (by simpa using e)] at h
    have hz : z.natAbs ≠ 0 := by omega
    exact (Nat.log2_lt hz).mp (by omega)
def rJn (K : PySem.W.Frag) : V → List V → Hp → VK → Prop := fun x xs H Q => ∃ a p, ∃ ys : List Str, x = .str a ∧ xs = [.ref p] ∧ (SqL K H p (ys.map V.str) ∨ SqT K H p (ys.map V.str)) ∧ (ys.map (·.length)).sum + ys.length * a.length ≤ 16777216 ∧ Q (.str (Txt.join a ys)) H
def Tl : List (Addr × Str) := [(1107, "law.<locals>.<lambda>")]
def spLaw (K : PySem.W.Frag) : Sp := fun vs H Q _ => ∃ (a : Addr) (ns : List Int), vs = [.ref a] ∧ SqL K H a (ns.map V.int) ∧ (∀ z ∈ ns, Builtin.Int.intBits z ≤ 1048576) ∧ H 1107 = some (.tbl #[]) ∧ ∀ H', Q (.bl true) H'
theorem or_readG {tA tB : TT} {σ : L2.St} {G : Hp} {Q : Bool → Hp → Prop} {p wh : Bool} (hA : ∀ R : Bool → Hp → Prop, (∀ G', Same G G' → R p G') → tA σ G R) (hB : p = false → ∀ G1, Same G G1 → ∀ R : Bool → Hp → Prop, (∀ G', Same G1 G' → R wh G') → tB σ G1 R) (k : ∀ G', Same G G' → Q (p || wh) G') : tOr tA tB σ G Q := by
  refine hA _ fun G1 s1 => ?_
  cases p with
  | true => exact iteT (k G1 s1)
  | false => exact iteF (hB rfl G1 s1 _ fun G' s => by rw [← Bool.false_or wh]; exact k G' (s1.trans s))
theorem ne_self (v : V) : (!decide (v = v)) = false := by simp
theorem eqv_self {d : PyData} (h : SeqAt.shaped d = true) : PyData.eqv d d = true := SeqAt.eqv_refl d (SeqAt.canLay_of_shaped h)
theorem shaped3 (a b : Int) : SeqAt.shaped (.tuple [.str ("text" : Str), .int a, .int b]) = true := by
  have h : PyData.strOk ("text" : Str) = true := by decide +kernel
  simp [SeqAt.shaped, PyData.canLay0, PyData.canLayAll0, PyData.depth, PyData.depthAll, h]
/-- the state of law's loops -/
def PInv (a p c : Addr) (i : Nat) (σ : L2.St) (H : Hp) : Prop := ∃ o2 o3 o4 o5 o6 o7 o8 o9 o10 o11 o12 o13 : Option V, σ = [some (.ref a), some (.ref p), o2, o3, o4, o5, o6, o7, o8, o9, o10, o11, o12, o13] ∧ PenAt p c (300 * i) H ∧ Tabs Tl H
def LInv (a p c wl : Addr) (o2 o3 o4 o6 o7 : Option V) (ws : List Str) (n0 : Nat) (j : Nat) (σ : L2.St) (H : Hp) : Prop := ∃ o8 o9 o10 o11 o12 o13 : Option V, σ = [some (.ref a), some (.ref p), o2, o3, o4, some (.ref wl), o6, o7, o8, o9, o10, o11, o12, o13] ∧ PenAt p c (n0 + 3 * j) H ∧ Tabs Tl H ∧ H wl = some (.lst (ws.map V.str))
section
variable {w : World} {K : PySem.W.Frag} {mg : Str → Option Value} {base : Heap}
theorem ok_law (T : Ctx K mg) (TB : TabB base mg 1111 1107) : FnOk PW w K mg base (L2.CX PW w) 225 1112 (fdOf K 1112) P_law (spLaw K) := by
  obtain ⟨oc, od, kV, doc, pm, an, ct, osl, lk, hcd, e⟩ := T.funC r_law m_law
  rw [show fdOf K 1112 = _ from e]
  obtain ⟨och, odh, kVh, doch, pmh, anh, cth, oslh, lkh, hcdh, eh⟩ := T.funC r_l_heard m_l_heard
  have Fh := T.fun_ r_l_heard m_l_heard
  have bh : Binds K (fdOf K r_l_heard.at_) P_l_heard [] := Fh.binds fun _ _ _ _ _ _ us hl => match us, hl with | [_], _ => rfl
  rw [eh] at bh
  have Fn := T.fun_ r_l_pen m_l_pen
  have bn : Binds K (fdOf K r_l_pen.at_) P_l_pen [] := Fn.binds fun _ _ _ _ _ _ us hl => match us, hl with | [_], _ => rfl
  have Fk := T.fun_ r_l_pick m_l_pick
  have bk : Binds K (fdOf K r_l_pick.at_) P_l_pick [] := Fk.binds fun _ _ _ _ _ _ us hl => match us, hl with | [_, _], _ => rfl
  have Fd := T.fun_ r_lx_drawn_paper m_lx_drawn_paper
  have bd : Binds K (fdOf K r_lx_drawn_paper.at_) P_lx_drawn_paper [] := Fd.binds fun _ _ _ _ _ _ us hl => match us, hl with | [_, _], _ => rfl
  have Fp := T.fun_ r_lx_plain_words m_lx_plain_words
  have bp : Binds K (fdOf K r_lx_plain_words.at_) P_lx_plain_words [] := Fp.binds fun _ _ _ _ _ _ us hl => match us, hl with | [_], _ => rfl
  have Fr := T.fun_ r_read_paper m_read_paper
  have br : Binds K (fdOf K 1026) P_read_paper [] := Fr.binds fun _ _ _ _ _ _ us hl => match us, hl with | [_], _ => rfl
  have Ft := T.fun_ r_paper_text m_paper_text
  have bt : Binds K (fdOf K 330) P_paper_text [] := Ft.binds fun _ _ _ _ _ _ us hl => match us, hl with | [_], _ => rfl
  have Fw := T.fun_ r_l_bent_words m_l_bent_words
  have bw : Binds K (fdOf K r_l_bent_words.at_) P_l_bent_words [] := Fw.binds fun _ _ _ _ _ _ us hl => match us, hl with | [_, _], _ => rfl
  have Fb := T.fun_ r_lx_paper_bad m_lx_paper_bad
  have bb : Binds K (fdOf K r_lx_paper_bad.at_) P_lx_paper_bad [] := Fb.binds fun _ _ _ _ _ _ us hl => match us, hl with | [_], _ => rfl
  have nd := sc_law.nd
  have huT : ∀ p ∈ Tl, p.1 = 1107 → p.2 = "law.<locals>.<lambda>" := fun p hp _ => by rw [List.mem_singleton.mp hp]
  refine fn_of (CX := L2.CX PW w) (k := 224) lk hcd sc_law (fun vs H Q E h => ?_) (fun A outer s H vs Q E hr h => ?_)
  · obtain ⟨a, ns, rfl, _⟩ := h
    rfl
  · have hr221 : Room (219 + 2) (A.deeper (envOfC "law" (defScope s_law) s.heap.objs.size 1112 (.ref 1111))) := hr.mono (by decide)
    have hu64 := Nat.lt_of_le_of_lt (Nat.le_refl _) hr.units
    refine ⟨_,
    pss_cons (ps_asg (pe_call (ok_pen T) (hr.mono (by decide)) rfl T.glo Fn.kp bn .nil pass0 (pa_cons (pv 0) pa_nil)) (pg_name (i := 1) nd rfl (Or.inl rfl)))
    (pss_cons (ps_for (passes_of (K := fun e s'' => L2.CX PW w outer H s E e s'') rfl) rfl (pi_range1 rfl T.free (pa_cons pe_int pa_nil)) (pg_name (i := 2) nd rfl (Or.inl rfl))
      (pss_cons (ps_asg (pe_call (ok_drawn3 T) (hr.mono (by decide)) rfl T.glo Fd.kp bd .nil pass0 (pa_cons (pv 1) (pa_cons pe_int pa_nil))) (pg_tup rfl (pgs_cons (pg_name (i := 3) nd rfl (Or.inl rfl)) (pgs_cons (pg_name (i := 4) nd rfl (Or.inl rfl)) pgs_nil))))
      (pss_cons (ps_asg (pe_call (ok_pw T 3) (hr.mono (by decide)) rfl T.glo Fp.kp bp .nil pass0 (pa_cons (pv 4) pa_nil)) (pg_name (i := 5) nd rfl (Or.inl rfl)))
      (pss_cons (ps_asg (pe_join pe_str (pv 5)) (pg_name (i := 6) nd rfl (Or.inr rfl)))
      (pss_cons (ps_asg (pe_call (ok_read T) (hr.mono (by decide)) rfl T.glo Fr.kp br .nil (passes_call takesD fun _ _ _ _ h => h) (pa_cons (pv 6) pa_nil)) (pg_name (i := 7) nd rfl (Or.inl rfl)))
      (pss_cons (ps_if (PW.pt (pw_or (pt_cmpR op_ne (pe_call (ok_paper_text T) (hr.mono (by decide)) rfl T.glo Ft.kp bt .nil (passes_call takesD fun _ _ _ _ h => h) (pa_cons (pv 3) pa_nil)) (pv 6) (nomark _))
          (pw_or (pt_cmpR op_ne (pe_callK0 (ok_paper_text T) (hr.mono (by decide)) rfl T.glo Ft.kp (kb_text T) (passes_call takesD fun _ _ _ _ h => h) (pk_cons (pv 7) pk_nil)) (pv 6) (nomark _))
          (pw_or (pt_cmpR (op_neP rfl T (hr.mono (by decide))) (pv 7) (pv 3) (nomark _))
          (pw_or (pt_cmpR op_ne (pe_fld (pv 7) rfl) (pe_dget (hu_of hr) (pv 4) pe_str (fun _ _ => rfl)) (nomark _))
          (pw_or1 (pt_cmpR op_ne (pe_callTy (call_boolP rfl T (hr.mono (by decide))) rfl T.free (by decide +kernel) (pa_cons (pv 7) pa_nil)) (pe_callTy (call_boolP rfl T (hr.mono (by decide))) rfl T.free (by decide +kernel) (pa_cons (pv 3) pa_nil)) (nomark _)))))))) (pss_one (ps_ret pe_bl)) pss_nil)
      (pss_cons (ps_if (PW.pt (pw_or (pt_cmpR (op_neP rfl T (hr.mono (by decide))) (pe_callK0 (ok_read T) (hr.mono (by decide)) rfl T.glo Fr.kp (kb_read T) (passes_call takesD fun _ _ _ _ h => h) (pk_cons (pv 6) pk_nil)) (pv 3) (nomark _))
          (pw_or1 (pt_cmpR (op_neD hu64) (pe_lamcall2 rfl (T.glo (x := "_law_heard")) Fh.kp lkh hcdh bh sc_l_heard rfl (Or.inl rfl) (heard_gives T) TB rfl (List.mem_singleton.mpr rfl) huT hr221 (lamS_by (sc := defScope s_law) (by decide +kernel)) rfl (fun _ _ _ _ _ => rfl) (fun A outer s H E f c' hrl => pe_call (ok_read T) hrl rfl T.glo Fr.kp br .nil (passes_call (takes_of rfl rfl rfl rfl) fun _ _ _ _ h => h) (pa_cons (pe_op op_add_str (pe_op op_add_str (pv 6) pe_str) (pv 6)) pa_nil))) (pe_tup (pa_cons pe_str (pa_cons pe_int (pa_cons pe_int pa_nil)))) (nomark _))))) (pss_one (ps_ret pe_bl)) pss_nil)
      (pss_one (ps_for (passes_of (K := fun e s'' => L2.CX PW w outer H s E e s'') rfl) rfl (pi_range1 rfl T.free (pa_cons pe_int pa_nil)) (pg_name (i := 8) nd rfl (Or.inl rfl))
        (pss_cons (ps_asg (pe_call (ok_bent T) (hr.mono (by decide)) rfl T.glo Fw.kp bw .nil pass0 (pa_cons (pv 1) (pa_cons (pv 5) pa_nil))) (pg_name (i := 9) nd rfl (Or.inr rfl)))
        (pss_one (ps_if (pt_cmpR (op_neE (Nat.lt_of_succ_lt (hu_of hr))) (pv 9) (pe_lst pa_nil) (nomark _))
          (pss_cons (ps_par (i := 10) (j := 11) rfl nd rfl rfl (by decide) rfl rfl (pa_cons (pe_call (ok_bad T) (hr.mono (by decide)) rfl T.glo Fb.kp bb .nil pass0 (pa_cons (pv 9) pa_nil)) (pa_cons (pe_lamcall2 rfl (T.glo (x := "_law_heard")) Fh.kp lkh hcdh bh sc_l_heard rfl (Or.inl rfl) (heard_gives T) TB rfl (List.mem_singleton.mpr rfl) huT hr221 (lamS_by (sc := defScope s_law) (by decide +kernel)) rfl (fun _ _ _ _ _ => rfl) (fun A outer s H E f c' hrl => pe_call (ok_read T) hrl rfl T.glo Fr.kp br .nil (passes_call (takes_of rfl rfl rfl rfl) fun _ _ _ _ h => h) (pa_cons (show PE _ _ (tM1 (rJn K) (tC (.str (" " : Str))) (tVar 9)) from pe_join pe_str (pv 9)) pa_nil))) pa_nil)) rfl)
          (pss_one (ps_if (PW.pt (pw_or (PW.pt (pw_and (pt_cmpR op_notN (pv 10) pe_non (nomark _)) (pw_and1 (pt_cmpR (op_neD hu64) (pv 11) (pe_tup (pa_cons pe_str (pa_cons pe_int (pa_cons (pv 10) pa_nil)))) (nomark _)))))
            (pw_or1 (PW.pt (pw_and (pt_cmpR op_isN (pv 10) pe_non (nomark _)) (pw_and1 (PW.pt (pw_or (pt_not (pt_val (pe_callB call_isi rfl T.free (by decide +kernel) (pa_cons (pv 11) (pa_cons (pe_bltn (v := .ty "list") rfl T.free (by decide +kernel) rfl) pa_nil)))))
              (pw_or1 (pt_cmpR op_ne (pe_call (ok_paper_text T) (hr.mono (by decide)) rfl T.glo Ft.kp bt .nil (passes_call takesD fun _ _ _ _ h => h) (pa_cons (pe_ix ix_list (pv 11) pe_int (fun _ _ => rfl)) pa_nil)) (pe_join pe_str (pv 9)) (nomark _)))))))))))
            (pss_one (ps_ret pe_bl)) pss_nil))) pss_nil))))))))))))
    (pss_cons (ps_asg (pe_call (ok_pick T) (hr.mono (by decide)) rfl T.glo Fk.kp bk .nil pass0 (pa_cons (pv 1) (pa_cons (pe_lst (pa_cons pe_non (pa_cons pe_int (pa_cons pe_str (pa_cons (pe_tup (pa_cons pe_int (pa_cons pe_int pa_nil))) (pa_cons (mk_Paper T 8 (hr.mono (by decide)) rfl (pa_cons pe_int pa_nil)) (pa_cons (mk_Denial T 8 (hr.mono (by decide)) rfl) (pa_cons (mk_Fits rfl T 8 (hr.mono (by decide)) rfl (pa_cons pe_bl (pa_cons (pe_tup pa_nil) pa_nil))) (pa_cons (mk_Fits rfl T 8 (hr.mono (by decide)) rfl (pa_cons pe_dnewK (pa_cons (pe_tup pa_nil) pa_nil))) (pa_cons (mk_Unfit rfl T 8 (hr.mono (by decide)) rfl (pa_cons pe_str pa_nil)) (pa_cons (mk_Unfit rfl T 8 (hr.mono (by decide)) rfl (pa_cons (pe_op op_pow pe_int pe_int) pa_nil)) (pa_cons (mk_Plan rfl T 8 (hr.mono (by decide)) rfl (pa_cons (pe_tup pa_nil) (pa_cons pe_str pa_nil))) (pa_cons (mk_Plan rfl T 8 (hr.mono (by decide)) rfl (pa_cons (mk_Paper T 8 (hr.mono (by decide)) rfl (pa_cons pe_int pa_nil)) (pa_cons (pe_tup pa_nil) pa_nil))) (pa_cons (mk_Sayable rfl T 8 (hr.mono (by decide)) rfl (pa_cons pe_bl pa_nil)) pa_nil)))))))))))))) pa_nil))) (pg_name (i := 12) nd rfl (Or.inr rfl)))
    (pss_cons (ps_asg (pe_call (ok_pick T) (hr.mono (by decide)) rfl T.glo Fk.kp bk .nil pass0 (pa_cons (pv 1) (pa_cons (pe_lst (pa_cons pe_non (pa_cons pe_int (pa_cons (pe_tup pa_nil) (pa_cons pe_bl (pa_cons pe_str (pa_cons pe_str (pa_cons pe_str (pa_cons pe_str (pa_cons pe_str (pa_cons pe_str pa_nil))))))))))) pa_nil))) (pg_name (i := 13) nd rfl (Or.inr rfl)))
    (pss_one (ps_ret (pe_cmpR (op_eqD hu64) (pe_lst (pa_cons (pe_lamcall2 rfl (T.glo (x := "_law_heard")) Fh.kp lkh hcdh bh sc_l_heard rfl (Or.inl rfl) (heard_gives T) TB rfl (List.mem_singleton.mpr rfl) huT hr221 (lamS_by (sc := defScope s_law) (by decide +kernel)) rfl (fun _ _ _ _ _ => rfl) (fun A outer s H E f c' hrl => pe_call (ok_paper_text T) (hrl.mono (by decide)) rfl T.glo Ft.kp bt .nil (passes_call (takes_of rfl rfl rfl rfl) fun _ _ _ _ h => h) (pa_cons (pv 12) pa_nil))) (pa_cons (pe_lamcallD (a1 := "a1") (v0 := .int 0) rfl (T.glo (x := "_law_heard")) Fh.kp lkh hcdh bh sc_l_heard rfl (Or.inl rfl) (heard_gives T) TB rfl (List.mem_singleton.mpr rfl) huT hr221 (lamD_by (N := N_law) (sc := defScope s_law) (by decide +kernel)) rfl rfl pe_int (by decide +kernel) (fun _ _ _ _ _ _ _ => ⟨_, rfl, fun _ => rfl⟩) (fun A outer s H E f c' hrl => pe_call (ok_read T) hrl rfl T.glo Fr.kp br .nil (passes_call (takes_of rfl rfl rfl rfl) fun _ _ _ _ h => h) (pa_cons (pv 13) pa_nil))) pa_nil))) (pe_lst (pa_cons (pe_tup (pa_cons pe_str (pa_cons pe_str pa_nil))) (pa_cons (pe_tup (pa_cons pe_str (pa_cons pe_int (pa_cons pe_int pa_nil)))) pa_nil))) (nomark _))))))), ?_⟩
    obtain ⟨a, ns, rfl, hS, hbits, hT0, k⟩ := h
    refine ⟨_, rfl, a, ns, rfl, hS, fun i hi => bits_nat (hbits i hi), fun p c H1 hp sm1 hP => ?_⟩
    have hT1 : Tabs Tl H1 := fun q hq => by
      rw [List.mem_singleton.mp hq]
      exact TabS.nil (sm1 _ _ hT0)
    clear hS hbits hT0
    refine ⟨6, rfl, by decide, by decide, for_range (lo := 0) (n := 6) (PInv a p c) ⟨_, _, _, _, _, _, _, _, _, _, _, _, rfl, hP, hT1⟩ (fun i σ H2 hi inv => ?_) (fun σ H2 inv => ?_)⟩
    · obtain ⟨o2, o3, o4, o5, o6, o7, o8, o9, o10, o11, o12, o13, rfl, hP2, hT2⟩ := inv
      refine ⟨_, rfl, p, c, 300 * i, rfl, hP2, (by show 300 * i + 1 + 4 * 63 ≤ 1000000; omega), fun t pa pb wd ds H3 sb3 hP3 ht hra hpl hni => ⟨t, _, rfl, SqT.of ht, rfl, _, _, rfl, _, _, rfl, rfl, ?_⟩⟩
      have hni0 := hni
      obtain ⟨hok, hfine, hfd, hdep, hsz, hwl, hwx⟩ := hni0
      have hfd : fdL ds + 1 ≤ 3 := hfd
      have hsz : (D.pap wd ds).sz ≤ 127 := hsz
      have hwl : (D.pap wd ds).words.length ≤ 127 := hwl
      have hneat : Neat (D.pap wd ds).words := ⟨by
        show wd :: _ ≠ []
        simp, by omega, hwx⟩
      obtain ⟨xp0, xs0, ys0, hp0, hc0⟩ := hP2.ne
      have hT3 := tabs_sb sb3 hp0 hT2
      refine ⟨_, rfl, .pap wd ds, pb, rfl, hpl, hfine, (by show fdL ds + 1 ≤ 3; exact hfd), by omega, by omega, fun wl H4 hwl4 sm4 hW4 => ?_⟩
      have hrd : readW (D.pap wd ds).words = .ok (.pap wd ds) := read_words hok
      have hP4 := hP3.mono sm4
      have hT4 := tabs_same sm4 hT3
      have hra4 := Rep.mono (Sol.of sm4) _ _ hra
      have hpl4 := Pl.mono (Kpt.of sm4) _ _ hpl
      obtain ⟨xp3, xs3, ys3, hp3, hc3⟩ := hP3.ne
      have nwp : wl ≠ p := (ne_of_none hp3 hwl4).symm
      have e1 : ((" " : Str)).length = 1 := by decide +kernel
      refine ⟨⟨_, rfl⟩, _, rfl, (" " : Str), wl, (D.pap wd ds).words, rfl, rfl, .inl (SqL.of hW4), (by rw [e1, Nat.mul_one]; exact hneat.len.2), ?_⟩
      refine ⟨_, rfl, read_neat hneat (fun kk hk => by rw [hrd] at hk; cases hk) (fun d hd rv H5 sm5 hrv => ?_)⟩
      rw [hrd] at hd
      cases hd
      have hP5 := hP4.mono sm5
      have hT5 := tabs_same sm5 hT4
      have hra5 := Rep.mono (Sol.of sm5) _ _ hra4
      have hpl5 := Pl.mono (Kpt.of sm5) _ _ hpl4
      have hW5 := sm5 _ _ hW4
      clear hP4 hT4 hra4 hpl4 hP3 hT3 hra hpl ht sb3 hP2 hT2 hp0 hc0 hp3 hc3 hwl4 sm4 sm5 hP
      obtain ⟨xa, dxa, ta, vsa, rfl, ia1, ia2, kna, rla⟩ := id hra5
      obtain ⟨xr, dxr, tr, vsr, rfl, ir1, ir2, knr, rlr⟩ := id hrv
      obtain ⟨xb, tb, vsb, rfl, ib1, ib2, rlb⟩ := id hpl5
      obtain ⟨clw, nww, npw⟩ := T.papA knr
      have hfd20 : fdL ds ≤ 20 := by omega
      dsimp only [gName, List.set, tSeq, tIfS]
      refine or_readG (p := false) (wh := false) (fun R hR => ?_) (fun _ G1 s1 R hR => or_readG (p := false) (wh := false) (fun R hR => ?_) (fun _ G2 s2 R hR => or_readG (p := false) (wh := false) (fun R hR => ?_) (fun _ G3 s3 R hR => or_readG (p := false) (wh := false) (fun R hR => ?_) (fun _ G4 s4 R hR => ?_) hR) hR) hR) (fun G6 sm6 => iteF ?_)
      · refine ⟨_, rfl, ?_⟩
        dsimp only [tNil]
        exact text_neat hok hneat hra5 fun G s => ⟨_, rfl, rfl, _, rfl, by
          rw [show (!decide (V.str (Txt.join SPC (D.pap wd ds).words) = V.str (Txt.join (" " : Str) (D.pap wd ds).words))) = false from ne_self _]
          exact hR G s⟩
      · refine ⟨_, rfl, ?_⟩
        dsimp only [tNil]
        exact text_neat hok hneat (Rep.mono (Sol.of s1) _ _ hrv) fun G s => ⟨_, rfl, rfl, _, rfl, by
          rw [show (!decide (V.str (Txt.join SPC (D.pap wd ds).words) = V.str (Txt.join (" " : Str) (D.pap wd ds).words))) = false from ne_self _]
          exact hR G s⟩
      · have s12 := s1.trans s2
        exact ⟨_, rfl, _, rfl, xr, xa, wd, ds, rfl, rfl, hok, hfd20, Rep.mono (Sol.of s12) _ _ hrv, Rep.mono (Sol.of s12) _ _ hra5, fun G s => ⟨false, rfl, hR G s⟩⟩
      · have s13 := (s1.trans s2).trans s3
        exact ⟨_, rfl, xr, _, dxr, _, _, rfl, s13 _ _ ir1, clw, nww, fs_word, _, rfl, xb, V.str wd, rfl, (by rw [← val_word (t := V.ref tb)]; exact DGet.k (k := Sum.inr ("word" : Str)) (s13 _ _ ib1)), rfl, _, rfl, by
          rw [ne_self]
          exact hR _ (Same.refl _)⟩
      · have s14 := ((s1.trans s2).trans s3).trans s4
        exact ⟨_, rfl, xr, wd, ds, rfl, Rep.mono (Sol.of s14) _ _ hrv, fun G s => ⟨_, rfl, xa, wd, ds, rfl, Rep.mono (Sol.of (s14.trans s)) _ _ hra5, fun G' s' => ⟨rfl, _, rfl, by
          rw [ne_self]
          exact hR _ (s.trans s')⟩⟩⟩
      have hP6 := hP5.mono sm6
      have hT6 := tabs_same sm6 hT5
      have hra6 := Rep.mono (Sol.of sm6) _ _ hra5
      have hW6 := sm6 _ _ hW5
      clear hP5 hT5 hra5 hW5 hrv hpl5 ia1 ia2 rla ir1 ir2 rlr ib1 ib2 rlb sm6 clw nww npw
      dsimp only [tNext]
      have hlen := hneat.len.1
      have e1 : ((" " : Str)) = SPC := rfl
      have e2 : (("\n" : Str)).length = 1 := by decide +kernel
      refine ⟨_, rfl, ?_⟩
      dsimp only [tNil]
      refine read_neat hneat (fun kk hk => by rw [hrd] at hk; cases hk) (fun d hd rv2 H7 sm7 hrv2 => ?_)
      rw [hrd] at hd
      cases hd
      obtain ⟨xr2, dxr2, tr2, vsr2, rfl, _, _, _, _⟩ := id hrv2
      refine ⟨_, rfl, xr2, xa, wd, ds, rfl, rfl, hok, hfd20, hrv2, Rep.mono (Sol.of sm7) _ _ hra6, fun H8 sm8 => ⟨false, rfl, iteF ?_⟩⟩
      have sm78 := sm7.trans sm8
      have hP8 := hP6.mono sm78
      have hT8 := tabs_same sm78 hT6
      have hW8 := sm78 _ _ hW6
      clear hrv2 hra6 hP6 hT6 hW6 sm7 sm8 sm78
      refine ⟨hT8, fun H9 e9 T9 => fun H10 R s10 hret => ?_⟩
      refine ⟨_, rfl, Txt.join SPC (D.pap wd ds).words, NL, rfl, rfl, ?_, _, rfl, Txt.join SPC (D.pap wd ds).words ++ NL, Txt.join SPC (D.pap wd ds).words, rfl, rfl, ?_, ?_⟩
      · have : (NL : Str).length = 1 := e2
        exact Nat.le_trans (show _ ≤ 40003 by omega) (by decide)
      · have : (Txt.join SPC (D.pap wd ds).words ++ NL).length ≤ 20001 := by
          rw [TL.len_tl, TL.tl_append, List.length_append, ← TL.len_tl, tl_nl]
          show _ + 1 ≤ _
          omega
        exact Nat.le_trans (show _ ≤ 40003 by omega) (by decide)
      refine read_twice hneat hrd fun dd H11 s11 hdd => ⟨dd, rfl, .inl ⟨rfl, .int 1, .int 0, hdd, fun t1 H12 s12 ht1 => ?_⟩⟩
      refine ⟨by show 3 ≤ sizeLine; decide, fun t2 ht2 => ⟨.tuple [.str "text", .int 1, .int 0], .tuple [.str "text", .int 1, .int 0], .tup (SqT.of (same_new ht2 _ _ ht1)) (.cons (.str _) (.cons (.int _) (.cons (.int _) .nil))), .tup (SqT.of upd_same) (.cons (.str _) (.cons (.int _) (.cons (.int _) .nil))), shaped3 _ _, shaped3 _ _, _, rfl, ?_⟩⟩
      rw [eqv_self (shaped3 _ _)]
      refine iteF ?_
      have sA := ((s10.trans s11).trans s12).trans (same_new (o := .tup [V.str ("text" : Str), V.int 1, V.int 0]) ht2)
      have hPA := (hP8.ext e9).mono sA
      have hTA := tabs_same sA T9
      have hWA := sA _ _ (e9 _ _ hW8 (fun _ z => by cases z))
      clear hP8 hT8 hW8 T9 e9 s10 s11 s12 ht1 hdd hret
      generalize hH0 : L2.upd H12 t2 (.tup [V.str ("text" : Str), V.int 1, V.int 0]) = H0 at sA hPA hTA hWA ⊢
      clear hH0 sA
      dsimp only [tNext]
      refine ⟨6, rfl, by decide, by decide, for_range (lo := 0) (n := 6) (LInv a p c wl (some (.int (0 + (i : Int)))) (some (.ref xa)) (some (.ref xb)) (some (.str (Txt.join (" " : Str) (D.pap wd ds).words))) (some (.ref xr)) (D.pap wd ds).words (300 * i + 253)) ⟨_, _, _, _, _, _, rfl, hPA, hTA, hWA⟩ (fun j σ G hj inv => ?_) (fun σ G inv => ?_)⟩
      · obtain ⟨o8, o9, o10, o11, o12, o13, rfl, hP, hT, hW⟩ := inv
        have hn0 : 0 < (D.pap wd ds).words.length := List.length_pos_iff.mpr hneat.1
        refine ⟨_, rfl, _, rfl, p, c, wl, 300 * i + 253 + 3 * j, (D.pap wd ds).words, rfl, hW, nwp, hn0, by omega, hP, by omega, fun q us G1 hq sb hP1 hU hul hum => ?_⟩
        obtain ⟨xpG, xsG, ysG, hpG, hcG⟩ := hP.ne
        have hT1 := tabs_sb sb hpG hT
        have hW1 := sb _ _ nwp hW
        refine ⟨_, rfl, by show 0 ≤ sizeLine; decide, fun e he => ⟨q, e, _, rfl, rfl, SqL.of (same_new he _ _ hU), SqL.of upd_same, _, rfl, ?_⟩⟩
        have sE := same_new (o := .lst []) he
        have hP2 := hP1.mono sE
        have hT2 := tabs_same sE hT1
        have hW2 := sE _ _ hW1
        have hU2 := sE _ _ hU
        generalize L2.upd G1 e (.lst []) = G2 at sE hP2 hT2 hW2 hU2 ⊢
        clear sE hU hP1 hT1 hW1 sb hq hP hT hW
        by_cases hus : us = []
        · subst hus
          exact iteF ⟨_, _, _, _, _, _, rfl, hP2, hT2, hW2⟩
        have hbo : (!(us.map V.str).isEmpty) = true := by
          cases us with
          | nil => exact absurd rfl hus
          | cons x r => rfl
        rw [hbo]
        have hun : Neat us := ⟨hus, by omega, fun x hx => (hum x hx).elim (fun z => hwx x z) (fun z => odd_neat x z)⟩
        refine iteT ?_
        have hlu := hun.len
        have e3 : ((" " : Str)).length = 1 := by decide +kernel
        refine ⟨_, rfl, q, us, rfl, hU2, by have := hun.2.1; omega, fun x hx => Nat.le_trans (hun.2.2 x hx).1 (by decide), fun G3 s3 => ⟨tabs_same s3 hT2, fun G4 e4 T4 => fun G5 R s5 hret => ?_⟩⟩
        have hU5 := s5 _ _ (e4 _ _ (s3 _ _ hU2) (fun _ z => by cases z))
        have hW5 := s5 _ _ (e4 _ _ (s3 _ _ hW2) (fun _ z => by cases z))
        have hP5 := ((hP2.mono s3).ext e4).mono s5
        have hT5 := tabs_same s5 T4
        refine ⟨⟨_, rfl⟩, _, rfl, (" " : Str), q, us, rfl, rfl, .inl (SqL.of hU5), (by rw [e3, Nat.mul_one]; exact hlu.2), ?_⟩
        dsimp only [tNil]
        refine read_neat hun (fun kk hk => ?_) (fun d hd rv H6 sm6 hrv => ?_)
        · have hbad : badW us = some kk := by
            have z := read_agree (ws := us)
            rw [hk] at z
            exact z
          refine fun dd G6 s6 hdd => ⟨dd, rfl, .inl ⟨rfl, .int 0, .int kk, hdd, fun t3 G7 s7 ht3 => ⟨_, _, rfl, ?_⟩⟩⟩
          rw [hbad]
          have s57 := s6.trans s7
          refine ⟨_, rfl, rfl, _, rfl, iteNT (fun z => by cases z) ⟨_, rfl, _, rfl, by show 3 ≤ sizeLine; decide, fun t4 ht4 => ⟨.tuple [.str "text", .int 0, .int kk], .tuple [.str "text", .int 0, .int kk], .tup (SqT.of (same_new ht4 _ _ ht3)) (.cons (.str _) (.cons (.int _) (.cons (.int _) .nil))), .tup (SqT.of upd_same) (.cons (.str _) (.cons (.int _) (.cons (.int _) .nil))), shaped3 _ _, shaped3 _ _, _, rfl, ?_⟩⟩⟩
          rw [eqv_self (shaped3 _ _)]
          have s58 := s57.trans (same_new (o := .tup [V.str ("text" : Str), V.int 0, V.int (kk : Int)]) ht4)
          refine iteF ⟨_, rfl, rfl, _, rfl, decF (fun z => by cases z) (iteF ?_)⟩
          exact ⟨_, _, _, _, _, _, rfl, hP5.mono s58, tabs_same s58 hT5, s58 _ _ hW5⟩
        · obtain ⟨hbad, hdw, hdok, w2, ds2, rfl⟩ := read_pap hd
          refine hret rv H6 fun t3 G7 s7 ht3 => ⟨_, _, rfl, ?_⟩
          rw [hbad]
          have s57 := sm6.trans s7
          refine ⟨_, rfl, rfl, _, rfl, iteNF rfl (iteF ⟨_, rfl, rfl, _, rfl, decT rfl ?_⟩)⟩
          refine ⟨_, rfl, .ref t3, .ty "list", .type "list", _, true, rfl, .ty _, .base (.lst ht3), kit_ty (by decide +kernel), _, rfl, iteF ?_⟩
          refine ⟨_, rfl, t3, _, 0, rv, rfl, rfl, SqL.of ht3, rfl, ?_⟩
          dsimp only [tNil]
          have hn2 : Neat (D.pap w2 ds2).words := by rw [hdw]; exact hun
          refine text_neat hdok hn2 (Rep.mono (Sol.of s7) _ _ hrv) fun G8 s8 => ?_
          have s58 := s57.trans s8
          refine ⟨⟨_, rfl⟩, _, rfl, (" " : Str), q, us, rfl, rfl, .inl (SqL.of (s58 _ _ hU5)), (by rw [e3, Nat.mul_one]; exact hlu.2), rfl, _, rfl, ?_⟩
          rw [hdw, show (!decide (V.str (Txt.join SPC us) = V.str (Txt.join (" " : Str) us))) = false from ne_self _]
          refine iteF ?_
          exact ⟨_, _, _, _, _, _, rfl, hP5.mono s58, tabs_same s58 hT5, s58 _ _ hW5⟩
      · obtain ⟨o8, o9, o10, o11, o12, o13, rfl, hP, hT, hW⟩ := inv
        exact ⟨_, _, _, _, _, _, _, _, _, _, _, _, rfl, hP.le (by omega), hT⟩
    · obtain ⟨o2, o3, o4, o5, o6, o7, o8, o9, o10, o11, o12, o13, rfl, hP2, hT2⟩ := inv
      refine ⟨_, rfl, lst_mks odds_mks (by show 13 ≤ sizeLine; decide) fun l xs G hl sG hG rep => ?_⟩
      obtain ⟨_, xp2, _, hp2, _⟩ := hP2.ne
      have hlx : xs.length = 13 := RepL.len rep
      refine ⟨p, c, l, 1800, xs, rfl, hG, by omega, by rw [hlx]; decide, hP2.mono sG, (ne_of_none hp2 hl).symm, by omega, fun io vo H3 hio sb3 hP3 => ?_⟩
      obtain ⟨d, hd, hvd⟩ := RepL.get rep hio
      have hd := List.mem_of_getElem? hd
      have hpG := sG _ _ hp2
      have hvd3 := Rep.mono (sb3.sol hpG) _ _ hvd
      have hT3 := tabs_sb sb3 hpG (tabs_same sG hT2)
      obtain ⟨_, xp3, _, hp3, _⟩ := hP3.ne
      refine ⟨_, rfl, lst_mks bads_mks (by show 10 ≤ sizeLine; decide) fun l' xs' G' hl' sG' hG' rep' => ?_⟩
      have hlx' : xs'.length = 10 := RepL.len rep'
      refine ⟨p, c, l', 1801, xs', rfl, hG', by omega, by rw [hlx']; decide, hP3.mono sG', (ne_of_none hp3 hl').symm, by omega, fun ib vb H4 hib sb4 hP4 => ?_⟩
      obtain ⟨d', hd', hvd'⟩ := RepL.get rep' hib
      have hd' := List.mem_of_getElem? hd'
      have hpG' := sG' _ _ hp3
      have hvb4 := Rep.mono (sb4.sol hpG') _ _ hvd'
      have hvo4 := Rep.mono (sb4.sol hpG') _ _ (Rep.mono (Sol.of sG') _ _ hvd3)
      have hT4 := tabs_sb sb4 hpG' (tabs_same sG' hT3)
      clear hvd hvd' hvd3 hT3 hT2 hT1 rep rep' hP2 hP3 hG hG' sG sG' sb3 sb4 hpG hpG' hp2 hp3
      obtain ⟨ho1, ho2, ho3⟩ := odd_ok d hd
      refine ⟨hT4, fun H5 e5 T5 => fun H6 R s6 hret => ?_⟩
      have se : Sol H4 H5 := fun x o e s => e5 x o e (fun ps z => by subst z; exact s)
      refine ⟨_, rfl, d, vo, rfl, Rep.mono (se.trans (Sol.of s6)) _ _ hvo4, odd_fine d hd, ho2, ho3, (fun h1 h2 => by
        rw [h1, h2] at ho1
        cases ho1), fun _ dd H7 s7 hdd => ⟨dd, rfl, .inr ⟨rfl, .str "paper", hdd, fun t1 H8 s8 ht1 => ?_⟩⟩⟩
      have s68 := (s6.trans s7).trans s8
      have hT8 := tabs_same s68 T5
      have hvb8 := Rep.mono (se.trans (Sol.of s68)) _ _ hvb4
      refine ⟨hT8, fun H9 e9 T9 => fun H10 R2 s10 hret2 => ?_⟩
      have se9 : Sol H8 H9 := fun x o e s => e9 x o e (fun ps z => by subst z; exact s)
      refine ⟨_, rfl, ?_⟩
      dsimp only [tNil]
      refine bad_read hd' (Rep.mono (se9.trans (Sol.of s10)) _ _ hvb8) fun dd2 H11 s11 hdd2 => ⟨dd2, rfl, .inl ⟨rfl, .int 0, .int 0, hdd2, fun t2 H12 s12 ht2 => ?_⟩⟩
      have ht1' := (s10.trans (s11.trans s12)) _ _ (e9 _ _ ht1 (fun _ z => by cases z))
      refine ⟨by show 2 ≤ sizeLine; decide, fun l1 hl1 => ⟨by show 2 ≤ sizeLine; decide, fun t3 ht3 => ⟨by show 3 ≤ sizeLine; decide, fun t4 ht4 => ⟨by show 2 ≤ sizeLine; decide, fun l2 hl2 => ?_⟩⟩⟩⟩
      have sa := same_new (o := .lst [V.ref t1, V.ref t2]) hl1
      have sb := same_new (o := .tup [V.str ("value" : Str), V.str ("paper" : Str)]) ht3
      have sc := same_new (o := .tup [V.str ("text" : Str), V.int 0, V.int 0]) ht4
      have sd := same_new (o := .lst [V.ref t3, V.ref t4]) hl2
      have sbd := (sb.trans sc).trans sd
      have key : SeqAt.shaped (.list [.tuple [.str ("value" : Str), .str ("paper" : Str)], .tuple [.str ("text" : Str), .int 0, .int 0]]) = true := by decide +kernel
      have d1 : ∀ (t t' : Addr) (H : Hp), H t = some (.tup [V.str ("value" : Str), V.str ("paper" : Str)]) → H t' = some (.tup [V.str ("text" : Str), V.int 0, V.int 0]) → DpAll K H [V.ref t, V.ref t'] [.tuple [.str ("value" : Str), .str ("paper" : Str)], .tuple [.str ("text" : Str), .int 0, .int 0]] := fun t t' H h1 h2 =>
        .cons (.tup (SqT.of h1) (.cons (.str _) (.cons (.str _) .nil))) (.cons (.tup (SqT.of h2) (.cons (.str _) (.cons (.int _) (.cons (.int _) .nil)))) .nil)
      refine ⟨_, _, .lst (SqL.of (sbd _ _ upd_same)) (d1 t1 t2 _ (sbd _ _ (sa _ _ ht1')) (sbd _ _ (sa _ _ ht2))), .lst (SqL.of upd_same) (d1 t3 t4 _ ((sc.trans sd) _ _ upd_same) (sd _ _ upd_same)), key, key, ?_⟩
      rw [eqv_self key]
      exact k _
end
end K91
set_option Elab.async false
set_option linter.all false
set_option maxRecDepth 100000
set_option maxHeartbeats 0
/-! K91, AX: the end. -/
namespace K91
open PySem PySem.Spec PyProof.Rows L2 LamX
theorem ctx_of {K : PySem.W.Frag} {h : Heap} {mg : Str → Option Value} (KX : K.In h) (G : h.Ns mainGlobals mg) {h' : Heap} (c : SaysY K h') : Ctx K mg := ⟨c.fx, c.fn, fun x r e => by
  cases r with
  | none => exact PySem.W.mg_none_of KX G e
  | some v => exact PySem.W.mg_of KX G e, c.xb⟩
theorem law_at {w : World} {K : PySem.W.Frag} {h : Heap} {mg : Str → Option Value} {fa : Addr} (KX : K.In h) (G : h.Ns mainGlobals mg) (c : SaysY K h) (hmg : mg ("law" : Str) = some (.ref fa)) : LawAtS PySem.Challenge.rw_nohalfseen_k91_papers_as_texts w K (L2.CX PW w) 225 63 "script" mg fa h := by
  have T := ctx_of KX G c
  have e := hmg.symm.trans (T.glo (x := "law") (a := 1112))
  cases e
  have Fl := T.fun_ r_law m_law
  refine ⟨fdOf K 1112, [(1111, 1107)], spLaw K, fun p hp => ?_, fun p hp => ?_, fun p hp => ?_, fun s u => ?_, fun H a ns _ hb hT hS => ⟨a, ns, rfl, hS, hb, hT (1111, 1107) (List.mem_singleton.mpr rfl), fun _ => rfl⟩, fun base KB GB TB => ?_⟩
  · rw [List.mem_singleton.mp hp]
    exact c.empty
  · rw [List.mem_singleton.mp hp]
    exact c.out
  · rw [List.mem_singleton.mp hp]
    exact PySem.W.codeHd_of_K KX c.hd
  · obtain ⟨oc, od, kV, doc, pm, an, cdv, ct, osl, e, lk, hcd⟩ := Fl.ex
    rw [show fdOf K 1112 = _ from e]
    exact BindsTo.of_eq rfl
  · exact ok_law (ctx_of KB GB c) (TB (1111, 1107) (List.mem_singleton.mpr rfl))
theorem no_cx (w : World) (H : Hp) (s : Shared) (e : Value) (s' : Shared) : L2.CX PW w [] H s (fun _ _ _ => False) e s' → False := fun ⟨_, _, _, _, _, _, _, _, _, _, _, _, z⟩ => z
end K91
open PySem PySem.W PySem.Calls PyProof.Rows
theorem PySem.Challenge.cw_nohalfseen_k91_papers_as_texts_holds : PySem.Challenge.rw_nohalfseen_k91_papers_as_texts.Holds := by
  w_on; o_law
  refine HandSHeadRun.head_any (r := OpenLaw.row PySem.Challenge.rw_nohalfseen_k91_papers_as_texts) (q := view (OpenLaw.row PySem.Challenge.rw_nohalfseen_k91_papers_as_texts).prog [102]) (H := K91.hookY) (ob := K91.ob) (M := 20000) (loose := K91.loose) (d := HandSHeadRun.topDef (OpenLaw.row PySem.Challenge.rw_nohalfseen_k91_papers_as_texts).prog 102) (kwd := []) K91.ob_eq
    (by kernel_rfl) (fun s => by kernel_rfl) K91.run (by kernel_rfl) (by kernel_rfl) (by kernel_rfl) (by rfl) (by first | assumption | decide +kernel) (by decide +kernel) ⟨rfl, rfl, rfl, rfl, rfl, by decide +kernel⟩ ?hw ?hc
  case hw => w_witness2
  case hc =>
    refine LamX.walk_ofTsE (l := PySem.Challenge.rw_nohalfseen_k91_papers_as_texts) (n := 63) (k := 225) (x := "script") (CX := fun w => L2.CX K91.PW w) rfl (by decide) (by kernel_rfl) K91.room_law ?F K91.no_cx
    intro w mg fa h Y G hmg0
    obtain ⟨K, KX, c⟩ := Y
    have hmg : mg ("law" : PySem.Str) = some (.ref fa) := by
      have e : (HandSHeadRun.topDef (OpenLaw.row PySem.Challenge.rw_nohalfseen_k91_papers_as_texts).prog 102).name = ("law" : PySem.Str) := by kernel_rfl
      rw [← e]
      exact hmg0
    exact ⟨K, KX, K91.law_at KX G c hmg⟩
