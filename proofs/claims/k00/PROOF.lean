import PyProof.Rows.All
import Wide.All
import OpenK.AllK
import Wide.FinOn
import HandS.ForMost
import HandS.Lambda
import KE.KExcSuper
import HandS.ForExc
import HandS.ExcInit
import HandS.ExcField
import HandS.ExcIs
import HandS.ExcValue
import KE.KExcIs
import HandS.IsInst
import HandS.Wide
import HandS.Flow
import HandS.Evl
import HandS.EndTab
import HandS.Style
import HandS.Star
import HandS.TryOnly
import KE.RegKSuper
import PySem.Challenge.RW_samecloth_k00_errors_and_papers
/-! part SC0 -/
set_option Elab.async false
set_option linter.all false
set_option maxRecDepth 100000
set_option maxHeartbeats 4000000
namespace SC
open PySem PySem.Spec PyProof.Rows L2

/-! ### repr of data, where no repr is under way -/
def rRepr (K : PySem.W.Frag) : List V → Hp → VK → Prop := fun xs H Q =>
  ∃ x d, xs = [x] ∧ Dp K H x d ∧ d.showable = true ∧ d.hasDict = false ∧ d.depth ≤ 60 ∧ d.shown.length ≤ sizeLine ∧ Q (.str d.shown) H
theorem call_reprD {X : Cx} (hg : X.A.guards = some []) (hu : X.A.units + 64 < cLine) : CallR X (.builtin "repr") (rRepr X.K) := by
  intro pins s σ H xs us Q I r h
  obtain ⟨x, d, rfl, hd, hs, hn, hdep, hz, q⟩ := h
  cases r with
  | cons rx rr =>
    cases rr
    rename_i u
    have fin : ∀ (h' : Heap) (t tk : Tok), (∀ b o, s.heap.get? b = some o → h'.get? b = some o) → EP X pins σ Q (.str d.shown t) { s with heap := h', toks := tk } :=
      fun h' t tk k => ⟨.str d.shown, H, I.kept (t' := tk) k, ⟨t, rfl⟩, q⟩
    have fin0 : ∀ (t tk : Tok), EP X pins σ Q (.str d.shown t) { s with toks := tk } := fun t tk => fin s.heap t tk fun _ _ e => e
    cases hd with
    | non =>
      cases rx
      exact P.repr_of_none (fin0 _ _)
    | bl b =>
      cases rx
      exact P.repr_of_bool (fin0 _ _)
    | int i =>
      obtain ⟨t, rfl⟩ := rx
      have h1 : i.natAbs.log2 < 1920 := by simpa [PyData.showable] using hs
      exact P.repr_of_int h1 (fin0 _ _)
    | str y =>
      obtain ⟨t, rfl⟩ := rx
      have h1 : (reprText y).length ≤ sizeLine := by simpa only [PyData.shown] using hz
      exact P.repr_of_str (fin0 _ _) h1
    | lst hl ha =>
      obtain ⟨as, rd⟩ := Dp.reads I _ _ _ (Dp.lst hl ha) rx
      cases rx
      exact repr_of_reads' rd hs (PyData.noDict_hsm hn) hg (by omega) (fun _ _ e => e) (fun h' t tk k => fin h' t tk k) hz
    | tup hl ha =>
      obtain ⟨as, rd⟩ := Dp.reads I _ _ _ (Dp.tup hl ha) rx
      cases rx
      exact repr_of_reads' rd hs (PyData.noDict_hsm hn) hg (by omega) (fun _ _ e => e) (fun h' t tk k => fin h' t tk k) hz

/-! ### a def told at one surrounding -/
structure FnAt (A : Around) (P : Program) (w : World) (K : PySem.W.Frag) (mg : Str → Option Value) (base : Heap) (CX : CXT) (f : Addr) (fd : FuncData) (ps : List Str) (sp : Sp) : Prop where
  len : ∀ vs H Q E, sp vs H Q E → vs.length = ps.length
  run : ∀ (outer : List Env) (s : Shared) (H : Hp) (args : Args) (us : List Value) (vs : List V) (Q : VK) (E : XK), Env0 P w K mg base A outer s H → BindsTo s fd args (ps.zip us) → Vals vs us → sp vs H Q E →
    codeAny (model P w) A (.call (.ref f) args) (CR CX outer P w H s Q E) s
/-- .. wherever no repr is under way and there is room -/
def FnG (P : Program) (w : World) (K : PySem.W.Frag) (mg : Str → Option Value) (base : Heap) (CX : CXT) (k : Nat) (f : Addr) (fd : FuncData) (ps : List Str) (sp : Sp) : Prop :=
  ∀ A : Around, A.guards = some [] → Room k A → FnAt A P w K mg base CX f fd ps sp
section
variable {P : Program} {w : World} {K : PySem.W.Frag} {mg : Str → Option Value} {base : Heap} {CX : CXT}
theorem FnG.of {k : Nat} {f : Addr} {fd : FuncData} {ps : List Str} {sp : Sp} (F : FnOk P w K mg base CX k f fd ps sp) : FnG P w K mg base CX k f fd ps sp :=
  fun A _ hr => ⟨F.len, fun outer s H args us vs Q E => F.run A outer s H args us vs Q E hr⟩
/-- a def by its body -/
theorem fnG_of {x qual : Str} {st : Stmt} {f : Addr} {fd : FuncData} {N ps : List Str} {k : Nat} {sp : Sp} (F : Fun K x qual st f fd) (S : FnScope N ps (defScope st)) (len : ∀ vs H Q E, sp vs H Q E → vs.length = ps.length)
    (hbody : ∀ (cdv : Value) (A : Around) (outer : List Env) (s : Shared) (H : Hp) (vs : List V) (Q : VK) (E : XK), A.guards = some [] → Room k (A.deeper (envOfC qual (defScope st) s.heap.objs.size f cdv)) → sp vs H Q E →
      ∃ t, PSs (cxOf CX P w K mg base N qual (defScope st) f cdv A outer s H E) (defBody st) t ∧ t { nx := fun _ H' => Q .non H', rt := Q } (start N vs) H) : FnG P w K mg base CX (k + 1) f fd ps sp := by
  intro A hg hr
  obtain ⟨oc, od, kV, doc, pm, an, cdv, ct, osl, rfl, lk, hcd⟩ := F.ex
  exact ⟨len, fun outer s H args us vs Q E e0 hb r hsp => LamX.run_ofS lk hcd S hr e0 hb r (len _ _ _ _ hsp) fun hr' => hbody cdv A outer s H vs Q E hg hr' hsp⟩
end
section
variable {X : Cx} {CX : CXT} {k : Nat} {f : Addr} {fd : FuncData} {ps : List Str} {sp : Sp} {dvs : List V} {ds : List Value} {E : XK} {x : Str} {p pos : Pos} {e : Expr} {es : List Expr} {t : TA}
theorem run_fnAt {pins : List (Addr × Obj)} {σ : L2.St} {H : Hp} {s : Shared} {Q : VK} {us : List Value} {vs : List V} (F : FnAt X.A X.prog X.w X.K X.mg X.base CX f fd ps sp) (hb : Binds X.K fd ps ds) (hd : Vals dvs ds) (hx : Passes CX X E)
    (I : Inv X pins σ H s) (r : Vals vs us) (h : sp (vs ++ dvs) H Q E) : wpAny (model X.prog X.w) X.A (call (.ref f) us) (EP X pins σ Q) X.xe s := by
  have r2 : Vals (vs ++ dvs) (us ++ ds) := r.append hd
  have hl : (us ++ ds).length = ps.length := r2.length.symm.trans (F.len _ _ _ _ h)
  refine wpAny_call (codeAny_mono (F.run X.stack s H ⟨us, []⟩ (us ++ ds) (vs ++ dvs) Q E I.env0 (hb s us I.kIn hl) r2 h) fun r s' hq => ?_)
  match r, hq with
  | .error e, hq => exact hx pins σ H s e s' I hq
  | .ok (.ret u), hq => exact I.after hq
theorem pe_callG (F : FnG X.prog X.w X.K X.mg X.base CX k f fd ps sp) (hgd : X.A.guards = some []) (hr : Room k X.A) (hg : Gl X x) (hm : X.mg x = some (.ref f)) (hk : PySem.W.keepIn X.K (.ref f) = true) (hb : Binds X.K fd ps ds) (hd : Vals dvs ds) (hx : Passes CX X E)
    (ha : PA X (e :: es) t) (hdb : (x == ("__debug__" : Str)) = false := by decide) (he : starEach (e :: es) X.env = (false, eval e X.env) :: starEach es X.env := by rfl) (hpl : (backTo pos (starEach es X.env)).any (·.1) = false := by rfl) :
    PE X (.Call (.Name x p) (e :: es) [] pos) (tCall sp dvs E t) := by
  refine ⟨fun pins s σ H Q I h => wpAny_Call_Name_kw (ld_glob I hg hm ?_ hdb)⟩
  exact PySem.W.callWith_K (h₀ := X.base) I.ok.mod.kin hk (thn (ha.run pos pins s σ H _ I h) fun us s1 ⟨vs, H1, I1, r, q⟩ => ⟨I1.kIn, run_fnAt (F X.A hgd hr) hb hd hx I1 r q⟩) he hpl
end
end SC

/-! part SC1 -/
set_option Elab.async false
set_option linter.all false
set_option maxRecDepth 100000
set_option maxHeartbeats 4000000
/-! own exceptions over ValueError whose __init__ begins with super().__init__(..): one field, two fields -/
namespace PySem
namespace SupX
theorem mcall_at {o : Expr} {name : Str} {c d : Pos} {args : List Expr} {env : Env} (hl : (c.endLine == d.line) = true) (hf : methodCallForm (args.length + 0) (backTo d (starEach args env)) (backToKw d (keywordEach [] env)) = true) :
    eval (.Call (.Attribute o name c) args [] d) env = (do
      let ov ← attributeBase o name env (eval o env)
      standAt c.atName
      let (f, first) ← holding [ov] (getMethod ov name (do return (← importBound o env).getD true))
      callWith d f first (backTo d (starEach args env)) []) := by
  rw [arm_eval_Call]
  congr 1
  funext ov
  congr 1
  funext _
  have hf' : methodCallForm (args.length + ([] : List Keyword).length) (backTo d (starEach args env)) (backToKw d (keywordEach [] env)) = true := hf
  have hk : backToKw d (keywordEach [] env) = [] := rfl
  unfold methodCall
  rw [hf']
  have e1 : calleeOf true o env ov name = getMethod ov name (do return (← importBound o env).getD true) := rfl
  have e2 : methodCallPos true o env c d = pure d := by
    unfold methodCallPos
    rw [hl]
    rfl
  rw [e1, e2, hk]
  congr 1
open PySem.W PySem.Calls PyProof.Rows PySem.HandSPX

/-- super().__init__(args) -/
def supCall (args : List Expr) (a b c d e : Pos) : Stmt := .Expr (.Call (.Attribute (.Call (.Name "super" a) [] [] b) "__init__" c) args [] d) e
/-- self.f = f -/
def setF (f : Str) (a b c d : Pos) : Stmt := .Assign [.Attribute (.Name "self" a) f b] (.Name f c) d
def argsOf (ps : List (Str × Pos)) : Arguments := { posonlyargs := [], args := ps.map fun p => { arg := p.1, annotation := none, pos := p.2 }, vararg := none, kwonlyargs := [], kw_defaults := [], kwarg := none, defaults := [] }
def scopeOf (ps : List Str) : Scope := { kind := .function, names := ps.map (fun p => (p, NameKind.local)) ++ [(("__class__" : Str), NameKind.free), (("super" : Str), NameKind.globalImplicit)], isGenerator := false, isCoroutine := false, more := [] }
/-- what the written part says of the class at C -/
structure SupC (prog : Program) (K : Frag) (C fI cc cda : Addr) : Prop where
  cls : ∃ nm q N bs bm sn sub ab col dd k0 k1 k2 k3 k5, K.lookup C = some (excClassObj nm q C N bs bm true sn sub ab col dd k0 k1 k2 k3 k5 "ValueError.__new__") ∧ refsVE bm = true
  sa : findIn K (.ref C) "__setattr__" = some (some (.builtin "object.__setattr__"))
  iC : findIn K (.ref C) "__init__" = some (some (.ref fI))
  tC : typeIn K (.ref fI) = some (.type "function")
  cell : ∃ cl cld csl, K.lookup cc = some ⟨cl, cld, .cell (some (.ref C)), csl⟩
  code : ∃ ccl cdd vs ccs file tf, K.lookup cda = some ⟨ccl, cdd, .fields vs, ccs⟩ ∧ vs[2]? = some (.str file tf) ∧ ((prog.main.file : Str) == file) = true
  sup : ks_superIn K C C "__init__" = some (some (.builtin "ValueError.__init__"))
  subVE : subIn K (.ref C) (.type "ValueError") = some true
  own : mroIn K C (.ref C) = some true
  opq : nsIn K cStatics "thirdparty.any" = some none
  noS : nsIn K mainGlobals "super" = some none
  top : (prog.main.scope.names.lookup ("super" : Str)).isSome = false

section
variable {prog : Program} {w : World} {A : Around} {E : Value → Shared → Prop} {K : Frag} {C fI cc cda : Addr} {h : Heap} {g : Array GenState} {d : Drawn} {t : Nat} {os : OsState}

/-- the method-wrapper called: the exception's arguments are laid anew -/
theorem call_mw {u x t0 : Addr} {rest : List Value} {Q : Value → Shared → Prop} (T : SupC prog K C fI cc cda) (X : K.In h) (hx : h.get? x = some (excO C t0)) (hu : h.get? u = some (kxs_mw "ValueError.__init__" x)) (hz : rest.length ≤ sizeLine)
    (hq : ∀ h' t1, (∀ b o, b ≠ x → h.get? b = some o → h'.get? b = some o) → h'.get? x = some (excO C t1) → Q .none ⟨h', g, d, t, os⟩) :
    wpAny (model prog w) A (call (.ref u) rest) Q E ⟨h, g, d, t, os⟩ := by
  obtain ⟨nm, q, N, bs, bm, sn, sub, ab, col, dd, k0, k1, k2, k3, k5, hC, hbm⟩ := T.cls
  refine wpAny_call (codeAny_of_tree ?_)
  show wpAny _ A.in1 (callAny (.ref u) ⟨rest, []⟩) _ _ _
  simp only [callAny]
  refine wpAny_bind (wpAny_load hu ?_)
  simp only [kxs_mw, show (Value.type "method-wrapper" == Value.type "method" || Value.type "method-wrapper" == Value.type "builtin_function_or_method" || Value.type "method-wrapper" == Value.type "method-wrapper") = true by decide, if_true]
  refine KFB.if_so (by decide) ?_
  refine wpAny_bind (check_bound_init F.excBase_ValueError.toExcCallFacts (X _ _ hC) hx rfl ?_)
  refine wpAny_bind (wpAny_pure (wpAny_pure ?_))
  refine ⟨plainId_quiet F.excBase_ValueError.init.plain _, codeAny_builtin F.excBase_ValueError.initEntry ?_⟩
  exact exc_init_tree (cls := .ref C) (t0 := t0) (dv := none) (c2 := .none) (c3 := .none) (b4 := .bool false) hx hz fun h' k e' _ => hq h' h.objs.size k e'

variable {q : Str} {scope : Scope} {L : Addr} {m mg mb : Str → Option Value}
/-- super().__init__(..), its arguments given by what their evaluation hands on -/
theorem sup_step {bodyS : List Stmt} {args : List Expr} {x t0 : Addr} {vals : List Value} {fd : FuncData} {oc : Value} {od : Option Addr} {osl : Array (Option Value)} {ar : Arg} {a b c dp e : Pos} {Q : Flow → Shared → Prop}
    (T : SupC prog K C fI cc cda) (X : K.In h) (hg : h.Ns mainGlobals mg) (hb : h.Ns builtinsNs mb) (hbb : ∀ x : Str, x ≠ "__name__" → mb x = bootBuiltins x)
    (hx : h.get? x = some (excO C t0)) (hns : h.Ns L m) (hf : K.lookup fI = some ⟨oc, od, .func fd, osl⟩) (hp : (fd.params.posonlyargs ++ fd.params.args).head? = some ar) (har : ar.arg = "self") (hself : m "self" = some (.ref x))
    (hkS : scope.names.lookup ("super" : Str) = some .globalImplicit) (hkC : scope.names.lookup ("__class__" : Str) = some .free) (hkE : scope.names.lookup ("self" : Str) = some .local) (hk : scope.kind = .function) (hz : vals.length ≤ sizeLine)
    (hargs : ∀ (h1 : Heap) (t1 : Nat) (Q' : List Value → Shared → Prop), h1.Ns L m → Q' vals ⟨h1, g, d, t1, os⟩ → wpAny (model prog w) A (spliced (backTo dp (starEach args (ksEnv q scope L fI (.ref cda) cc)))) Q' E ⟨h1, g, d, t1, os⟩)
    (hplain : (backTo dp (starEach args (ksEnv q scope L fI (.ref cda) cc))).any (·.1) = false) {y1 : Sem Value} {r1 : List (Bool × Sem Value)} (hsa : backTo dp (starEach args (ksEnv q scope L fI (.ref cda) cc)) = (false, y1) :: r1)
    (hl : (c.endLine == dp.line) = true) (hf2 : methodCallForm (args.length + 0) (backTo dp (starEach args (ksEnv q scope L fI (.ref cda) cc))) (backToKw dp (keywordEach [] (ksEnv q scope L fI (.ref cda) cc))) = true)
    (hi : interactive (ksEnv q scope L fI (.ref cda) cc) = false) (hsw : swapsWith (.Call (.Attribute (.Call (.Name "super" a) [] [] b) "__init__" c) args [] dp) none e.line (ksEnv q scope L fI (.ref cda) cc) = pure false)
    (hq : ∀ h' t1 tk, (∀ b o, b ≠ x → h.get? b = some o → h'.get? b = some o) → h'.get? x = some (excO C t1) → h'.Ns L m → Q .next ⟨h', g, d, tk, os⟩) :
    _root_.PySem.wpAt (model prog w) A (.func bodyS (ksEnv q scope L fI (.ref cda) cc)) (exec (supCall args a b c dp e) (ksEnv q scope L fI (.ref cda) cc)) Q E ⟨h, g, d, t, os⟩ := by
  obtain ⟨nm, q0, N, bs, bm, sn, sub, ab, col, dd, k0, k1, k2, k3, k5, hC, hbm⟩ := T.cls
  obtain ⟨cl, cld, csl, hcell⟩ := T.cell
  obtain ⟨ccl, cdd, vs, ccs, file, tf, hcode, hvs, hfile⟩ := T.code
  have hcl : clsIn K C = some { name := nm, bases := bs, mro := .ref C :: bm, ns := N, qualname := q0, hasDict := true, slotNames := sn, subclasses := sub, abstract := ab, collection := col, hasDel := false } := by unfold clsIn; rw [hC] <;> rfl
  have hCh := X _ _ hC
  have I : InstAt h x (excO C t0) C none := ⟨hx, rfl, rfl, trivial⟩
  refine ks_wpAt_Expr_any (ks_wpAt_MethodCall (pl := (do return (← importBound (.Call (.Name "super" a) [] [] b) (ksEnv q scope L fI (.ref cda) cc)).getD true)) ?_ (mcall_at hl hf2)) hi hsw
  refine ks_wpAt_super_base (env := ksEnv q scope L fI (.ref cda) cc) hkS hkC (by decide) rfl (X _ _ hf) rfl hp rfl (X _ _ hcode) rfl hvs hfile T.top ?_
  refine ks_loadName_global hk hkS (loadGlobal_builtin (env := ksEnv q scope L fI (.ref cda) cc) hg (mg_none_of X hg T.noS) hb ((hbb _ (by decide +kernel)).trans (by decide +kernel)) ⟨rfl, ?_⟩)
  refine wpAny_loadName_free hk hkC (c := cc) rfl ⟨_, X _ _ hcell, rfl⟩ ?_
  rw [har]
  refine wpAny_loadName_local hk hkE hns hself ?_
  refine ks_wpAny_isType_cls hCh rfl ⟨rfl, ?_⟩
  refine ks_wpAny_call_super hCh rfl hx rfl (fun c z => by cases z) (looks_mroIn X T.own) (fun h1 e1 k1' => ?_)
  have X1 : K.In h1 := X.keeps k1'
  have hx1 := k1' _ _ hx
  have I1 : InstAt h1 x (excO C t0) C none := ⟨hx1, rfl, rfl, trivial⟩
  have hI1 : Looks (model prog w) h1 (isInstance (.ref x) (.type "ValueError")) true := I1.type.andThen (looks_subIn X1 T.subVE)
  have hsup := T.sup
  unfold ks_superIn at hsup
  rw [hcl] at hsup
  refine kxs_getMethod (K := K) (l₀ := .ref C :: bm) kxs_ValueError e1 (looks_opaque X1 T.opq) ?_ rfl X1 hsup hI1 (ks_ne X1 I1 hcl) (by decide) ?_
  · exact fun A Q E s k q => wpAny_bind ((looks_clsIn X1 hcl) A _ E s k (wpAny_pure q))
  · have k2' : ∀ b o, h.get? b = some o → (h1.push (kxs_mw "ValueError.__init__" x)).get? b = some o := fun b o z => Heap.get?_push_of_some _ (k1' b o z)
    have hns2 : (h1.push (kxs_mw "ValueError.__init__" x)).Ns L m := hns.keeps k2'
    have hu : (h1.push (kxs_mw "ValueError.__init__" x)).get? h1.objs.size = some (kxs_mw "ValueError.__init__" x) := Heap.get?_push_at rfl rfl
    refine kxs_callWith (i := "ValueError.__init__") (x := x) hplain ?_
    rw [hsa]
    refine evalArgs_plain ?_
    rw [← hsa]
    refine hargs _ _ _ hns2 ?_
    refine ⟨hu, ?_⟩
    refine call_mw T (X.keeps k2') (k2' _ _ hx) hu hz fun h' t1 k3 e3 => ?_
    have xL : L ≠ x := fun z => by
      obtain ⟨o, es, ep, ho, hd, _⟩ := hns
      rw [z, hx] at ho
      cases ho
      cases hd
    refine hq h' t1 _ (fun b o hb z => k3 b o hb (k2' b o z)) e3 ?_
    obtain ⟨o, es, ep, ho, r⟩ := hns2
    exact ⟨o, es, ep, k3 _ _ xL ho, r⟩
end
end SupX
end PySem

/-! part SC2 -/
set_option Elab.async false
set_option linter.all false
set_option maxRecDepth 100000
set_option maxHeartbeats 4000000
namespace PySem
namespace SupX
open PySem.W PySem.Calls PyProof.Rows PySem.HandSPX

/-- def __init__(self, f): super().__init__(f); self.f = f -/
def body1 (f : Str) (a b c d1 d e q1 q2 q3 q4 : Pos) : List Stmt := [supCall [.Name f d1] a b c d e, setF f q1 q2 q3 q4]
/-- def __init__(self, f, g): super().__init__(f, g); self.f = f; self.g = g -/
def body2 (f k : Str) (a b c d1 d2 d e q1 q2 q3 q4 r1 r2 r3 r4 : Pos) : List Stmt := [supCall [.Name f d1, .Name k d2] a b c d e, setF f q1 q2 q3 q4, setF k r1 r2 r3 r4]

structure Sup1 (prog : Program) (K : Frag) (C fI cc cda : Addr) (cn f : Str) : Prop extends SupC prog K C fI cc cda where
  noF : findIn K (.ref C) f = some none
  nf : f = "part" ∨ f = "word" ∨ f = "name"
  fn : ∃ (oc : Value) (od : Option Addr) (doc pm : Value) (an : Option Addr) (ct : Value) (osl : Array (Option Value)) (p0 p1 a b c d1 d e q1 q2 q3 q4 : Pos),
    K.lookup fI = some ⟨oc, od, .func (ksFn "__init__" (cn ++ ".__init__") (argsOf [("self", p0), (f, p1)]) (body1 f a b c d1 d e q1 q2 q3 q4) (scopeOf ["self", f]) .none .none doc pm an (.ref cda) ct cc), osl⟩ ∧ codeIn K (.ref cda) (cn ++ ".__init__") = true ∧ (c.endLine == d.line) = true

structure Sup2 (prog : Program) (K : Frag) (C fI cc cda : Addr) (cn f k : Str) : Prop extends SupC prog K C fI cc cda where
  noF : findIn K (.ref C) f = some none
  noK : findIn K (.ref C) k = some none
  nf : (f = "line" ∧ k = "word") ∨ (f = "what" ∧ k = "most")
  fn : ∃ (oc : Value) (od : Option Addr) (doc pm : Value) (an : Option Addr) (ct : Value) (osl : Array (Option Value)) (p0 p1 p2 a b c d1 d2 d e q1 q2 q3 q4 r1 r2 r3 r4 : Pos),
    K.lookup fI = some ⟨oc, od, .func (ksFn "__init__" (cn ++ ".__init__") (argsOf [("self", p0), (f, p1), (k, p2)]) (body2 f k a b c d1 d2 d e q1 q2 q3 q4 r1 r2 r3 r4) (scopeOf ["self", f, k]) .none .none doc pm an (.ref cda) ct cc), osl⟩ ∧ codeIn K (.ref cda) (cn ++ ".__init__") = true ∧ (c.endLine == d.line) = true

/-- what __init__ leaves of a fresh exception at x: its dict dx holds the fields -/
structure InitEnd (h h' : Heap) (x C dx t1 : Addr) (mp : Str → Option Value) : Prop where
  keep : ∀ b o, b ≠ x → h.get? b = some o → h'.get? b = some o
  obj : h'.get? x = some { cls := .ref C, dict := some dx, data := .fields #[.ref t1, .none, .none, .none, .bool false, .none] }
  dbig : h.objs.size ≤ dx
  dne : dx ≠ x
  ns : h'.Ns1 dx mp

section
variable {prog : Program} {w : World} {A : Around} {E : Value → Shared → Prop} {R : Result → Shared → Prop} {K : Frag} {C fI cc cda : Addr} {cn f : Str} {s : Shared} {mg mb : Str → Option Value}
theorem ldK {M : Model} {q : Str} {scope : Scope} {L a cc : Addr} {cd : Value} {m : Str → Option Value} {x : Str} {pos : Pos} {v : Value} {Q : Value → Shared → Prop} (hk : scope.kind = .function) (hl : scope.names.lookup x = some .local) (hd : (x == ("__debug__" : Str)) = false) (hn : s.heap.Ns L m) (hv : m x = some v) (h : Q v s) :
    wpAny M A (eval (.Name x pos) (ksEnv q scope L a cd cc)) Q E s := wpAny_Name (wpAny_loadName_local (env := ksEnv q scope L a cd cc) hk hl hn hv h) hd
theorem init1 (T : Sup1 prog K C fI cc cda cn f) {x t0 : Addr} {v : Value} {args : Args} (X : K.In s.heap) (hlim : s.heap.NoLimit) (hg : s.heap.Ns mainGlobals mg) (hb : s.heap.Ns builtinsNs mb) (hbb : ∀ x : Str, x ≠ "__name__" → mb x = bootBuiltins x)
    (hx : s.heap.get? x = some (excO C t0)) (hnx : K.lookup x = none) (hroom : A.depth < recursionLimit)
    (hbind : ∀ fd, (∃ oc od osl, K.lookup fI = some ⟨oc, od, .func fd, osl⟩) → BindsTo s fd args [("self", .ref x), (f, v)])
    (hq : ∀ h' tk dx t1, InitEnd s.heap h' x C dx t1 (fun y => if y = f then some v else none) → R (.ok (.ret .none)) { s with heap := h', toks := tk }) :
    codeAny (model prog w) A (.call (.ref fI) args) R s := by
  obtain ⟨oc, od, doc, pm, an, ct, osl, p0, p1, a, b, c, d1, d, e, q1, q2, q3, q4, ho, hcd, hline⟩ := T.fn
  obtain ⟨nm, q, N, bs, bm, sn, sub, ab, col, dd, k0, k1, k2, k3, k5, hC, hbm⟩ := T.cls
  have hcl : clsIn K C = some { name := nm, bases := bs, mro := .ref C :: bm, ns := N, qualname := q, hasDict := true, slotNames := sn, subclasses := sub, abstract := ab, collection := col, hasDel := false } := by unfold clsIn; rw [hC] <;> rfl
  have nsf : ("self" : Str) ≠ f := by rcases T.nf with h | h | h <;> rw [h] <;> decide
  have lks : (scopeOf ["self", f]).names.lookup ("self" : Str) = some .local := by rcases T.nf with h | h | h <;> rw [h] <;> rfl
  have lkf : (scopeOf ["self", f]).names.lookup f = some .local := by rcases T.nf with h | h | h <;> rw [h] <;> rfl
  have lkS : (scopeOf ["self", f]).names.lookup ("super" : Str) = some .globalImplicit := by rcases T.nf with h | h | h <;> rw [h] <;> rfl
  have lkC : (scopeOf ["self", f]).names.lookup ("__class__" : Str) = some .free := by rcases T.nf with h | h | h <;> rw [h] <;> rfl
  have nocell : ∀ x ∈ (scopeOf ["self", f]).names, x.2 ≠ .cell := by rcases T.nf with h | h | h <;> rw [h] <;> decide
  refine ks_codeAny_call_defAt (fd := ksFn "__init__" (cn ++ ".__init__") (argsOf [("self", p0), (f, p1)]) (body1 f a b c d1 d e q1 q2 q3 q4) (scopeOf ["self", f]) .none .none doc pm an (.ref cda) ct cc) (body := body1 f a b c d1 d e q1 q2 q3 q4) (binds := [("self", .ref x), (f, v)])
    hroom (X _ _ ho) rfl hlim (codeRec_of X hcd) rfl (hbind _ ⟨_, _, _, ho⟩) nocell (fun y hy => ?_) (fun h₁ hns hk₁ => ?_)
  · rcases List.mem_cons.mp hy with rfl | hy
    · exact lks
    · rcases List.mem_cons.mp hy with rfl | hy
      · exact lkf
      · exact absurd hy (by simp)
  obtain ⟨hh, g, dr, tk, os⟩ := s
  have hself : ([("self", Value.ref x), (f, v)] : List (Str × Value)).reverse.lookup ("self" : Str) = some (Value.ref x) := by
    show List.lookup ("self" : Str) ([(f, v), ("self", Value.ref x)] : List (Str × Value)) = _
    simp [List.lookup, show (("self" : Str) == f) = false by simpa using nsf]
  have hval : ([("self", Value.ref x), (f, v)] : List (Str × Value)).reverse.lookup f = some v := by
    show List.lookup f ([(f, v), ("self", Value.ref x)] : List (Str × Value)) = _
    simp [List.lookup]
  have X1 := X.keeps hk₁
  have hx1 := hk₁ _ _ hx
  have nd : (f == ("__debug__" : Str)) = false := by rcases T.nf with h | h | h <;> rw [h] <;> decide
  refine ks_wpAt_execs_cons ?_
  refine sup_step (vals := [v]) T.toSupC X1 (hg.keeps hk₁) (hb.keeps hk₁) hbb hx1 hns ho rfl rfl hself lkS lkC lks rfl (by show 1 ≤ sizeLine; rw [sizeLine_eq]; omega) (fun h1 t1 Q' n1 hQ => ?_) rfl rfl hline rfl rfl rfl fun h2 t1 tk2 k2' hx2 hns2 => ?_
  · refine spliced_cons ?_
    exact ldK rfl lkf nd n1 hval (spliced_nil hQ)
  · -- self.f = f
    refine wpAt_of_wpAny ?_
    have X2 : K.In h2 := fun a o e => k2' a o (fun z => by rw [z, hnx] at e; cases e) (X1 a o e)
    have I2 : InstAt h2 x (excO C t1) C none := ⟨hx2, rfl, rfl, trivial⟩
    refine wpAny_execs_cons (plainObj_wpAny_Assign_Attribute ?_)
    refine ldK rfl lkf nd hns2 hval ?_
    refine ldK rfl lks (by decide) hns2 hself ?_
    refine set_plain X2 I2 T.sa ?_
    refine exc_osa X2 hx2 hcl (show refsVE (.ref C :: bm) = true from hbm) rfl T.noF (fun h3 tk3 dx k3' dn dne hx3 hn3 => ?_)
    show wpAny _ _ (execs _ _) _ _ _
    have zz : hh.objs.size < h2.objs.size := hns2.lt
    have back : ∀ b o, b ≠ x → hh.get? b = some o → h3.get? b = some o := fun b o hb e => k3' b o hb (k2' b o hb (hk₁ b o e))
    exact wpAny_execs_nil (hq h3 tk3 dx t1 ⟨back, hx3, Nat.le_of_lt (Nat.lt_of_lt_of_le zz dn), dne, hn3⟩)
theorem init2 (T : Sup2 prog K C fI cc cda cn f k) {x t0 : Addr} {v u : Value} {args : Args} (X : K.In s.heap) (hlim : s.heap.NoLimit) (hg : s.heap.Ns mainGlobals mg) (hb : s.heap.Ns builtinsNs mb) (hbb : ∀ x : Str, x ≠ "__name__" → mb x = bootBuiltins x)
    (hx : s.heap.get? x = some (excO C t0)) (hnx : K.lookup x = none) (hroom : A.depth < recursionLimit)
    (hbind : ∀ fd, (∃ oc od osl, K.lookup fI = some ⟨oc, od, .func fd, osl⟩) → BindsTo s fd args [("self", .ref x), (f, v), (k, u)])
    (hq : ∀ h' tk dx t1, InitEnd s.heap h' x C dx t1 (fun y => if y = k then some u else if y = f then some v else none) → R (.ok (.ret .none)) { s with heap := h', toks := tk }) :
    codeAny (model prog w) A (.call (.ref fI) args) R s := by
  obtain ⟨oc, od, doc, pm, an, ct, osl, p0, p1, p2, a, b, c, d1, d2, d, e, q1, q2, q3, q4, r1, r2, r3, r4, ho, hcd, hline⟩ := T.fn
  obtain ⟨nm, q, N, bs, bm, sn, sub, ab, col, dd, k0, k1, k2, k3, k5, hC, hbm⟩ := T.cls
  have hcl : clsIn K C = some { name := nm, bases := bs, mro := .ref C :: bm, ns := N, qualname := q, hasDict := true, slotNames := sn, subclasses := sub, abstract := ab, collection := col, hasDel := false } := by unfold clsIn; rw [hC] <;> rfl
  have nsf : ("self" : Str) ≠ f ∧ ("self" : Str) ≠ k ∧ f ≠ k := by rcases T.nf with ⟨h, hk⟩ | ⟨h, hk⟩ <;> (subst h; subst hk) <;> decide
  have lkk : (scopeOf ["self", f, k]).names.lookup k = some .local := by rcases T.nf with ⟨h, hk⟩ | ⟨h, hk⟩ <;> (subst h; subst hk) <;> rfl
  have ndk : (k == ("__debug__" : Str)) = false := by rcases T.nf with ⟨h, hk⟩ | ⟨h, hk⟩ <;> (subst h; subst hk) <;> decide
  have lks : (scopeOf ["self", f, k]).names.lookup ("self" : Str) = some .local := by rcases T.nf with ⟨h, hk⟩ | ⟨h, hk⟩ <;> (subst h; subst hk) <;> rfl
  have lkf : (scopeOf ["self", f, k]).names.lookup f = some .local := by rcases T.nf with ⟨h, hk⟩ | ⟨h, hk⟩ <;> (subst h; subst hk) <;> rfl
  have lkS : (scopeOf ["self", f, k]).names.lookup ("super" : Str) = some .globalImplicit := by rcases T.nf with ⟨h, hk⟩ | ⟨h, hk⟩ <;> (subst h; subst hk) <;> rfl
  have lkC : (scopeOf ["self", f, k]).names.lookup ("__class__" : Str) = some .free := by rcases T.nf with ⟨h, hk⟩ | ⟨h, hk⟩ <;> (subst h; subst hk) <;> rfl
  have nocell : ∀ x ∈ (scopeOf ["self", f, k]).names, x.2 ≠ .cell := by rcases T.nf with ⟨h, hk⟩ | ⟨h, hk⟩ <;> (subst h; subst hk) <;> decide
  refine ks_codeAny_call_defAt (fd := ksFn "__init__" (cn ++ ".__init__") (argsOf [("self", p0), (f, p1), (k, p2)]) (body2 f k a b c d1 d2 d e q1 q2 q3 q4 r1 r2 r3 r4) (scopeOf ["self", f, k]) .none .none doc pm an (.ref cda) ct cc) (body := body2 f k a b c d1 d2 d e q1 q2 q3 q4 r1 r2 r3 r4) (binds := [("self", .ref x), (f, v), (k, u)])
    hroom (X _ _ ho) rfl hlim (codeRec_of X hcd) rfl (hbind _ ⟨_, _, _, ho⟩) nocell (fun y hy => ?_) (fun h₁ hns hk₁ => ?_)
  · rcases List.mem_cons.mp hy with rfl | hy
    · exact lks
    · rcases List.mem_cons.mp hy with rfl | hy
      · exact lkf
      · rcases List.mem_cons.mp hy with rfl | hy
        · exact lkk
        · exact absurd hy (by simp)
  obtain ⟨hh, g, dr, tk, os⟩ := s
  have hself : ([("self", Value.ref x), (f, v), (k, u)] : List (Str × Value)).reverse.lookup ("self" : Str) = some (Value.ref x) := by
    show List.lookup ("self" : Str) ([(k, u), (f, v), ("self", Value.ref x)] : List (Str × Value)) = _
    simp [List.lookup, show (("self" : Str) == f) = false by simpa using nsf.1, show (("self" : Str) == k) = false by simpa using nsf.2.1]
  have hval : ([("self", Value.ref x), (f, v), (k, u)] : List (Str × Value)).reverse.lookup f = some v := by
    show List.lookup f ([(k, u), (f, v), ("self", Value.ref x)] : List (Str × Value)) = _
    simp [List.lookup, show (f == k) = false by simpa using nsf.2.2]
  have hvalk : ([("self", Value.ref x), (f, v), (k, u)] : List (Str × Value)).reverse.lookup k = some u := by
    show List.lookup k ([(k, u), (f, v), ("self", Value.ref x)] : List (Str × Value)) = _
    simp [List.lookup]
  have X1 := X.keeps hk₁
  have hx1 := hk₁ _ _ hx
  have nd : (f == ("__debug__" : Str)) = false := by rcases T.nf with ⟨h, hk⟩ | ⟨h, hk⟩ <;> (subst h; subst hk) <;> decide
  refine ks_wpAt_execs_cons ?_
  refine sup_step (vals := [v, u]) T.toSupC X1 (hg.keeps hk₁) (hb.keeps hk₁) hbb hx1 hns ho rfl rfl hself lkS lkC lks rfl (by show 2 ≤ sizeLine; rw [sizeLine_eq]; omega) (fun h1 t1 Q' n1 hQ => ?_) rfl rfl hline rfl rfl rfl fun h2 t1 tk2 k2' hx2 hns2 => ?_
  · refine spliced_cons ?_
    exact ldK rfl lkf nd n1 hval (spliced_cons (ldK rfl lkk ndk n1 hvalk (spliced_nil hQ)))
  · -- self.f = f
    refine wpAt_of_wpAny ?_
    have X2 : K.In h2 := fun a o e => k2' a o (fun z => by rw [z, hnx] at e; cases e) (X1 a o e)
    have I2 : InstAt h2 x (excO C t1) C none := ⟨hx2, rfl, rfl, trivial⟩
    refine wpAny_execs_cons (plainObj_wpAny_Assign_Attribute ?_)
    refine ldK rfl lkf nd hns2 hval ?_
    refine ldK rfl lks (by decide) hns2 hself ?_
    refine set_plain X2 I2 T.sa ?_
    refine exc_osa X2 hx2 hcl (show refsVE (.ref C :: bm) = true from hbm) rfl T.noF (fun h3 tk3 dx k3' dn dne hx3 hn3 => ?_)
    show wpAny _ _ (execs _ _) _ _ _
    have zz : hh.objs.size < h2.objs.size := hns2.lt
    have X3 : K.In h3 := fun a o e => k3' a o (fun z => by rw [z, hnx] at e; cases e) (X2 a o e)
    have xL : hh.objs.size ≠ x := fun z => by
      have q := Heap.lt_size hx
      rw [← z] at q
      exact Nat.lt_irrefl _ q
    have hns3 : h3.Ns hh.objs.size (fun x_1 => ([("self", Value.ref x), (f, v), (k, u)] : List (Str × Value)).reverse.lookup x_1) := by
      obtain ⟨o, es, ep, ho, r⟩ := hns2
      exact ⟨o, es, ep, k3' _ _ xL ho, r⟩
    have wi : Within (fun y => if y = f then some v else none) [f] := Within.cons f v Within.nil
    obtain ⟨oD, esD, epD, hoD, hdD, _⟩ := hn3.count wi
    have I3 : InstAt h3 x { cls := .ref C, dict := some dx, data := .fields #[.ref t1, .none, .none, .none, .bool false, .none] } C (some oD) := ⟨hx3, rfl, rfl, hoD⟩
    refine wpAny_execs_cons (plainObj_wpAny_Assign_Attribute ?_)
    refine ldK rfl lkk ndk hns3 hvalk ?_
    refine ldK rfl lks (by decide) hns3 hself ?_
    refine set_plain X3 I3 T.sa ?_
    refine PySem.OEX.osa_old X3 hx3 hn3 wi (by show 1 ≤ 1000; omega) hcl (show refsVE (.ref C :: bm) = true from hbm) rfl T.noK (fun h4 tk4 k4' hn4 => ?_)
    show wpAny _ _ (execs _ _) _ _ _
    have big : hh.objs.size < dx := Nat.lt_of_lt_of_le zz dn
    have back : ∀ b o, b ≠ x → hh.get? b = some o → h4.get? b = some o := fun b o hb e => k4' b o (Nat.ne_of_lt (Nat.lt_trans (Heap.lt_size e) big)) (k3' b o hb (k2' b o hb (hk₁ b o e)))
    exact wpAny_execs_nil (hq h4 _ dx t1 ⟨back, k4' _ _ (Ne.symm dne) hx3, Nat.le_of_lt big, dne, hn4⟩)
end
end SupX
end PySem

/-! part SC3 -/
set_option Elab.async false
set_option linter.all false
set_option maxRecDepth 100000
set_option maxHeartbeats 4000000
namespace PySem
namespace SupX
open PySem.W PySem.Calls PyProof.Rows PySem.HandSPX
section
variable {M : Model} {A : Around} {E : Value → Shared → Prop} {h : Heap} {g : Array GenState} {d : Drawn} {t : Nat} {os : OsState}
variable {nm q : Str} {C N : Addr} {bs bm bmB : List Value} {hdct : Bool} {sn : List Str} {sub : List Value} {ab : Bool} {col : Option Bool} {dd : Option Addr} {k0 k1 k2 k3 k5 : Option Value} {B newId initId : String}
/-- a call of the class, keywords too: what it is asked for ahead -/
theorem new_kw_ok (F : ExcBaseFacts B newId initId bmB) (hT : ∀ X : String, bm.contains (.type X) = bmB.contains (.type X)) {rest : List Value} {kw : List (Str × Value)} {Q : Unit → Shared → Prop}
    (hC : h.get? C = some (excClassObj nm q C N bs bm hdct sn sub ab col dd k0 k1 k2 k3 k5 newId)) (hq : Q () ⟨h, g, d, t, os⟩) : wpAny M A (checkBuiltinCall newId ⟨.ref C :: rest, kw⟩) Q E ⟨h, g, d, t, os⟩ := by
  have hin : (Value.ref C :: bm).contains (.type B) = true := by rw [List.contains_cons, hT, F.hasB, Bool.or_true]
  have hs := F.noStar
  simp only [checkBuiltinCall, F.newKind, F.newSplit, F.newRow]
  repeat (first | refine wpAny_loadPart_at hC ?_ | (refine wpAny_isSubtype_exc hC ?_; rw [hin]) | refine wpAny_staticBase_exc hC ?_ | refine wpAny_madeBy_exc hC ?_ | simp only [bne_self_eq_false, Bool.false_eq_true, if_false] | wp_step)
  exact hq
end
section
variable {prog : Program} {w : World} {A : Around} {E : Value → Shared → Prop} {R : Result → Shared → Prop} {h : Heap} {g : Array GenState} {d : Drawn} {t : Nat} {os : OsState}
variable {nm q : Str} {C N : Addr} {bs bm bmB : List Value} {hdct : Bool} {sn : List Str} {sub : List Value} {ab : Bool} {col : Option Bool} {dd : Option Addr} {k0 k1 k2 k3 k5 : Option Value} {B newId initId : String}
theorem new_kw (F : ExcBaseFacts B newId initId bmB) (hT : ∀ X : String, bm.contains (.type X) = bmB.contains (.type X)) {rest : List Value} {kw : List (Str × Value)}
    (hC : h.get? C = some (excClassObj nm q C N bs bm hdct sn sub ab col dd k0 k1 k2 k3 k5 newId)) (hz : rest.length ≤ sizeLine)
    (hq : R (.ok (.ret (.ref (h.objs.size + 1)))) ⟨(h.push (W.kdv_tup rest)).push (excO C h.objs.size), g, d, t, os⟩) :
    codeAny (model prog w) A (.builtin newId ⟨.ref C :: rest, kw⟩) R ⟨h, g, d, t, os⟩ := by
  have he := F.ends
  have c1 : (Value.ref C :: bm).contains (.type B) = true := by rw [List.contains_cons, hT, F.hasB, Bool.or_true]
  have c2 : (Value.ref C :: bm).contains (.type "AttributeError") = false := by rw [List.contains_cons, hT, F.noAttr]; rfl
  have c3 : (Value.ref C :: bm).contains (.type "NameError") = false := by rw [List.contains_cons, hT, F.noName]; rfl
  refine codeAny_builtinAt F.entry ?_
  unfold Builtin.«BaseException.__new__»
  refine wpAt_bind ?_
  show wpAt _ _ _ (stack >>= _) _ _ _
  refine wpAt_bind (wpAt_stack fun p below => wpAt_of_wpAny ?_)
  wp_walk
  refine wpAt_of_wpAny ?_
  rw [F.owner]
  repeat (first | with_reducible refine wpAny_madeHere_exc F.canon hC ?_ | with_reducible refine wpAny_loadPart_at hC ?_ | (with_reducible refine wpAny_isSubtype_exc hC ?_; first | rw [c1] | rw [c2] | rw [c3]) | wp_step)
  show R _ _
  rw [Heap.size_push]
  exact hq
theorem type_call_kw (F : ExcBaseFacts B newId initId bmB) (hT : ∀ X : String, bm.contains (.type X) = bmB.contains (.type X)) {rest : List Value} {kw : List (Str × Value)} {fI : Addr} {Q : Fin → Shared → Prop}
    (hC : h.get? C = some (excClassObj nm q C N bs bm hdct sn sub ab col dd k0 k1 k2 k3 k5 newId))
    (hi : W.Looks (model prog w) h (typeLookup (.ref C) "__init__") (some (.ref fI))) (hb : ∀ self, W.Looks (model prog w) h (bindSpecial (.ref fI) self) (.ref fI, [self])) (hz : rest.length ≤ sizeLine)
    (hq : codeAny (model prog w) A (.call (.ref fI) ⟨.ref (h.objs.size + 1) :: rest, kw⟩)
      (fun r s' => match r with | .ok (.ret v) => v = .none ∧ Q (.done (.ret (.ref (h.objs.size + 1)))) s' | .ok _ => False | .error e => E e s')
      ⟨(h.push (W.kdv_tup rest)).push (excO C h.objs.size), g, d, t, os⟩) :
    wpAny (model prog w) A (Builtin.«type.__call__» ⟨.ref C :: rest, kw⟩) Q E ⟨h, g, d, t, os⟩ := by
  repeat (first | with_reducible refine wpAny_loadPart_at hC ?_ | with_reducible refine wpAny_madeBy_exc hC ?_ | wp_step)
  refine codeAny_call_builtin_code (Code.quiet_builtin _ F.quiet) (new_kw_ok F hT hC ?_)
  refine new_kw F hT hC hz ?_
  show wpAny _ _ _ _ _ _
  have k : ∀ b o, h.get? b = some o → ((h.push (W.kdv_tup rest)).push (excO C h.objs.size)).get? b = some o := fun b o e => Heap.get?_push_of_some _ (Heap.get?_push_of_some _ e)
  have hC₁ := k _ _ hC
  have hget : ((h.push (W.kdv_tup rest)).push (excO C h.objs.size)).get? (h.objs.size + 1) = some (excO C h.objs.size) := by heap_get
  have hcC : (Value.ref C :: bm).contains (.ref C) = true := by simp
  have i1 := hi.keeps k
  have b1 := (hb (.ref (h.objs.size + 1))).keeps k
  unfold isInstance
  repeat (first | with_reducible refine wpAny_loadPart_at hget ?_ | (with_reducible refine wpAny_isSubtype_exc hC₁ ?_; rw [hcC]) | wp_step)
  show wpAny _ _ (typeLookup (.ref C) _) _ _ _
  refine i1.at ?_
  refine wpAny_holding (wpAny_bind (b1.at ?_))
  refine wpAny_bind (wpAny_call (codeAny_mono hq fun r s' z => ?_))
  rcases r with e | (v | _ | _ | _) <;> first | exact z | exact z.elim | skip
  obtain ⟨rfl, z⟩ := z
  first
    | exact wpAny_pure (wpAny_pure z)
    | (wp_walk; exact z)
theorem call_kw (F : ExcBaseFacts B newId initId bmB) (hT : ∀ X : String, bm.contains (.type X) = bmB.contains (.type X)) {rest : List Value} {kw : List (Str × Value)} {fI : Addr}
    (hC : h.get? C = some (excClassObj nm q C N bs bm hdct sn sub ab col dd k0 k1 k2 k3 k5 newId))
    (hi : W.Looks (model prog w) h (typeLookup (.ref C) "__init__") (some (.ref fI))) (hb : ∀ self, W.Looks (model prog w) h (bindSpecial (.ref fI) self) (.ref fI, [self])) (hz : rest.length ≤ sizeLine)
    (hq : codeAny (model prog w) (A.under (.builtin "type.__call__" ⟨.ref C :: rest, kw⟩)) (.call (.ref fI) ⟨.ref (h.objs.size + 1) :: rest, kw⟩) (W.InitBack (h.objs.size + 1) R)
      ⟨(h.push (W.kdv_tup rest)).push (excO C h.objs.size), g, d, t, os⟩) :
    codeAny (model prog w) A (.call (.ref C) ⟨rest, kw⟩) R ⟨h, g, d, t, os⟩ := by
  have f1 := tc_lookup
  have f2 := tc_bind (.ref C)
  have hTy : (⟨h, g, d, t, os⟩ : Shared).TypeIs (.ref C) "type" := ⟨_, hC, rfl⟩
  refine codeAny_of_tree ?_
  show wpAny _ _ (callAny (.ref C) _) _ _ _
  repeat (any_goals (first | assumption | with_reducible refine wpAny_loadPart_at hC ?_ | wp_step))
  refine ⟨rfl, ?_⟩
  refine codeAny_call_builtin_at (Code.quiet_builtin _ (by decide +kernel)) entry_typeCall (wpAny_check_type_call_sub hC (type_call_kw F hT hC hi hb hz ?_))
  refine codeAny_mono hq fun r s' z => ?_
  rcases r with e | (v | _ | _ | _) <;> exact z
end
end SupX
end PySem

/-! part SC4 -/
set_option Elab.async false
set_option linter.all false
set_option maxRecDepth 100000
set_option maxHeartbeats 4000000
namespace PySem
namespace SupX
open PySem.W PySem.Calls PyProof.Rows PySem.HandSPX
structure ExMade (h h' : Heap) (e C d : Addr) (mp : Str → Option Value) : Prop where
  keep : ∀ b o, h.get? b = some o → h'.get? b = some o
  new : h.objs.size ≤ e
  obj : ∃ t1 : Addr, h'.get? e = some ({ cls := .ref C, dict := some d, data := .fields #[.ref t1, .none, .none, .none, .bool false, .none] } : Obj)
  dbig : h.objs.size ≤ d
  dne : d ≠ e
  ns : h'.Ns1 d mp
section
variable {prog : Program} {w : World} {A : Around} {R : Result → Shared → Prop} {K : Frag} {C fI cc cda : Addr} {s : Shared} {mg mb : Str → Option Value}
/-- a made exception, from what its __init__ leaves -/
theorem made (T : SupC prog K C fI cc cda) {rest : List Value} {kw : List (Str × Value)} {mp : Str → Option Value} (X : K.In s.heap) (hlim : s.heap.NoLimit) (hg : s.heap.Ns mainGlobals mg) (hb : s.heap.Ns builtinsNs mb) (hroom : A.depth + 1 < recursionLimit) (hz : rest.length ≤ sizeLine)
    (hI : ∀ (A' : Around) (s' : Shared) (x t0 : Addr) (R' : Result → Shared → Prop), K.In s'.heap → s'.heap.NoLimit → s'.heap.Ns mainGlobals mg → s'.heap.Ns builtinsNs mb → s'.heap.get? x = some (excO C t0) → K.lookup x = none → A'.depth < recursionLimit →
      (∀ h' tk dx t1, InitEnd s'.heap h' x C dx t1 mp → R' (.ok (.ret .none)) { s' with heap := h', toks := tk }) → codeAny (model prog w) A' (.call (.ref fI) ⟨.ref x :: rest, kw⟩) R' s')
    (hq : ∀ h' tk e d, ExMade s.heap h' e C d mp → R (.ok (.ret (.ref e))) { s with heap := h', toks := tk }) :
    codeAny (model prog w) A (.call (.ref C) ⟨rest, kw⟩) R s := by
  obtain ⟨nm, q, N, bs, bm, sn, sub, ab, col, dd, k0, k1, k2, k3, k5, hC, hbm⟩ := T.cls
  obtain ⟨hp, g, dr, tk, os⟩ := s
  have k : ∀ b o, hp.get? b = some o → ((hp.push (kdv_tup rest)).push (excO C hp.objs.size)).get? b = some o := fun b o e => Heap.get?_push_of_some _ (Heap.get?_push_of_some _ e)
  have hget : ((hp.push (kdv_tup rest)).push (excO C hp.objs.size)).get? (hp.objs.size + 1) = some (excO C hp.objs.size) := by heap_get
  have hnx : K.lookup (hp.objs.size + 1) = none := by
    cases e : K.lookup (hp.objs.size + 1) with
    | none => rfl
    | some o => exact absurd (Nat.lt_of_succ_lt (Heap.lt_size (show hp.get? (hp.objs.size + 1) = some o from X _ _ e))) (Nat.lt_irrefl _)
  refine call_kw F.excBase_ValueError (fun X => refsVE_contains X bm hbm) (X _ _ hC) (looks_findIn X T.iC) (fun self => bind_fn X self T.tC) hz ?_
  refine hI _ ⟨(hp.push (kdv_tup rest)).push (excO C hp.objs.size), g, dr, tk, os⟩ (hp.objs.size + 1) hp.objs.size _ (X.keeps k) (hlim.keeps k) (hg.keeps k) (hb.keeps k) hget hnx ?_ fun h' tk' dx t1 M => ?_
  · have e : (A.under (.builtin "type.__call__" ⟨Value.ref C :: rest, kw⟩)).depth = A.depth + 1 := L2.make_depth
    rw [e]
    exact hroom
  · have old : ∀ b o, hp.get? b = some o → h'.get? b = some o := fun b o e => M.keep b o (Nat.ne_of_lt (Nat.lt_succ_of_lt (Heap.lt_size e))) (k b o e)
    have z : hp.objs.size + 1 + 1 ≤ dx := by
      have q := M.dbig
      rw [Heap.size_push, Heap.size_push] at q
      exact q
    exact ⟨rfl, hq h' tk' (hp.objs.size + 1) dx ⟨old, Nat.le_succ _, ⟨_, M.obj⟩, Nat.le_trans (Nat.le_succ_of_le (Nat.le_succ _)) z, M.dne, M.ns⟩⟩
/-- the class called with these values gives an exception with these fields -/
def MkE (prog : Program) (w : World) (K : Frag) (C : Addr) (rest : List Value) (kw : List (Str × Value)) (mp : Str → Option Value) : Prop :=
  ∀ (A : Around) (s : Shared) (mg mb : Str → Option Value) (R : Result → Shared → Prop), K.In s.heap → s.heap.NoLimit → s.heap.Ns mainGlobals mg → s.heap.Ns builtinsNs mb → (∀ x : Str, x ≠ "__name__" → mb x = bootBuiltins x) → A.depth + 1 < recursionLimit →
    (∀ h' tk e d, ExMade s.heap h' e C d mp → R (.ok (.ret (.ref e))) { s with heap := h', toks := tk }) → codeAny (model prog w) A (.call (.ref C) ⟨rest, kw⟩) R s
variable {cn f k : Str}
theorem mk1 (T : Sup1 prog K C fI cc cda cn f) (v : Value) : MkE prog w K C [v] [] (fun y => if y = f then some v else none) := fun A s mg mb R X lim hg hb hbb hr hq =>
  made T.toSupC X lim hg hb hr (by show 1 ≤ sizeLine; rw [sizeLine_eq]; omega) (fun A' s' x t0 R' X' l' g' b' hx hnx hr' hq' => init1 T X' l' g' b' hbb hx hnx hr' (fun fd hfd => by
    obtain ⟨oc, od, doc, pm, an, ct, osl, p0, p1, a, b, c, d1, d, e, q1, q2, q3, q4, ho, _⟩ := T.fn
    obtain ⟨_, _, _, hfd⟩ := hfd
    rw [ho] at hfd
    cases hfd
    exact BindsTo.of_eq (by rcases T.nf with h | h | h <;> subst h <;> rfl)) hq') hq
theorem mk1k (T : Sup1 prog K C fI cc cda cn f) (v : Value) : MkE prog w K C [] [(f, v)] (fun y => if y = f then some v else none) := fun A s mg mb R X lim hg hb hbb hr hq =>
  made T.toSupC X lim hg hb hr (by show 0 ≤ sizeLine; omega) (fun A' s' x t0 R' X' l' g' b' hx hnx hr' hq' => init1 T X' l' g' b' hbb hx hnx hr' (fun fd hfd => by
    obtain ⟨oc, od, doc, pm, an, ct, osl, p0, p1, a, b, c, d1, d, e, q1, q2, q3, q4, ho, _⟩ := T.fn
    obtain ⟨_, _, _, hfd⟩ := hfd
    rw [ho] at hfd
    cases hfd
    exact BindsTo.of_eq (by rcases T.nf with h | h | h <;> subst h <;> rfl)) hq') hq
theorem mk2 (T : Sup2 prog K C fI cc cda cn f k) (v u : Value) : MkE prog w K C [v, u] [] (fun y => if y = k then some u else if y = f then some v else none) := fun A s mg mb R X lim hg hb hbb hr hq =>
  made T.toSupC X lim hg hb hr (by show 2 ≤ sizeLine; rw [sizeLine_eq]; omega) (fun A' s' x t0 R' X' l' g' b' hx hnx hr' hq' => init2 T X' l' g' b' hbb hx hnx hr' (fun fd hfd => by
    obtain ⟨oc, od, doc, pm, an, ct, osl, p0, p1, p2, a, b, c, d1, d2, d, e, q1, q2, q3, q4, r1, r2, r3, r4, ho, _⟩ := T.fn
    obtain ⟨_, _, _, hfd⟩ := hfd
    rw [ho] at hfd
    cases hfd
    exact BindsTo.of_eq (by rcases T.nf with ⟨h, hk⟩ | ⟨h, hk⟩ <;> subst h <;> subst hk <;> rfl)) hq') hq
/-- the two keywords the other way round -/
theorem mk2k (T : Sup2 prog K C fI cc cda cn f k) (v u : Value) : MkE prog w K C [] [(k, u), (f, v)] (fun y => if y = k then some u else if y = f then some v else none) := fun A s mg mb R X lim hg hb hbb hr hq =>
  made T.toSupC X lim hg hb hr (by show 0 ≤ sizeLine; omega) (fun A' s' x t0 R' X' l' g' b' hx hnx hr' hq' => init2 T X' l' g' b' hbb hx hnx hr' (fun fd hfd => by
    obtain ⟨oc, od, doc, pm, an, ct, osl, p0, p1, p2, a, b, c, d1, d2, d, e, q1, q2, q3, q4, r1, r2, r3, r4, ho, _⟩ := T.fn
    obtain ⟨_, _, _, hfd⟩ := hfd
    rw [ho] at hfd
    cases hfd
    exact BindsTo.of_eq (by rcases T.nf with ⟨h, hk⟩ | ⟨h, hk⟩ <;> subst h <;> subst hk <;> rfl)) hq') hq
end
end SupX
end PySem
namespace SC
open PySem PySem.Spec PyProof.Rows L2
open PySem.SupX (MkE ExMade)
section
variable {X : Cx} {pins : List (Addr × Obj)} {σ : L2.St} {H : Hp} {s : Shared}
/-- the heap behind a made exception: at e the object, at d its dict -/
abbrev exH (H : Hp) (C e d : Addr) (fs : List (Str × V)) : Hp := upd (upd H d (.xd fs)) e (exo e C (some d))
theorem run_mkE {C : Addr} {us : List Value} {kw : List (Str × Value)} {mp : Str → Option Value} {fs : List (Str × V)} {Q : VK} (hm : MkE X.prog X.w X.K C us kw mp) (hr : X.A.depth + 1 < recursionLimit) (rel : ∀ f, RelO (fs.lookup f) (mp f)) (I : Inv X pins σ H s)
    (h : ∀ e d, H e = none → H d = none → d ≠ e → Q (.ref e) (exH H C e d fs)) : wpAny (model X.prog X.w) X.A (call (.ref C) us kw) (EP X pins σ Q) X.xe s := by
  obtain ⟨mb, b1, b2⟩ := I.mod.blt
  refine wpAny_call (hm _ s X.mg mb _ I.kIn I.nolimit (I.mod.glob.keeps I.bk) (b1.keeps I.bk) b2 hr fun h' tk e d M => ?_)
  show EP X pins σ Q (.ref e) { s with heap := h', toks := tk }
  obtain ⟨t1, he⟩ := M.obj
  obtain ⟨G, g1, g2⟩ := L2.restrict h' fun b => decide (b ≠ e)
  have gk : ∀ b, b ≠ e → G.get? b = h'.get? b := fun b hb => g1 b (decide_eq_true hb)
  have ge : G.get? e = none := g2 e (by simp)
  have old : ∀ b o, s.heap.get? b = some o → G.get? b = some o := fun b o q => (gk b (Nat.ne_of_lt (Nat.lt_of_lt_of_le (Heap.lt_size q) M.new))).trans (M.keep b o q)
  have gs : ∀ b o, G.get? b = some o → h'.get? b = some o := fun b o q => by
    by_cases hb : b = e
    · rw [hb, ge] at q
      cases q
    · rw [← gk b hb]
      exact q
  have hd : H d = none := I.hok.fresh M.dbig
  have hee : H e = none := I.hok.fresh M.new
  have J := I.laid (t' := tk) (o := .xd fs) old M.dbig ⟨mp, M.ns.at (fun o q => (gk d M.dne).trans q), rel⟩
  have J2 := Inv.laidN (t' := tk) (o := exo e C (some d)) J gs ge (by rw [upd_ne (Ne.symm M.dne)]; exact hee) (exo_ok he)
  exact ⟨.ref e, _, J2, rfl, h e d hee hd M.dne⟩
end
end SC

/-! part SC5 -/
set_option Elab.async false
set_option linter.all false
set_option maxRecDepth 100000
set_option maxHeartbeats 4000000
namespace SC
open PySem PySem.Spec PyProof.Rows L2
open PySem.SupX (MkE ExMade Sup1 Sup2 SupC mk1 mk1k mk2 mk2k)

/-! ### an exception of an own class, held as a value -/
/-- at a: an exception of the class at C with these fields -/
def IsEx (H : Hp) (a C : Addr) (fs : List (Str × V)) : Prop := ∃ d, H a = some (exo a C (some d)) ∧ H d = some (.xd fs)
theorem IsEx.same {H H' : Hp} {a C : Addr} {fs : List (Str × V)} (h : IsEx H a C fs) (s : Same H H') : IsEx H' a C fs := by
  obtain ⟨d, h1, h2⟩ := h
  exact ⟨d, s _ _ h1, s _ _ h2⟩
theorem IsEx.mk {H : Hp} {C e d : Addr} {fs : List (Str × V)} (h : d ≠ e) : IsEx (exH H C e d fs) e C fs := ⟨d, upd_same, by show upd (upd H d _) e _ d = _; rw [upd_ne h, upd_same]⟩
theorem exH_same {H : Hp} {C e d : Addr} {fs : List (Str × V)} (he : H e = none) (hd : H d = none) : Same H (exH H C e d fs) := fun b o q => by
  show upd (upd H d _) e _ b = _
  rw [upd_ne (ne_of_none q he), upd_ne (ne_of_none q hd)]
  exact q
/-- what the written part says of the class, for its instances to be looked at -/
structure ExF (K : PySem.W.Frag) (C : Addr) : Prop where
  cl : (PySem.W.clsIn K C).isSome = true
  ga : PySem.W.findIn K (.ref C) "__getattribute__" = some (some (.builtin "BaseException.__getattribute__"))
  gg : PySem.W.findIn K (.ref C) "__getattr__" = some none
  exC : PySem.W.subIn K (.ref C) (.type "BaseException") = some true
  hd : PySem.W.hasDictIn K C = true
  ca : PySem.W.findIn K (.ref C) "__class__" = some (some (.builtin "object.__class__"))
  sn : PySem.W.specialIn K (.builtin "object.__class__") "__get__" = some (some (.builtin "getset_descriptor.__get__"))
  tk : PySem.W.takesIn K (.builtin "object.__class__") = some true
  mo : PySem.W.mroIn K C (.type "object") = some true
section
variable {X : Cx} {pins : List (Addr × Obj)} {σ : L2.St} {H : Hp} {s : Shared}
theorem ex_inst {a C : Addr} {fs : List (Str × V)} (I : Inv X pins σ H s) (h : IsEx H a C fs) : ∃ (oe od : Obj) (d : Addr) (mA : Str → Option Value), PySem.W.InstAt s.heap a oe C (some od) ∧ s.heap.Ns1 d mA ∧ s.heap.get? d = some od ∧ ∀ f, RelO (fs.lookup f) (mA f) := by
  obtain ⟨d, h1, h2⟩ := h
  obtain ⟨t1, he⟩ := exo_at I.hok h1
  have z : ObjOk X.prog X.w H s.heap d (.xd fs) := I.hok d _ h2
  obtain ⟨mA, hns, hr⟩ := z
  obtain ⟨od, ho, _⟩ := lookIn_ns hns
  exact ⟨_, od, d, mA, ⟨he, rfl, rfl, ho⟩, hns, ho, hr⟩
/-- e.f -/
def tExF (C : Addr) (f : Str) (te : TE) : TE := fun σ H Q => te σ H fun x H1 => ∃ a fs v, x = .ref a ∧ IsEx H1 a C fs ∧ fs.lookup f = some v ∧ Q v H1
theorem pe_exF {C : Addr} {e : Expr} {te : TE} {pos : Pos} {n : Str} (T : ExF X.K C) (hno : PySem.W.findIn X.K (.ref C) n = some none) (he : PE X e te) (hb : attributeBase e n X.env (eval e X.env) = eval e X.env := by rfl) :
    PE X (.Attribute e n pos) (tExF C n te) := by
  refine ⟨fun pins s σ H Q I h => attr_of hb (thn (he.run pins s σ H _ I h) fun u s1 hh => ?_)⟩
  obtain ⟨x, H1, I1, rx, a, fs, v, ex, hx, l, q⟩ := hh
  subst ex
  obtain rfl : u = Value.ref a := rx
  obtain ⟨oe, od, d, mA, J, hns, ho, hr⟩ := ex_inst I1 hx
  obtain ⟨od2, ho2, hl⟩ := lookIn_ns hns
  obtain rfl : od2 = od := Option.some.inj (ho2.symm.trans ho)
  obtain ⟨u, hu, ru⟩ := RelO.some_of (v := v) (o := mA n) (by rw [← l]; exact hr n)
  exact HandSPX.exc_get I1.kIn J T.ga T.gg T.exC (PySem.W.findObj_own T.hd hno rfl (by rw [hl, hu])) (handed_of ru) ⟨v, H1, I1.tok _, ru, q⟩
/-- the type of a value, exceptions too -/
def TyE (K : PySem.W.Frag) (H : Hp) (x : V) (t : Value) : Prop := TyX K H x t ∨ ∃ a C fs, x = .ref a ∧ IsEx H a C fs ∧ t = .ref C ∧ ExF K C
theorem kit_ofE {x : V} {u t : Value} (I : Inv X pins σ H s) (rx : RelV x u) (ty : TyE X.K H x t) : ∃ P : Heap → Prop, PySem.W.KitX X.K u t P ∧ P s.heap ∧ u ≠ .builtin "__main__.__loader__#opaque" := by
  rcases ty with ty | ⟨a, C, fs, rfl, hx, rfl, T⟩
  · exact kit_of I rx ty
  · obtain rfl : u = Value.ref a := rx
    obtain ⟨oe, od, d, mA, J, _⟩ := ex_inst I hx
    exact ⟨_, PySem.W.kitx_exc T.cl T.ga T.gg T.exC T.ca T.sn T.tk T.mo, J, fun z => nomatch z⟩
def rIsE (K : PySem.W.Frag) : List V → Hp → VK → Prop := fun xs H Q => ∃ (x c : V) (t u : Value) (b : Bool), xs = [x, c] ∧ ClsV c u ∧ TyE K H x t ∧ PySem.W.kitOne K t u = some b ∧ Q (.bl b) H
theorem call_isE : CallR X (.builtin "isinstance") (rIsE X.K) := by
  intro pins s σ H xs us Q I r h
  obtain ⟨x, c, t, u, b, rfl, k, ty, e, q⟩ := h
  obtain ⟨u1, u2, rfl, r1, r2⟩ := vals2 r
  have e2 := k.eq r2
  subst e2
  obtain ⟨P, Z, p, hx⟩ := kit_ofE I r1 ty
  exact PySem.W.kia_one Z I.kIn p e hx fun tk => ⟨.bl b, H, I.tok tk, rfl, q⟩
def rIsTE (K : PySem.W.Frag) : List V → Hp → VK → Prop := fun xs H Q => ∃ (x : V) (tp : Addr) (cs : List V) (t : Value) (us : List Value) (b : Bool), xs = [x, .ref tp] ∧ H tp = some (.tup cs) ∧ Paired ClsV cs us ∧ TyE K H x t ∧ PySem.W.kitAny K t us = some b ∧ Q (.bl b) H
theorem call_isTE : CallR X (.builtin "isinstance") (rIsTE X.K) := by
  intro pins s σ H xs us Q I r h
  obtain ⟨x, tp, cs, t, vs, b, rfl, ht, k, ty, e, q⟩ := h
  obtain ⟨u1, u2, rfl, r1, r2⟩ := vals2 r
  obtain rfl : u2 = Value.ref tp := r2
  obtain ⟨_, its, rv, o, ho, hc, n, hd⟩ := (show ObjOk X.prog X.w H s.heap tp (.tup cs) from I.hok tp _ ht)
  have e2 := ClsV.all k rv
  subst e2
  obtain ⟨P, Z, p, hx⟩ := kit_ofE I r1 ty
  obtain ⟨oc, od, oda, osl⟩ := o
  dsimp only at hc hd
  subst hc hd
  exact PySem.W.kia_tup Z I.kIn p ho e hx fun tk => ⟨.bl b, H, I.tok tk, rfl, q⟩
end

/-! ### the class called -/
theorem relO1 {v : V} {u : Value} (r : RelV v u) (f : Str) : ∀ g, RelO (List.lookup g [(f, v)]) (if g = f then some u else none) := fun g => by
  by_cases h : g = f
  · subst h
    rw [if_pos rfl]
    have e : List.lookup g [(g, v)] = some v := by simp [List.lookup]
    rw [e]
    exact r
  · rw [if_neg h]
    have q : (g == f) = false := by simpa using h
    have e : List.lookup g [(f, v)] = none := by simp [List.lookup, q]
    rw [e]
    trivial
theorem relO2 {v w : V} {u z : Value} (r : RelV v u) (q : RelV w z) (f k : Str) : ∀ g, RelO (List.lookup g [(k, w), (f, v)]) (if g = k then some z else if g = f then some u else none) := fun g => by
  by_cases h : g = k
  · subst h
    rw [if_pos rfl]
    have e : List.lookup g [(g, w), (f, v)] = some w := by simp [List.lookup]
    rw [e]
    exact q
  · rw [if_neg h]
    have e : (g == k) = false := by simpa using h
    have e2 : List.lookup g [(k, w), (f, v)] = List.lookup g [(f, v)] := by simp [List.lookup, e]
    rw [e2]
    exact relO1 r f g
section
variable {X : Cx} {C fI cc cda : Addr} {cn f k x : Str} {e1 e2 : Expr} {es : List Expr} {t tk : TA} {p pos : Pos} {n : Nat} {kws : List Keyword}
/-- C(v) -/
def tEx1 (C : Addr) (f : Str) (t : TA) : TE := fun σ H Q => t σ H fun vs H1 => ∃ v, vs = [v] ∧ ∀ e d, H1 e = none → H1 d = none → d ≠ e → Q (.ref e) (exH H1 C e d [(f, v)])
def tEx2 (C : Addr) (f k : Str) (t : TA) : TE := fun σ H Q => t σ H fun vs H1 => ∃ v w, vs = [v, w] ∧ ∀ e d, H1 e = none → H1 d = none → d ≠ e → Q (.ref e) (exH H1 C e d [(k, w), (f, v)])
theorem pe_ex1 (T : Sup1 X.prog X.K C fI cc cda cn f) (hr : Room n X.A) (hg : Gl X x) (hm : X.mg x = some (.ref C)) (hk : PySem.W.keepIn X.K (.ref C) = true) (ha : PA X (e1 :: es) t)
    (hdb : (x == ("__debug__" : Str)) = false := by decide) (he : starEach (e1 :: es) X.env = (false, eval e1 X.env) :: starEach es X.env := by rfl) (hpl : (backTo pos (starEach es X.env)).any (·.1) = false := by rfl) :
    PE X (.Call (.Name x p) (e1 :: es) [] pos) (tEx1 C f t) := by
  refine ⟨fun pins s σ H Q I h => wpAny_Call_Name_kw (ld_glob I hg hm ?_ hdb)⟩
  refine PySem.W.callWith_K (h₀ := X.base) I.ok.mod.kin hk (thn (ha.run pos pins s σ H _ I h) fun us s1 ⟨vs, H1, I1, r, v, ev, q⟩ => ⟨I1.kIn, ?_⟩) he hpl
  subst ev
  cases r with
  | cons rv rn =>
    cases rn
    exact run_mkE (mk1 T _) (by have := hr.dp; omega) (relO1 rv f) I1 q
theorem pe_ex2 (T : Sup2 X.prog X.K C fI cc cda cn f k) (hr : Room n X.A) (hg : Gl X x) (hm : X.mg x = some (.ref C)) (hk : PySem.W.keepIn X.K (.ref C) = true) (ha : PA X (e1 :: es) t)
    (hdb : (x == ("__debug__" : Str)) = false := by decide) (he : starEach (e1 :: es) X.env = (false, eval e1 X.env) :: starEach es X.env := by rfl) (hpl : (backTo pos (starEach es X.env)).any (·.1) = false := by rfl) :
    PE X (.Call (.Name x p) (e1 :: es) [] pos) (tEx2 C f k t) := by
  refine ⟨fun pins s σ H Q I h => wpAny_Call_Name_kw (ld_glob I hg hm ?_ hdb)⟩
  refine PySem.W.callWith_K (h₀ := X.base) I.ok.mod.kin hk (thn (ha.run pos pins s σ H _ I h) fun us s1 ⟨vs, H1, I1, r, v, w, ev, q⟩ => ⟨I1.kIn, ?_⟩) he hpl
  subst ev
  cases r with
  | cons rv rn =>
    cases rn with
    | cons rw rn =>
      cases rn
      exact run_mkE (mk2 T _ _) (by have := hr.dp; omega) (relO2 rv rw f k) I1 q
/-- C(f = v) -/
theorem pe_ex1k (T : Sup1 X.prog X.K C fI cc cda cn f) (hr : Room n X.A) (hg : Gl X x) (hm : X.mg x = some (.ref C)) (hk : PySem.W.keepIn X.K (.ref C) = true) (hkw : PK X kws tk)
    (hall : (backToKw pos (keywordEach kws X.env)).all (·.1.isSome) = true := by rfl) (hks : (backToKw pos (keywordEach kws X.env)).filterMap (·.1) = [f] := by rfl) (hdb : (x == ("__debug__" : Str)) = false := by decide)
    (hpl : ((backTo pos (starEach [] X.env)).any (·.1) || (backToKw pos (keywordEach kws X.env)).any (·.1.isNone)) = false := by rfl) : PE X (.Call (.Name x p) [] kws pos) (tEx1 C f tk) := by
  refine ⟨fun pins s σ H Q I h => wpAny_Call_Name_kw (ld_glob I hg hm ?_ hdb)⟩
  refine PySem.W.callWith_KW0 (h₀ := X.base) I.ok.mod.kin hk hall (thn (hkw.run pos pins s σ H _ I h) fun us s1 ⟨vs, H1, I1, r, v, ev, q⟩ => ⟨I1.kIn, ?_⟩) hpl
  subst ev
  rw [hks]
  cases r with
  | cons rv rn =>
    cases rn
    exact run_mkE (us := []) (mk1k T _) (by have := hr.dp; omega) (relO1 rv f) I1 q
/-- C(k = w, f = v) -/
def tEx2k (C : Addr) (f k : Str) (t : TA) : TE := fun σ H Q => t σ H fun vs H1 => ∃ v w, vs = [w, v] ∧ ∀ e d, H1 e = none → H1 d = none → d ≠ e → Q (.ref e) (exH H1 C e d [(k, w), (f, v)])
theorem pe_ex2k (T : Sup2 X.prog X.K C fI cc cda cn f k) (hr : Room n X.A) (hg : Gl X x) (hm : X.mg x = some (.ref C)) (hk : PySem.W.keepIn X.K (.ref C) = true) (hkw : PK X kws tk)
    (hall : (backToKw pos (keywordEach kws X.env)).all (·.1.isSome) = true := by rfl) (hks : (backToKw pos (keywordEach kws X.env)).filterMap (·.1) = [k, f] := by rfl) (hdb : (x == ("__debug__" : Str)) = false := by decide)
    (hpl : ((backTo pos (starEach [] X.env)).any (·.1) || (backToKw pos (keywordEach kws X.env)).any (·.1.isNone)) = false := by rfl) : PE X (.Call (.Name x p) [] kws pos) (tEx2k C f k tk) := by
  refine ⟨fun pins s σ H Q I h => wpAny_Call_Name_kw (ld_glob I hg hm ?_ hdb)⟩
  refine PySem.W.callWith_KW0 (h₀ := X.base) I.ok.mod.kin hk hall (thn (hkw.run pos pins s σ H _ I h) fun us s1 ⟨vs, H1, I1, r, v, w, ev, q⟩ => ⟨I1.kIn, ?_⟩) hpl
  subst ev
  rw [hks]
  cases r with
  | cons rw rn =>
    cases rn with
    | cons rv rn =>
      cases rn
      exact run_mkE (us := []) (mk2k T _ _) (by have := hr.dp; omega) (relO2 rv rw f k) I1 q
end
end SC

/-! part MI0 -/
set_option Elab.async false
set_option linter.all false
set_option maxRecDepth 100000
set_option maxHeartbeats 4000000
namespace SC
open PySem PySem.Spec PyProof.Rows L2
/-! ### heaps: all but one object stays -/
def But (p : Addr) (H H' : Hp) : Prop := ∀ b o, b ≠ p → H b = some o → H' b = some o
theorem But.refl (p : Addr) (H : Hp) : But p H H := fun _ _ _ h => h
theorem But.trans {p : Addr} {H H1 H2 : Hp} (a : But p H H1) (b : But p H1 H2) : But p H H2 := fun c o n h => b c o n (a c o n h)
theorem But.of {p : Addr} {H H' : Hp} (s : Same H H') : But p H H' := fun b o _ h => s b o h
theorem But.upd {p : Addr} {H : Hp} {o : HO} : But p H (upd H p o) := fun b u n h => by rw [upd_ne n]; exact h
theorem But.free {p : Addr} {H H' : Hp} {l : Addr} (e : But p H H') (n : l ≠ p) (h : H' l = Option.none) : H l = Option.none := by
  cases q : H l with
  | none => rfl
  | some o =>
    rw [e l o n q] at h
    cases h
theorem Same.newS {H : Hp} {p : Addr} {o : HO} (h : H p = none) : Same H (upd H p o) := fun b u e => by
  rw [upd_ne (ne_of_none e h)]
  exact e
theorem sql_but {K : PySem.W.Frag} {p a : Addr} {H H' : Hp} {xs : List V} (e : But p H H') (n : a ≠ p) (h : SqL K H a xs) : SqL K H' a xs := by
  rcases h with (h | ⟨o, h⟩) | h
  · exact .inl (.inl (e _ _ n h))
  · exact .inl (.inr ⟨o, e _ _ n h⟩)
  · exact .inr h
end SC
/-! a mirror of the defs: its values, its heap, and what it is to mirror -/
namespace Mi
open PySem PySem.Spec PyProof.Rows L2 SC

/-- built-in types -/
inductive BT where
  | list | tuple | int | str | bool | NoneType | dict | set | ValueError | Exception | object
  deriving DecidableEq
def BT.name : BT → String
  | .list => "list" | .tuple => "tuple" | .int => "int" | .str => "str" | .bool => "bool" | .NoneType => "NoneType" | .dict => "dict" | .set => "set" | .ValueError => "ValueError" | .Exception => "Exception" | .object => "object"
inductive MV where
  | non | bl (b : Bool) | int (i : Int) | str (x : Str) | tup (xs : List MV) | loc (n : Nat) | ty (n : BT) | cls (c : Nat) | pen
inductive MO where
  | lst (xs : List MV) | ins (c : Nat) (fs : List (Str × MV)) | ex (c : Nat) (fs : List (Str × MV))
/-- the heap; how many draws may come -/
structure MS where
  hp : List MO
  n : Nat
structure Ph where
  ls : List Addr
  pen : Addr
  B : Nat
section
variable (K : PySem.W.Frag) (cA : Nat → Addr)
mutual
inductive VR (φ : Ph) (H : Hp) : MV → V → Prop
  | non : VR φ H .non .non
  | bl (b : Bool) : VR φ H (.bl b) (.bl b)
  | int (i : Int) : VR φ H (.int i) (.int i)
  | str (x : Str) : VR φ H (.str x) (.str x)
  | ty (n : BT) : VR φ H (.ty n) (.ty n.name)
  | tup {xs : List MV} {a : Addr} {vs : List V} : SqT K H a vs → VRs φ H xs vs → VR φ H (.tup xs) (.ref a)
  | loc {n : Nat} {a : Addr} : φ.ls[n]? = some a → VR φ H (.loc n) (.ref a)
  | cls (c : Nat) : VR φ H (.cls c) (.ref (cA c))
  | pen : VR φ H .pen (.ref φ.pen)
inductive VRs (φ : Ph) (H : Hp) : List MV → List V → Prop
  | nil : VRs φ H [] []
  | cons {x : MV} {v : V} {xs : List MV} {vs : List V} : VR φ H x v → VRs φ H xs vs → VRs φ H (x :: xs) (v :: vs)
end
/-- fields: the same names, in the same order -/
inductive FR (φ : Ph) (H : Hp) : List (Str × MV) → List (Str × V) → Prop
  | nil : FR φ H [] []
  | cons {f : Str} {x : MV} {v : V} {xs : List (Str × MV)} {vs : List (Str × V)} : VR K cA φ H x v → FR φ H xs vs → FR φ H ((f, x) :: xs) ((f, v) :: vs)
def OR (φ : Ph) (H : Hp) (a : Addr) : MO → Prop
  | .lst xs => ∃ vs, H a = some (.lst vs) ∧ VRs K cA φ H xs vs
  | .ins c fs => ∃ dx gs, H a = some (.ins (cA c) dx gs) ∧ FR K cA φ H fs gs
  | .ex c fs => ∃ gs, IsEx H a (cA c) gs ∧ FR K cA φ H fs gs
def PenR (φ : Ph) (H : Hp) (m : Nat) : Prop := ∃ (c : Addr) (at' rest : Int) (ns : List Int) (n : Nat),
  H φ.pen = some (.lst [.ref c, .int at', .int rest]) ∧ H c = some (.lst (ns.map V.int)) ∧ c ≠ φ.pen ∧ ns.length ≤ 63 ∧ 0 ≤ at' ∧ at' ≤ n ∧ 0 ≤ rest ∧ (n + m ≤ φ.B ∧ φ.B ≤ 100000) ∧ φ.pen ∉ φ.ls ∧ c ∉ φ.ls
structure HR (φ : Ph) (ms : MS) (H : Hp) : Prop where
  len : φ.ls.length = ms.hp.length
  nd : φ.ls.Nodup
  obj : ∀ (i : Nat) (a : Addr) (o : MO), φ.ls[i]? = some a → ms.hp[i]? = some o → OR K cA φ H a o
  pen : PenR φ H ms.n
/-- what later states keep -/
structure Gr (φ : Ph) (H : Hp) (φ' : Ph) (H' : Hp) : Prop where
  ls : ∀ (n : Nat) (a : Addr), φ.ls[n]? = some a → φ'.ls[n]? = some a
  pen : φ'.pen = φ.pen
  B : φ'.B = φ.B
  tup : ∀ a xs, SqT K H a xs → SqT K H' a xs
end
section
variable {K : PySem.W.Frag} {cA : Nat → Addr} {φ φ1 φ2 : Ph} {H H1 H2 : Hp} {ms : MS}
theorem Gr.refl : Gr K φ H φ H := ⟨fun _ _ h => h, rfl, rfl, fun _ _ h => h⟩
theorem Gr.trans (a : Gr K φ H φ1 H1) (b : Gr K φ1 H1 φ2 H2) : Gr K φ H φ2 H2 := ⟨fun n x h => b.ls n x (a.ls n x h), b.pen.trans a.pen, b.B.trans a.B, fun x xs h => b.tup x xs (a.tup x xs h)⟩
mutual
theorem VR.gr {x : MV} {v : V} (g : Gr K φ H φ1 H1) : VR K cA φ H x v → VR K cA φ1 H1 x v
  | .non => .non
  | .bl b => .bl b
  | .int i => .int i
  | .str x => .str x
  | .ty n => .ty n
  | .tup s r => .tup (g.tup _ _ s) (VRs.gr g r)
  | .loc h => .loc (g.ls _ _ h)
  | .cls c => .cls c
  | .pen => by rw [← g.pen]; exact .pen
theorem VRs.gr {xs : List MV} {vs : List V} (g : Gr K φ H φ1 H1) : VRs K cA φ H xs vs → VRs K cA φ1 H1 xs vs
  | .nil => .nil
  | .cons a r => .cons (VR.gr g a) (VRs.gr g r)
end
theorem FR.gr {xs : List (Str × MV)} {vs : List (Str × V)} (g : Gr K φ H φ1 H1) : FR K cA φ H xs vs → FR K cA φ1 H1 xs vs
  | .nil => .nil
  | .cons a r => .cons (VR.gr g a) (FR.gr g r)
theorem VRs.len {xs : List MV} {vs : List V} : VRs K cA φ H xs vs → xs.length = vs.length
  | .nil => rfl
  | .cons _ r => by simp [VRs.len r]
theorem VRs.app {xs ys : List MV} {vs ws : List V} : VRs K cA φ H xs vs → VRs K cA φ H ys ws → VRs K cA φ H (xs ++ ys) (vs ++ ws)
  | .nil, b => b
  | .cons a r, b => .cons a (VRs.app r b)
theorem VRs.get {xs : List MV} {vs : List V} {i : Nat} {x : MV} : VRs K cA φ H xs vs → xs[i]? = some x → ∃ v, vs[i]? = some v ∧ VR K cA φ H x v
  | .nil, h => by simp at h
  | .cons (v := v) a r, h => by
    cases i with
    | zero =>
      simp at h
      subst h
      exact ⟨v, by simp, a⟩
    | succ i =>
      simp at h
      obtain ⟨v, h1, h2⟩ := VRs.get r h
      exact ⟨v, by simpa using h1, h2⟩
theorem VRs.drop {xs : List MV} {vs : List V} (k : Nat) (r : VRs K cA φ H xs vs) : VRs K cA φ H (xs.drop k) (vs.drop k) := by
  induction k generalizing xs vs with
  | zero => exact r
  | succ k ih =>
    cases r with
    | nil => exact .nil
    | cons a r => exact ih r
theorem VRs.take {xs : List MV} {vs : List V} (k : Nat) (r : VRs K cA φ H xs vs) : VRs K cA φ H (xs.take k) (vs.take k) := by
  induction k generalizing xs vs with
  | zero => exact .nil
  | succ k ih =>
    cases r with
    | nil => exact .nil
    | cons a r => exact .cons a (ih r)
theorem VRs.set {xs : List MV} {vs : List V} {x : MV} {v : V} (k : Nat) (r : VRs K cA φ H xs vs) (h : VR K cA φ H x v) : VRs K cA φ H (xs.set k x) (vs.set k v) := by
  induction k generalizing xs vs with
  | zero =>
    cases r with
    | nil => exact .nil
    | cons a r => exact .cons h r
  | succ k ih =>
    cases r with
    | nil => exact .nil
    | cons a r => exact .cons a (ih r)
theorem FR.look {xs : List (Str × MV)} {vs : List (Str × V)} {f : Str} {x : MV} : FR K cA φ H xs vs → xs.lookup f = some x → ∃ v, vs.lookup f = some v ∧ VR K cA φ H x v
  | .nil, h => by simp at h
  | .cons (f := g) (v := v) a r, h => by
    cases e : f == g with
    | true =>
      simp only [List.lookup_cons, e] at h ⊢
      cases h
      exact ⟨v, rfl, a⟩
    | false =>
      simp only [List.lookup_cons, e] at h ⊢
      exact FR.look r h
theorem sqT_same {H H' : Hp} (s : Same H H') : ∀ a xs, SqT K H a xs → SqT K H' a xs := fun a xs h => by
  rcases h with (h | ⟨o, h⟩) | h
  · exact .inl (.inl (s _ _ h))
  · exact .inl (.inr ⟨o, s _ _ h⟩)
  · exact .inr h
theorem OR.gr {a : Addr} {o : MO} (g : Gr K φ H φ1 H1) (s : Same H H1) (h : OR K cA φ H a o) : OR K cA φ1 H1 a o := by
  cases o with
  | lst xs =>
    obtain ⟨vs, h1, h2⟩ := h
    exact ⟨vs, s _ _ h1, h2.gr g⟩
  | ins c fs =>
    obtain ⟨dx, gs, h1, h2⟩ := h
    exact ⟨dx, gs, s _ _ h1, h2.gr g⟩
  | ex c fs =>
    obtain ⟨gs, h1, h2⟩ := h
    exact ⟨gs, h1.same s, h2.gr g⟩
theorem PenR.same {m : Nat} (s : Same H H1) (h : PenR φ H m) : PenR φ H1 m := by
  obtain ⟨c, at', rest, ns, n, h1, h2, h3⟩ := h
  exact ⟨c, at', rest, ns, n, s _ _ h1, s _ _ h2, h3⟩
/-- nothing new that the mirror sees -/
theorem Gr.same (s : Same H H1) : Gr K φ H φ H1 := ⟨fun _ _ h => h, rfl, rfl, sqT_same s⟩
theorem HR.same (h : HR K cA φ ms H) (s : Same H H1) : HR K cA φ ms H1 :=
  ⟨h.len, h.nd, fun i a o h1 h2 => (h.obj i a o h1 h2).gr (Gr.same s) s, h.pen.same s⟩
theorem OR.isSome {a : Addr} {o : MO} (h : OR K cA φ H a o) : H a ≠ none := by
  cases o with
  | lst xs => obtain ⟨vs, h1, _⟩ := h; rw [h1]; simp
  | ins c fs => obtain ⟨dx, gs, h1, _⟩ := h; rw [h1]; simp
  | ex c fs => obtain ⟨gs, ⟨d, h1, _⟩, _⟩ := h; rw [h1]; simp
theorem HR.at' (h : HR K cA φ ms H) {i : Nat} {a : Addr} (e : φ.ls[i]? = some a) : ∃ o, ms.hp[i]? = some o ∧ OR K cA φ H a o := by
  have hi : i < φ.ls.length := (List.getElem?_eq_some_iff.mp e).1
  rw [h.len] at hi
  exact ⟨ms.hp[i], by simp [hi], h.obj i a _ e (by simp [hi])⟩
theorem HR.fresh (h : HR K cA φ ms H) {p : Addr} (hp : H p = none) : p ∉ φ.ls := fun z => by
  obtain ⟨i, hi⟩ := List.mem_iff_getElem?.mp z
  obtain ⟨o, _, r⟩ := h.at' hi
  exact r.isSome hp
abbrev Ph.push (φ : Ph) (p : Addr) : Ph := ⟨φ.ls ++ [p], φ.pen, φ.B⟩
abbrev MS.push (ms : MS) (o : MO) : MS := ⟨ms.hp ++ [o], ms.n⟩
theorem get_push {α : Type} {xs : List α} {n : Nat} {a b : α} (h : xs[n]? = some a) : (xs ++ [b])[n]? = some a := by
  have hi : n < xs.length := (List.getElem?_eq_some_iff.mp h).1
  rw [List.getElem?_append_left hi, h]
theorem get_last {α : Type} {xs : List α} {b : α} : (xs ++ [b])[xs.length]? = some b := by simp
/-- a new object -/
theorem Gr.new {p : Addr} (s : Same H H1) : Gr K φ H (φ.push p) H1 := ⟨fun _ _ h => get_push h, rfl, rfl, sqT_same s⟩
theorem HR.new {p : Addr} {o : MO} (h : HR K cA φ ms H) (s : Same H H1) (hp : H p = none) (ho : OR K cA (φ.push p) H1 p o) : HR K cA (φ.push p) (ms.push o) H1 := by
  have hf := h.fresh hp
  refine ⟨by simp [h.len], ?_, fun i a u h1 h2 => ?_, ?_⟩
  · exact List.nodup_append.mpr ⟨h.nd, by simp, fun a ha b hb => by
      simp at hb
      subst hb
      exact fun z => hf (z ▸ ha)⟩
  · by_cases hi : i < φ.ls.length
    · rw [List.getElem?_append_left hi] at h1
      rw [List.getElem?_append_left (by rw [← h.len]; exact hi)] at h2
      exact (h.obj i a u h1 h2).gr (Gr.new s) s
    · have e : i = φ.ls.length := by
        have := (List.getElem?_eq_some_iff.mp h1).1
        simp at this
        omega
      subst e
      simp at h1
      subst h1
      rw [h.len] at h2
      simp at h2
      subst h2
      exact ho
  · obtain ⟨c, at', rest, ns, n, h1, h2, h3, h4, h5, h6, h7, h8, h9, h10⟩ := h.pen
    refine ⟨c, at', rest, ns, n, s _ _ h1, s _ _ h2, h3, h4, h5, h6, h7, h8, ?_, ?_⟩
    · intro z
      rcases List.mem_append.mp z with z | z
      · exact h9 z
      · simp at z
        have z2 : φ.pen = p := z
        rw [z2, hp] at h1
        cases h1
    · intro z
      rcases List.mem_append.mp z with z | z
      · exact h10 z
      · simp at z
        rw [z, hp] at h2
        cases h2
theorem VR.last {p : Addr} (h : HR K cA φ ms H) : VR K cA (φ.push p) H1 (.loc ms.hp.length) (.ref p) := .loc (by rw [← h.len]; exact get_last)
/-- a list, an instance, written anew -/
def Wr (H : Hp) (a : Addr) : Prop := (∃ vs, H a = some (.lst vs)) ∨ ∃ C dx gs, H a = some (.ins C dx gs)
theorem Gr.wr {a : Addr} {o' : HO} (m : Wr H a) : Gr K φ H φ (upd H a o') := ⟨fun _ _ h => h, rfl, rfl, fun b xs h => by
  have nb : ∀ u, H b = some u → (∀ vs, u ≠ .lst vs) → (∀ C dx gs, u ≠ .ins C dx gs) → b ≠ a := fun u hu n1 n2 z => by
    subst z
    rcases m with ⟨vs, m⟩ | ⟨C, dx, gs, m⟩
    · rw [hu] at m; exact n1 vs (Option.some.inj m)
    · rw [hu] at m; exact n2 C dx gs (Option.some.inj m)
  rcases h with (h | ⟨o, h⟩) | h
  · exact .inl (.inl (by rw [upd_ne (nb _ h (fun _ z => nomatch z) (fun _ _ _ z => nomatch z))]; exact h))
  · exact .inl (.inr ⟨o, by rw [upd_ne (nb _ h (fun _ z => nomatch z) (fun _ _ _ z => nomatch z))]; exact h⟩)
  · exact .inr h⟩
theorem HR.wr {i : Nat} {a : Addr} {o' : HO} {mo : MO} (h : HR K cA φ ms H) (hi : φ.ls[i]? = some a) (m : Wr H a) (ho : OR K cA φ (upd H a o') a mo) : HR K cA φ ⟨ms.hp.set i mo, ms.n⟩ (upd H a o') := by
  have nb : ∀ b u, H b = some u → (∀ vs, u ≠ .lst vs) → (∀ C dx gs, u ≠ .ins C dx gs) → b ≠ a := fun b u hu n1 n2 z => by
    subst z
    rcases m with ⟨vs, m⟩ | ⟨C, dx, gs, m⟩
    · rw [hu] at m; exact n1 vs (Option.some.inj m)
    · rw [hu] at m; exact n2 C dx gs (Option.some.inj m)
  have ma : a ∈ φ.ls := List.mem_of_getElem? hi
  refine ⟨by simp [h.len], h.nd, fun j b u h1 h2 => ?_, ?_⟩
  · by_cases hj : j = i
    · subst hj
      have e : b = a := Option.some.inj (h1.symm.trans hi)
      subst e
      have hl : j < ms.hp.length := by rw [← h.len]; exact (List.getElem?_eq_some_iff.mp h1).1
      rw [List.getElem?_set_self hl] at h2
      cases h2
      exact ho
    · rw [List.getElem?_set_ne (Ne.symm hj)] at h2
      have hb : b ≠ a := fun z => by
        subst z
        exact hj (by
          have l1 := (List.getElem?_eq_some_iff.mp h1)
          have l2 := (List.getElem?_eq_some_iff.mp hi)
          obtain ⟨p1, q1⟩ := l1
          obtain ⟨p2, q2⟩ := l2
          exact (List.getElem_inj h.nd).mp (q1.trans q2.symm))
      have g : Gr K φ H φ (upd H a o') := Gr.wr m
      have r := h.obj j b u h1 h2
      cases u with
      | lst xs =>
        obtain ⟨vs, r1, r2⟩ := r
        exact ⟨vs, by rw [upd_ne hb]; exact r1, r2.gr g⟩
      | ins c fs =>
        obtain ⟨dx, gs, r1, r2⟩ := r
        exact ⟨dx, gs, by rw [upd_ne hb]; exact r1, r2.gr g⟩
      | ex c fs =>
        obtain ⟨gs, ⟨d, r1, r2⟩, r3⟩ := r
        exact ⟨gs, ⟨d, by rw [upd_ne hb]; exact r1, by rw [upd_ne (nb _ _ r2 (fun _ z => nomatch z) (fun _ _ _ z => nomatch z))]; exact r2⟩, r3.gr g⟩
  · obtain ⟨c, at', rest, ns, n, h1, h2, h3, h4, h5, h6, h7, h8, h9, h10⟩ := h.pen
    exact ⟨c, at', rest, ns, n, by rw [upd_ne (show φ.pen ≠ a from fun z => h9 (by rw [z]; exact ma))]; exact h1, by rw [upd_ne (show c ≠ a from fun z => h10 (by rw [z]; exact ma))]; exact h2, h3, h4, h5, h6, h7, h8, h9, h10⟩
/-- the pen is drawn from -/
theorem HR.draw {m : Nat} (h : HR K cA φ ms H) (b : But φ.pen H H1) (hp : PenR φ H1 m) : HR K cA φ ⟨ms.hp, m⟩ H1 ∧ Gr K φ H φ H1 := by
  obtain ⟨c, at', rest, ns, n, h1, h2, h3, h4, h5, h6, h7, h8, h9, h10⟩ := h.pen
  have nb : ∀ b u, H b = some u → (∀ vs, u ≠ .lst vs) → b ≠ φ.pen := fun b u hu n1 z => by
    subst z
    rw [hu] at h1
    exact n1 _ (Option.some.inj h1)
  have g : Gr K φ H φ H1 := ⟨fun _ _ h => h, rfl, rfl, fun a xs h => by
    rcases h with (h | ⟨o, h⟩) | h
    · exact .inl (.inl (b _ _ (nb _ _ h (fun _ z => nomatch z)) h))
    · exact .inl (.inr ⟨o, b _ _ (nb _ _ h (fun _ z => nomatch z)) h⟩)
    · exact .inr h⟩
  refine ⟨⟨h.len, h.nd, fun i a o e1 e2 => ?_, hp⟩, g⟩
  have ha : a ≠ φ.pen := fun z => h9 (z ▸ List.mem_of_getElem? e1)
  have r := h.obj i a o e1 e2
  cases o with
  | lst xs =>
    obtain ⟨vs, r1, r2⟩ := r
    exact ⟨vs, b _ _ ha r1, r2.gr g⟩
  | ins c fs =>
    obtain ⟨dx, gs, r1, r2⟩ := r
    exact ⟨dx, gs, b _ _ ha r1, r2.gr g⟩
  | ex c fs =>
    obtain ⟨gs, ⟨d, r1, r2⟩, r3⟩ := r
    exact ⟨gs, ⟨d, b _ _ ha r1, b _ _ (nb _ _ r2 (fun _ z => nomatch z)) r2⟩, r3.gr g⟩
/-- fewer draws may come -/
theorem HR.less {m : Nat} (h : HR K cA φ ms H) (hm : m ≤ ms.n) : HR K cA φ ⟨ms.hp, m⟩ H := by
  refine ⟨h.len, h.nd, h.obj, ?_⟩
  obtain ⟨c, at', rest, ns, n, h1, h2, h3, h4, h5, h6, h7, h8, h9⟩ := h.pen
  exact ⟨c, at', rest, ns, n, h1, h2, h3, h4, h5, h6, h7, ⟨(by have := h8.1; show n + m ≤ φ.B; omega), h8.2⟩, h9⟩
end
end Mi

/-! part MI1 -/
set_option Elab.async false
set_option linter.all false
set_option maxRecDepth 100000
set_option maxHeartbeats 4000000
namespace Mi
open PySem PySem.Spec PyProof.Rows L2 SC

/-! ### answers -/
class Ans (ρ : Type) where
  bot : ρ
  ok : ρ → Prop
  dr : Nat → (Nat → ρ) → ρ
  bot_ok : ¬ ok bot
  dr_ok : ∀ {m : Nat} {k : Nat → ρ}, ok (dr m k) → ∀ i, i < m → ok (k i)
def allB : Nat → (Nat → Bool) → Bool
  | 0, _ => true
  | n + 1, k => k n && allB n k
theorem allB_ok {k : Nat → Bool} : ∀ {m : Nat}, allB m k = true → ∀ i, i < m → k i = true
  | 0, _, i, h => absurd h (Nat.not_lt_zero i)
  | n + 1, h, i, hi => by
    simp only [allB, Bool.and_eq_true] at h
    by_cases e : i = n
    · subst e; exact h.1
    · exact allB_ok h.2 i (by omega)
instance : Ans Bool := ⟨false, (· = true), allB, Bool.false_ne_true, allB_ok⟩
instance : Ans Prop := ⟨False, id, fun m k => ∀ i, i < m → k i, id, fun h => h⟩
section
variable {ρ : Type} [Ans ρ]
def opt {α : Type} (o : Option α) (k : α → ρ) : ρ := match o with
  | some a => k a
  | none => Ans.bot
def gd (b : Bool) (r : ρ) : ρ := match b with
  | true => r
  | false => Ans.bot
theorem ok_opt {α : Type} {o : Option α} {k : α → ρ} (h : Ans.ok (opt o k)) : ∃ a, o = some a ∧ Ans.ok (k a) := by
  cases o with
  | none => exact absurd h Ans.bot_ok
  | some a => exact ⟨a, rfl, h⟩
theorem ok_gd {b : Bool} {r : ρ} (h : Ans.ok (gd b r)) : b = true ∧ Ans.ok r := by
  cases b with
  | false => exact absurd h Ans.bot_ok
  | true => exact ⟨rfl, h⟩
end
abbrev ME := List (Option MV)
abbrev K1 (ρ : Type) := MV → MS → ρ
abbrev KX (ρ : Type) := Nat → List (Str × MV) → MS → ρ
section
variable (K : PySem.W.Frag) (cA : Nat → Addr)
inductive EnR (φ : Ph) (H : Hp) : ME → L2.St → Prop
  | nil : EnR φ H [] []
  | skip {s : Option V} {e : ME} {σ : L2.St} : EnR φ H e σ → EnR φ H (none :: e) (s :: σ)
  | cons {x : MV} {v : V} {e : ME} {σ : L2.St} : VR K cA φ H x v → EnR φ H e σ → EnR φ H (some x :: e) (some v :: σ)
end
section
variable {K : PySem.W.Frag} {cA : Nat → Addr} {φ φ1 φ2 : Ph} {H H1 H2 : Hp} {ms : MS}
theorem EnR.gr {e : ME} {σ : L2.St} (g : Gr K φ H φ1 H1) : EnR K cA φ H e σ → EnR K cA φ1 H1 e σ
  | .nil => .nil
  | .skip r => .skip (EnR.gr g r)
  | .cons a r => .cons (a.gr g) (EnR.gr g r)
theorem EnR.get {e : ME} {σ : L2.St} {i : Nat} {x : MV} : EnR K cA φ H e σ → e[i]? = some (some x) → ∃ v, σ[i]? = some (some v) ∧ VR K cA φ H x v
  | .nil, h => by simp at h
  | .skip r, h => by
    cases i with
    | zero => simp at h
    | succ i =>
      simp at h
      obtain ⟨v, h1, h2⟩ := EnR.get r h
      exact ⟨v, by simpa using h1, h2⟩
  | .cons (v := v) a r, h => by
    cases i with
    | zero =>
      simp at h
      subst h
      exact ⟨v, by simp, a⟩
    | succ i =>
      simp at h
      obtain ⟨v, h1, h2⟩ := EnR.get r h
      exact ⟨v, by simpa using h1, h2⟩
theorem EnR.set {e : ME} {σ : L2.St} {x : MV} {v : V} (i : Nat) (r : EnR K cA φ H e σ) (h : VR K cA φ H x v) : EnR K cA φ H (e.set i (some x)) (σ.set i (some v)) := by
  induction i generalizing e σ with
  | zero =>
    cases r with
    | nil => exact .nil
    | skip r => exact .cons h r
    | cons a r => exact .cons h r
  | succ i ih =>
    cases r with
    | nil => exact .nil
    | skip r => exact .skip (ih r)
    | cons a r => exact .cons a (ih r)
theorem EnR.unset {e : ME} {σ : L2.St} (i : Nat) (r : EnR K cA φ H e σ) : EnR K cA φ H (e.set i none) (σ.set i none) := by
  induction i generalizing e σ with
  | zero =>
    cases r with
    | nil => exact .nil
    | skip r => exact .skip r
    | cons a r => exact .skip r
  | succ i ih =>
    cases r with
    | nil => exact .nil
    | skip r => exact .skip (ih r)
    | cons a r => exact .cons a (ih r)
def wipeM (e : ME) : List Nat → ME
  | [] => e
  | v :: vs => (wipeM e vs).set v none
theorem EnR.wipe {e : ME} {σ : L2.St} (r : EnR K cA φ H e σ) : ∀ vs : List Nat, EnR K cA φ H (wipeM e vs) (L2.wipe σ vs)
  | [] => r
  | v :: vs => (EnR.wipe r vs).unset v
theorem EnR.len {e : ME} {σ : L2.St} : EnR K cA φ H e σ → e.length = σ.length
  | .nil => rfl
  | .skip r => by simp [EnR.len r]
  | .cons _ r => by simp [EnR.len r]
theorem EnR.start {N : List Str} {xs : List MV} {vs : List V} (r : VRs K cA φ H xs vs) : EnR K cA φ H (xs.map some ++ List.replicate (N.length - xs.length) none) (L2.start N vs) := by
  unfold L2.start
  rw [r.len]
  generalize N.length - vs.length = n
  induction xs generalizing vs with
  | nil =>
    cases r
    simp only [List.map_nil, List.nil_append]
    induction n with
    | zero => exact .nil
    | succ n ih => exact .skip ih
  | cons x xs ih =>
    cases r with
    | cons a r => exact .cons a (ih r)
end

/-! ### readings by the mirror -/
section
variable {ρ : Type} [Ans ρ] (K : PySem.W.Frag) (cA : Nat → Addr)
def KT (φ : Ph) (H : Hp) (k : K1 ρ) (Q : VK) : Prop := ∀ φ' ms' H' mv v, Gr K φ H φ' H' → HR K cA φ' ms' H' → VR K cA φ' H' mv v → Ans.ok (k mv ms') → Q v H'
def KTs (φ : Ph) (H : Hp) (k : List MV → MS → ρ) (Q : List V → Hp → Prop) : Prop := ∀ φ' ms' H' mv v, Gr K φ H φ' H' → HR K cA φ' ms' H' → VRs K cA φ' H' mv v → Ans.ok (k mv ms') → Q v H'
def KTb (φ : Ph) (H : Hp) (k : Bool → MS → ρ) (Q : Bool → Hp → Prop) : Prop := ∀ φ' ms' H' b, Gr K φ H φ' H' → HR K cA φ' ms' H' → Ans.ok (k b ms') → Q b H'
def KTe (φ : Ph) (H : Hp) (k : ME → MS → ρ) (Q : L2.St → Hp → Prop) : Prop := ∀ φ' ms' H' e σ, Gr K φ H φ' H' → HR K cA φ' ms' H' → EnR K cA φ' H' e σ → Ans.ok (k e ms') → Q σ H'
def XT (φ : Ph) (H : Hp) (kx : KX ρ) (E : XK) : Prop := ∀ φ' ms' H' c fs gs d, Gr K φ H φ' H' → HR K cA φ' ms' H' → H' d = some (.xd gs) → FR K cA φ' H' fs gs → Ans.ok (kx c fs ms') → E (.ref (cA c)) (some d) H'
abbrev EV (ρ : Type) := KX ρ → ME → MS → K1 ρ → ρ
abbrev EA (ρ : Type) := KX ρ → ME → MS → (List MV → MS → ρ) → ρ
abbrev EB (ρ : Type) := KX ρ → ME → MS → (Bool → MS → ρ) → ρ
structure MD (ρ : Type) where
  nx : ME → MS → ρ
  rt : K1 ρ
  bk : ME → MS → ρ
  ct : ME → MS → ρ
abbrev ES (ρ : Type) := KX ρ → ME → MS → MD ρ → ρ
structure DT (φ : Ph) (H : Hp) (d : MD ρ) (D : Ends) : Prop where
  nx : KTe K cA φ H d.nx D.nx
  rt : KT K cA φ H d.rt D.rt
  bk : KTe K cA φ H d.bk D.bk
  ct : KTe K cA φ H d.ct D.ct
def tE (E : XK) (f : EV ρ) : TE := fun σ H Q => ∃ φ env ms kx k, EnR K cA φ H env σ ∧ HR K cA φ ms H ∧ Ans.ok (f kx env ms k) ∧ KT K cA φ H k Q ∧ XT K cA φ H kx E
def tA (E : XK) (f : EA ρ) : TA := fun σ H Q => ∃ φ env ms kx k, EnR K cA φ H env σ ∧ HR K cA φ ms H ∧ Ans.ok (f kx env ms k) ∧ KTs K cA φ H k Q ∧ XT K cA φ H kx E
def tT (E : XK) (f : EB ρ) : TT := fun σ H Q => ∃ φ env ms kx k, EnR K cA φ H env σ ∧ HR K cA φ ms H ∧ Ans.ok (f kx env ms k) ∧ KTb K cA φ H k Q ∧ XT K cA φ H kx E
def tS (E : XK) (f : ES ρ) : TS := fun D σ H => ∃ φ env ms kx d, EnR K cA φ H env σ ∧ HR K cA φ ms H ∧ Ans.ok (f kx env ms d) ∧ DT K cA φ H d D ∧ XT K cA φ H kx E
end
section
variable {ρ : Type} [Ans ρ] {K : PySem.W.Frag} {cA : Nat → Addr} {φ φ1 : Ph} {H H1 : Hp}
theorem KT.gr {k : K1 ρ} {Q : VK} (g : Gr K φ H φ1 H1) (h : KT K cA φ H k Q) : KT K cA φ1 H1 k Q := fun φ' ms' H' mv v g' => h φ' ms' H' mv v (g.trans g')
theorem KTs.gr {k : List MV → MS → ρ} {Q : List V → Hp → Prop} (g : Gr K φ H φ1 H1) (h : KTs K cA φ H k Q) : KTs K cA φ1 H1 k Q := fun φ' ms' H' mv v g' => h φ' ms' H' mv v (g.trans g')
theorem KTb.gr {k : Bool → MS → ρ} {Q : Bool → Hp → Prop} (g : Gr K φ H φ1 H1) (h : KTb K cA φ H k Q) : KTb K cA φ1 H1 k Q := fun φ' ms' H' b g' => h φ' ms' H' b (g.trans g')
theorem KTe.gr {k : ME → MS → ρ} {Q : L2.St → Hp → Prop} (g : Gr K φ H φ1 H1) (h : KTe K cA φ H k Q) : KTe K cA φ1 H1 k Q := fun φ' ms' H' e σ g' => h φ' ms' H' e σ (g.trans g')
theorem XT.gr {kx : KX ρ} {E : XK} (g : Gr K φ H φ1 H1) (h : XT K cA φ H kx E) : XT K cA φ1 H1 kx E := fun φ' ms' H' c fs gs d g' => h φ' ms' H' c fs gs d (g.trans g')
theorem DT.gr {d : MD ρ} {D : Ends} (g : Gr K φ H φ1 H1) (h : DT K cA φ H d D) : DT K cA φ1 H1 d D := ⟨h.nx.gr g, h.rt.gr g, h.bk.gr g, h.ct.gr g⟩
end
/-! ### weakening -/
section
variable {X : Cx}
theorem pe_w {e : Expr} {t t' : TE} (h : PE X e t) (w : ∀ σ H Q, t' σ H Q → t σ H Q) : PE X e t' := ⟨fun pins s σ H Q I q => h.run pins s σ H Q I (w σ H Q q)⟩
theorem pa_w {e : List Expr} {t t' : TA} (h : PA X e t) (w : ∀ σ H Q, t' σ H Q → t σ H Q) : PA X e t' := ⟨fun pos pins s σ H Q I q => h.run pos pins s σ H Q I (w σ H Q q)⟩
theorem pt_w {e : Expr} {t t' : TT} (h : PT X e t) (w : ∀ σ H Q, t' σ H Q → t σ H Q) : PT X e t' := ⟨fun pins s σ H Q I q => h.run pins s σ H Q I (w σ H Q q)⟩
theorem ps_w {e : Stmt} {t t' : TS} (h : PS X e t) (w : ∀ D σ H, t' D σ H → t D σ H) : PS X e t' := ⟨fun pins s σ H D I q => h.run pins s σ H D I (w D σ H q)⟩
theorem pss_w {e : List Stmt} {t t' : TS} (h : PSs X e t) (w : ∀ D σ H, t' D σ H → t D σ H) : PSs X e t' := ⟨fun pins s σ H D I q => h.run pins s σ H D I (w D σ H q)⟩
theorem pe_no {e : Expr} {t : TE} (w : ∀ σ H Q, ¬ t σ H Q) : PE X e t := ⟨fun _ _ σ H Q _ q => absurd q (w σ H Q)⟩
theorem pe_or2 {e : Expr} {t t' u : TE} (h : PE X e t) (h' : PE X e t') (w : ∀ σ H Q, u σ H Q → t σ H Q ∨ t' σ H Q) : PE X e u := ⟨fun pins s σ H Q I q => (w σ H Q q).elim (h.run pins s σ H Q I) (h'.run pins s σ H Q I)⟩
end

/-! ### the combinators -/
section
variable {ρ : Type} [Ans ρ]
def eC (v : MV) : EV ρ := fun _ _ ms k => k v ms
def eVar (i : Nat) : EV ρ := fun _ env ms k => opt (env[i]?).join fun v => k v ms
def aNil : EA ρ := fun _ _ ms k => k [] ms
def aCons (f : EV ρ) (g : EA ρ) : EA ρ := fun kx env ms k => f kx env ms fun x ms1 => g kx env ms1 fun xs ms2 => k (x :: xs) ms2
def eTup (g : EA ρ) : EV ρ := fun kx env ms k => g kx env ms fun xs ms1 => gd (decide (xs.length ≤ 100000)) (k (.tup xs) ms1)
def eLst (g : EA ρ) : EV ρ := fun kx env ms k => g kx env ms fun xs ms1 => gd (decide (xs.length ≤ 100000)) (k (.loc ms1.hp.length) (ms1.push (.lst xs)))
def eOp (r : MV → MV → MS → K1 ρ → ρ) (f g : EV ρ) : EV ρ := fun kx env ms k => f kx env ms fun x ms1 => g kx env ms1 fun y ms2 => r x y ms2 k
def eUn (r : MV → MS → K1 ρ → ρ) (f : EV ρ) : EV ρ := fun kx env ms k => f kx env ms fun x ms1 => r x ms1 k
/-- truth -/
def truM (x : MV) (ms : MS) : Option Bool := match x with
  | .non => some false
  | .bl b => some b
  | .int i => some (i != 0)
  | .str y => match decide (y.length ≤ 100000) with
    | true => some ((y.length : Int) != 0)
    | false => none
  | .tup xs => some (!xs.isEmpty)
  | .loc n => match ms.hp[n]? with
    | some (.lst xs) => some (!xs.isEmpty)
    | _ => none
  | _ => none
def eAnd (f g : EV ρ) : EV ρ := fun kx env ms k => f kx env ms fun x ms1 => opt (truM x ms1) fun b => match b with
  | true => g kx env ms1 k
  | false => k x ms1
def eOr (f g : EV ρ) : EV ρ := fun kx env ms k => f kx env ms fun x ms1 => opt (truM x ms1) fun b => match b with
  | true => k x ms1
  | false => g kx env ms1 k
def eNot (f : EV ρ) : EV ρ := fun kx env ms k => f kx env ms fun x ms1 => opt (truM x ms1) fun b => k (.bl (!b)) ms1
def eIf (t : EB ρ) (f g : EV ρ) : EV ρ := fun kx env ms k => t kx env ms fun b ms1 => match b with
  | true => f kx env ms1 k
  | false => g kx env ms1 k
def bTru (f : EV ρ) : EB ρ := fun kx env ms k => f kx env ms fun x ms1 => opt (truM x ms1) fun b => k b ms1
def bNot (f : EB ρ) : EB ρ := fun kx env ms k => f kx env ms fun b ms1 => k (!b) ms1
def bAnd (f g : EB ρ) : EB ρ := fun kx env ms k => f kx env ms fun b ms1 => match b with
  | true => g kx env ms1 k
  | false => k false ms1
def bOr (f g : EB ρ) : EB ρ := fun kx env ms k => f kx env ms fun b ms1 => match b with
  | true => k true ms1
  | false => g kx env ms1 k
end
section
variable {ρ : Type} [Ans ρ] {X : Cx} {cA : Nat → Addr} {E : XK} {a b c e : Expr} {es : List Expr} {f g : EV ρ} {fa : EA ρ} {pos : Pos}
theorem mE_C {v : MV} {w : V} (h : PE X e (tC w)) (hv : ∀ φ H, VR X.K cA φ H v w) : PE X e (tE X.K cA E (eC (ρ := ρ) v)) :=
  pe_w h fun σ H Q ⟨φ, env, ms, kx, k, er, hr, o, kt, xt⟩ => kt φ ms H v w Gr.refl hr (hv φ H) o
theorem mE_var {i : Nat} (h : PE X e (tVar i)) : PE X e (tE X.K cA E (eVar (ρ := ρ) i)) :=
  pe_w h fun σ H Q ⟨φ, env, ms, kx, k, er, hr, o, kt, xt⟩ => by
    obtain ⟨x, h1, h2⟩ := ok_opt o
    have h3 : env[i]? = some (some x) := by
      cases q : env[i]? with
      | none => rw [q] at h1; cases h1
      | some z => rw [q] at h1; simp at h1; rw [h1]
    obtain ⟨v, h4, h5⟩ := er.get h3
    exact ⟨v, h4, kt φ ms H x v Gr.refl hr h5 h2⟩
theorem mA_nil : PA X [] (tA X.K cA E (aNil (ρ := ρ))) := pa_w pa_nil fun σ H Q ⟨φ, env, ms, kx, k, er, hr, o, kt, xt⟩ => kt φ ms H [] [] Gr.refl hr .nil o
theorem mA_cons (hf : PE X e (tE X.K cA E f)) (hg : PA X es (tA X.K cA E fa)) (hs : starEach (e :: es) X.env = (false, eval e X.env) :: starEach es X.env) : PA X (e :: es) (tA X.K cA E (aCons f fa)) :=
  pa_w (pa_cons hf hg hs) fun σ H Q ⟨φ, env, ms, kx, k, er, hr, o, kt, xt⟩ =>
    ⟨φ, env, ms, kx, _, er, hr, o, fun φ1 ms1 H1 x v g1 hr1 vx o1 => ⟨φ1, env, ms1, kx, _, er.gr g1, hr1, o1, fun φ2 ms2 H2 xs vs g2 hr2 vxs o2 =>
      kt φ2 ms2 H2 (x :: xs) (v :: vs) (g1.trans g2) hr2 (.cons (vx.gr g2) vxs) o2, xt.gr g1⟩, xt⟩
theorem le_line {n : Nat} (h : decide (n ≤ 100000) = true) : n ≤ sizeLine := Evl.sz_of (of_decide_eq_true h)
theorem mE_tup {k0 : Nat} (hg : PA X es (tA X.K cA E fa)) : PE X (.Tuple es k0 pos) (tE X.K cA E (eTup fa)) :=
  pe_w (pe_tup hg) fun σ H Q ⟨φ, env, ms, kx, k, er, hr, o, kt, xt⟩ =>
    ⟨φ, env, ms, kx, _, er, hr, o, fun φ1 ms1 H1 xs vs g1 hr1 vx o1 => by
      obtain ⟨h1, h2⟩ := ok_gd o1
      refine ⟨by rw [← vx.len]; exact le_line h1, fun p hp => ?_⟩
      have s := Same.newS (o := .tup vs) hp
      exact kt φ1 ms1 _ (.tup xs) (.ref p) (g1.trans (Gr.same s)) (hr1.same s) (.tup (.inl (.inl upd_same)) (vx.gr (Gr.same s))) h2, xt⟩
/-- a new list lies at p -/
theorem new_lst {K : PySem.W.Frag} {φ : Ph} {H : Hp} {ms : MS} {xs : List MV} {vs : List V} {p : Addr} (hr : HR K cA φ ms H) (hp : H p = none) (vx : VRs K cA φ H xs vs) :
    Gr K φ H (φ.push p) (L2.upd H p (.lst vs)) ∧ HR K cA (φ.push p) (ms.push (.lst xs)) (L2.upd H p (.lst vs)) ∧ VR K cA (φ.push p) (L2.upd H p (.lst vs)) (.loc ms.hp.length) (.ref p) := by
  have s := Same.newS (o := .lst vs) hp
  have g : Gr K φ H (φ.push p) (L2.upd H p (.lst vs)) := Gr.new s
  exact ⟨g, hr.new s hp ⟨vs, upd_same, vx.gr g⟩, VR.last hr⟩
theorem mE_lst (hg : PA X es (tA X.K cA E fa)) : PE X (.List es pos) (tE X.K cA E (eLst fa)) :=
  pe_w (pe_lst hg) fun σ H Q ⟨φ, env, ms, kx, k, er, hr, o, kt, xt⟩ =>
    ⟨φ, env, ms, kx, _, er, hr, o, fun φ1 ms1 H1 xs vs g1 hr1 vx o1 => by
      obtain ⟨h1, h2⟩ := ok_gd o1
      refine ⟨by rw [← vx.len]; exact le_line h1, fun p hp => ?_⟩
      obtain ⟨n1, n2, n3⟩ := new_lst hr1 hp vx
      exact kt _ _ _ _ _ (g1.trans n1) n2 n3 h2, xt⟩
/-- what a mirrored operation is to a relation of values -/
def R2M (K : PySem.W.Frag) (cA : Nat → Addr) (r : MV → MV → MS → K1 ρ → ρ) : R2 := fun x y H Q => ∃ φ ms mx my k, HR K cA φ ms H ∧ VR K cA φ H mx x ∧ VR K cA φ H my y ∧ Ans.ok (r mx my ms k) ∧ KT K cA φ H k Q
theorem t_op {K : PySem.W.Frag} {r : MV → MV → MS → K1 ρ → ρ} {σ : L2.St} {H : Hp} {Q : VK} : tE K cA E (eOp r f g) σ H Q → tOp (R2M K cA r) (tE K cA E f) (tE K cA E g) σ H Q :=
  fun ⟨φ, env, ms, kx, k, er, hr, o, kt, xt⟩ =>
    ⟨φ, env, ms, kx, _, er, hr, o, fun φ1 ms1 H1 x v g1 hr1 vx o1 => ⟨φ1, env, ms1, kx, _, er.gr g1, hr1, o1, fun φ2 ms2 H2 y w g2 hr2 vy o2 =>
      ⟨φ2, ms2, x, y, k, hr2, vx.gr g2, vy, o2, kt.gr (g1.trans g2)⟩, xt.gr g1⟩, xt⟩
theorem mE_op {op : Operator} {r : MV → MV → MS → K1 ρ → ρ} (ho : OpR X (binaryOp op) (R2M X.K cA r)) (ha : PE X a (tE X.K cA E f)) (hb : PE X b (tE X.K cA E g)) : PE X (.BinOp a op b pos) (tE X.K cA E (eOp r f g)) :=
  pe_w (pe_op ho ha hb) fun σ H Q h => t_op h
theorem mE_cmp {op : CmpOp} {r : MV → MV → MS → K1 ρ → ρ} (ho : OpR X (compareOp op) (R2M X.K cA r)) (ha : PE X a (tE X.K cA E f)) (hb : PE X b (tE X.K cA E g)) (hm : behindInMarks op b = false) : PE X (.Compare a [op] [b] pos) (tE X.K cA E (eOp r f g)) :=
  pe_w (pe_cmpR ho ha hb hm) fun σ H Q h => t_op h
theorem tru_of {K : PySem.W.Frag} {φ : Ph} {H : Hp} {ms : MS} {x : MV} {v : V} {k : Bool} (hr : HR K cA φ ms H) (vx : VR K cA φ H x v) (h : truM x ms = some k) : TruV K v H k := by
  cases vx with
  | non => exact (Option.some.inj h).symm
  | bl b => exact (Option.some.inj h).symm
  | int i => exact (Option.some.inj h).symm
  | str y =>
    unfold truM at h
    dsimp only at h
    split at h
    · rename_i q
      exact ⟨le_line q, (Option.some.inj h).symm⟩
    · cases h
  | tup s r =>
    refine .inr (.inl ⟨_, s, ?_⟩)
    rw [← Option.some.inj h]
    cases r <;> rfl
  | @loc n a e =>
    obtain ⟨o, h1, h2⟩ := hr.at' e
    unfold truM at h
    dsimp only at h
    rw [h1] at h
    cases o with
    | lst xs =>
      obtain ⟨vs, h3, h4⟩ := h2
      refine .inl ⟨vs, SqL.of h3, ?_⟩
      rw [← Option.some.inj h]
      cases h4 <;> rfl
    | ins _ _ => cases h
    | ex _ _ => cases h
  | ty n => cases h
  | cls c => cases h
  | pen => cases h
theorem mE_and {rest : List Expr} (ha : PE X a (tE X.K cA E f)) (hb : PE X (.BoolOp .And (b :: rest) pos) (tE X.K cA E g)) : PE X (.BoolOp .And (a :: b :: rest) pos) (tE X.K cA E (eAnd f g)) :=
  pe_w (pe_andT ha hb) fun σ H Q ⟨φ, env, ms, kx, k, er, hr, o, kt, xt⟩ =>
    ⟨φ, env, ms, kx, _, er, hr, o, fun φ1 ms1 H1 x v g1 hr1 vx o1 => by
      obtain ⟨b, h1, h2⟩ := ok_opt o1
      refine ⟨b, tru_of hr1 vx h1, ?_⟩
      cases b with
      | true => exact iteT ⟨φ1, env, ms1, kx, k, er.gr g1, hr1, h2, kt.gr g1, xt.gr g1⟩
      | false => exact iteF (kt φ1 ms1 H1 x v g1 hr1 vx h2), xt⟩
theorem mE_or {rest : List Expr} (ha : PE X a (tE X.K cA E f)) (hb : PE X (.BoolOp .Or (b :: rest) pos) (tE X.K cA E g)) : PE X (.BoolOp .Or (a :: b :: rest) pos) (tE X.K cA E (eOr f g)) :=
  pe_w (pe_orT ha hb) fun σ H Q ⟨φ, env, ms, kx, k, er, hr, o, kt, xt⟩ =>
    ⟨φ, env, ms, kx, _, er, hr, o, fun φ1 ms1 H1 x v g1 hr1 vx o1 => by
      obtain ⟨b, h1, h2⟩ := ok_opt o1
      refine ⟨b, tru_of hr1 vx h1, ?_⟩
      cases b with
      | true => exact iteT (kt φ1 ms1 H1 x v g1 hr1 vx h2)
      | false => exact iteF ⟨φ1, env, ms1, kx, k, er.gr g1, hr1, h2, kt.gr g1, xt.gr g1⟩, xt⟩
theorem mE_not (ha : PE X a (tE X.K cA E f)) : PE X (.UnaryOp .Not a pos) (tE X.K cA E (eNot f)) :=
  pe_w (pe_notT ha) fun σ H Q ⟨φ, env, ms, kx, k, er, hr, o, kt, xt⟩ =>
    ⟨φ, env, ms, kx, _, er, hr, o, fun φ1 ms1 H1 x v g1 hr1 vx o1 => by
      obtain ⟨b, h1, h2⟩ := ok_opt o1
      exact ⟨b, tru_of hr1 vx h1, kt φ1 ms1 H1 (.bl (!b)) _ g1 hr1 (.bl _) h2⟩, xt⟩
theorem mE_if {t : EB ρ} (hc : PT X c (tT X.K cA E t)) (ha : PE X a (tE X.K cA E f)) (hb : PE X b (tE X.K cA E g)) : PE X (.IfExp c a b pos) (tE X.K cA E (eIf t f g)) :=
  pe_w (pe_ifExp hc ha hb) fun σ H Q ⟨φ, env, ms, kx, k, er, hr, o, kt, xt⟩ =>
    ⟨φ, env, ms, kx, _, er, hr, o, fun φ1 ms1 H1 x g1 hr1 o1 => by
      cases x with
      | true => exact iteT ⟨φ1, env, ms1, kx, k, er.gr g1, hr1, o1, kt.gr g1, xt.gr g1⟩
      | false => exact iteF ⟨φ1, env, ms1, kx, k, er.gr g1, hr1, o1, kt.gr g1, xt.gr g1⟩, xt⟩
theorem mT_tru (ha : PE X a (tE X.K cA E f)) (he : ∀ whole, isTrue a X.env whole = (do let v ← whole; standAt a.pos; holding [v] (truthy v))) : PT X a (tT X.K cA E (bTru f)) :=
  pt_w (pt_truth ha he) fun σ H Q ⟨φ, env, ms, kx, k, er, hr, o, kt, xt⟩ =>
    ⟨φ, env, ms, kx, _, er, hr, o, fun φ1 ms1 H1 x v g1 hr1 vx o1 => by
      obtain ⟨b, h1, h2⟩ := ok_opt o1
      exact ⟨b, tru_of hr1 vx h1, kt φ1 ms1 H1 b g1 hr1 h2⟩, xt⟩
theorem mT_not {t : EB ρ} (ha : PT X a (tT X.K cA E t)) : PT X (.UnaryOp .Not a pos) (tT X.K cA E (bNot t)) :=
  pt_w (pt_not ha) fun σ H Q ⟨φ, env, ms, kx, k, er, hr, o, kt, xt⟩ =>
    ⟨φ, env, ms, kx, _, er, hr, o, fun φ1 ms1 H1 x g1 hr1 o1 => kt φ1 ms1 H1 (!x) g1 hr1 o1, xt⟩
end
section
variable {ρ : Type} [Ans ρ] {X : Cx} {cA : Nat → Addr} {E : XK} {a b c e : Expr} {es : List Expr} {f g : EV ρ} {fa : EA ρ} {pos : Pos}
theorem pw_w {e : Expr} {t t' : TT} (h : PW X e t) (w : ∀ σ H Q, t' σ H Q → t σ H Q) : PW X e t' := ⟨fun whole pins s σ H Q I q => h.run whole pins s σ H Q I (w σ H Q q)⟩
theorem mW_and1 {t : EB ρ} (ha : PT X a (tT X.K cA E t)) : PW X (.BoolOp .And [a] pos) (tT X.K cA E t) := pw_and1 ha
theorem mW_or1 {t : EB ρ} (ha : PT X a (tT X.K cA E t)) : PW X (.BoolOp .Or [a] pos) (tT X.K cA E t) := pw_or1 ha
theorem mW_and {rest : List Expr} {t u : EB ρ} (ha : PT X a (tT X.K cA E t)) (hb : PW X (.BoolOp .And (b :: rest) pos) (tT X.K cA E u)) : PW X (.BoolOp .And (a :: b :: rest) pos) (tT X.K cA E (bAnd t u)) :=
  pw_w (pw_and ha hb) fun σ H Q ⟨φ, env, ms, kx, k, er, hr, o, kt, xt⟩ =>
    ⟨φ, env, ms, kx, _, er, hr, o, fun φ1 ms1 H1 x g1 hr1 o1 => by
      cases x with
      | true => exact iteT ⟨φ1, env, ms1, kx, k, er.gr g1, hr1, o1, kt.gr g1, xt.gr g1⟩
      | false => exact iteF (kt φ1 ms1 H1 false g1 hr1 o1), xt⟩
theorem mW_or {rest : List Expr} {t u : EB ρ} (ha : PT X a (tT X.K cA E t)) (hb : PW X (.BoolOp .Or (b :: rest) pos) (tT X.K cA E u)) : PW X (.BoolOp .Or (a :: b :: rest) pos) (tT X.K cA E (bOr t u)) :=
  pw_w (pw_or ha hb) fun σ H Q ⟨φ, env, ms, kx, k, er, hr, o, kt, xt⟩ =>
    ⟨φ, env, ms, kx, _, er, hr, o, fun φ1 ms1 H1 x g1 hr1 o1 => by
      cases x with
      | true => exact iteT (kt φ1 ms1 H1 true g1 hr1 o1)
      | false => exact iteF ⟨φ1, env, ms1, kx, k, er.gr g1, hr1, o1, kt.gr g1, xt.gr g1⟩, xt⟩
def bBl (f : EV ρ) : EB ρ := fun kx env ms k => f kx env ms fun x ms1 => match x with
  | .bl b => k b ms1
  | _ => Ans.bot
theorem t_bBl {K : PySem.W.Frag} {te : TE} {σ : L2.St} {H : Hp} {Q : Bool → Hp → Prop} (w : ∀ σ H Q, tE K cA E f σ H Q → te σ H Q) : tT K cA E (bBl f) σ H Q → tTest te σ H Q :=
  fun ⟨φ, env, ms, kx, k, er, hr, o, kt, xt⟩ => w σ H _ ⟨φ, env, ms, kx, _, er, hr, o, fun φ1 ms1 H1 x v g1 hr1 vx o1 => by
    cases vx with
    | bl b => exact ⟨b, rfl, kt φ1 ms1 H1 b g1 hr1 o1⟩
    | _ => exact absurd o1 Ans.bot_ok, xt⟩
theorem mT_cmp {op : CmpOp} {r : MV → MV → MS → K1 ρ → ρ} (ho : OpR X (compareOp op) (R2M X.K cA r)) (ha : PE X a (tE X.K cA E f)) (hb : PE X b (tE X.K cA E g)) (hm : behindInMarks op b = false) : PT X (.Compare a [op] [b] pos) (tT X.K cA E (bBl (eOp r f g))) :=
  pt_w (pt_cmpR ho ha hb hm) fun σ H Q h => t_bBl (fun σ H Q h => t_op h) h

/-! ### operations -/
def sm (i : Int) : Bool := decide (i.natAbs.log2 < 400000)
def addM (x y : MV) (ms : MS) (k : K1 ρ) : ρ := match x, y with
  | .int i, .int j => k (.int (i + j)) ms
  | .str i, .str j => gd (decide (i.length + j.length ≤ 100000)) (k (.str (i ++ j)) ms)
  | .loc a, .loc b => match ms.hp[a]?, ms.hp[b]? with
    | some (.lst xs), some (.lst ys) => gd (decide (xs.length + ys.length ≤ 100000)) (k (.loc ms.hp.length) (ms.push (.lst (xs ++ ys))))
    | _, _ => Ans.bot
  | _, _ => Ans.bot
def subM (x y : MV) (ms : MS) (k : K1 ρ) : ρ := match x, y with
  | .int i, .int j => k (.int (i - j)) ms
  | _, _ => Ans.bot
def mulM (x y : MV) (ms : MS) (k : K1 ρ) : ρ := match x, y with
  | .int i, .int j => gd (sm i && sm j) (k (.int (i * j)) ms)
  | .loc a, .int n => match ms.hp[a]? with
    | some (.lst xs) => gd (decide (-1000000 ≤ n) && decide (n ≤ 1000000) && decide (xs.length * n.toNat ≤ 100000)) (k (.loc ms.hp.length) (ms.push (.lst (List.replicate n.toNat xs).flatten)))
    | _ => Ans.bot
  | _, _ => Ans.bot
theorem op_ri {op : Value → Value → Sem Value} {r : R2} {f : MV → MV → MS → K1 ρ → ρ} (h : OpR X op r) (w : ∀ x y H Q, R2M X.K cA f x y H Q → r x y H Q) : OpR X op (R2M X.K cA f) :=
  fun pins s σ H x y v u Q I rx ry q => h pins s σ H x y v u Q I rx ry (w x y H Q q)
theorem op_or {op : Value → Value → Sem Value} {r r' : R2} (h : OpR X op r) (h' : OpR X op r') : OpR X op (fun x y H Q => r x y H Q ∨ r' x y H Q) :=
  fun pins s σ H x y v u Q I rx ry q => q.elim (h pins s σ H x y v u Q I rx ry) (h' pins s σ H x y v u Q I rx ry)
theorem VRs.rep {K : PySem.W.Frag} {φ : Ph} {H : Hp} {xs : List MV} {vs : List V} (r : VRs K cA φ H xs vs) : ∀ n : Nat, VRs K cA φ H (List.replicate n xs).flatten (List.replicate n vs).flatten
  | 0 => .nil
  | n + 1 => by
    rw [List.replicate_succ, List.replicate_succ, List.flatten_cons, List.flatten_cons]
    exact r.app (VRs.rep r n)
theorem m_add : OpR X (binaryOp .Add) (R2M X.K cA (addM (ρ := ρ))) := by
  refine op_ri (op_or op_add (op_or op_add_str op_cat)) fun x y H Q ⟨φ, ms, mx, my, k, hr, vx, vy, o, kt⟩ => ?_
  unfold addM at o
  cases vx with
  | int i =>
    cases vy with
    | int j => exact .inl ⟨i, j, rfl, rfl, kt φ ms H _ _ Gr.refl hr (.int _) o⟩
    | _ => exact absurd o Ans.bot_ok
  | str i =>
    cases vy with
    | str j =>
      obtain ⟨h1, h2⟩ := ok_gd o
      exact .inr (.inl ⟨i, j, rfl, rfl, le_line h1, kt φ ms H _ _ Gr.refl hr (.str _) h2⟩)
    | _ => exact absurd o Ans.bot_ok
  | @loc n a ea =>
    cases vy with
    | @loc m b eb =>
      obtain ⟨oa, h1, h2⟩ := hr.at' ea
      obtain ⟨ob, h3, h4⟩ := hr.at' eb
      dsimp only at o
      rw [h1, h3] at o
      cases oa with
      | lst xs =>
        cases ob with
        | lst ys =>
          obtain ⟨vs, q1, q2⟩ := h2
          obtain ⟨ws, q3, q4⟩ := h4
          obtain ⟨o1, o2⟩ := ok_gd o
          refine .inr (.inr ⟨a, b, vs, ws, rfl, rfl, q1, q3, by rw [← q2.len, ← q4.len]; exact le_line o1, fun p hp => ?_⟩)
          obtain ⟨n1, n2, n3⟩ := new_lst hr hp (q2.app q4)
          exact kt _ _ _ _ _ n1 n2 n3 o2
        | _ => exact absurd o Ans.bot_ok
      | _ => exact absurd o Ans.bot_ok
    | _ => exact absurd o Ans.bot_ok
  | _ => exact absurd o Ans.bot_ok
theorem m_sub : OpR X (binaryOp .Sub) (R2M X.K cA (subM (ρ := ρ))) := by
  refine op_ri op_sub fun x y H Q ⟨φ, ms, mx, my, k, hr, vx, vy, o, kt⟩ => ?_
  unfold subM at o
  cases vx with
  | int i =>
    cases vy with
    | int j => exact ⟨i, j, rfl, rfl, kt φ ms H _ _ Gr.refl hr (.int _) o⟩
    | _ => exact absurd o Ans.bot_ok
  | _ => exact absurd o Ans.bot_ok
theorem m_mul : OpR X (binaryOp .Mult) (R2M X.K cA (mulM (ρ := ρ))) := by
  refine op_ri (op_or op_mulW op_rep) fun x y H Q ⟨φ, ms, mx, my, k, hr, vx, vy, o, kt⟩ => ?_
  unfold mulM at o
  cases vx with
  | int i =>
    cases vy with
    | int j =>
      obtain ⟨h1, h2⟩ := ok_gd o
      have h3 : sm i = true ∧ sm j = true := Bool.and_eq_true_iff.mp h1
      have h4 : i.natAbs.log2 < 400000 := of_decide_eq_true h3.1
      have h5 : j.natAbs.log2 < 400000 := of_decide_eq_true h3.2
      exact .inl ⟨i, j, rfl, rfl, by show _ < _; omega, kt φ ms H _ _ Gr.refl hr (.int _) h2⟩
    | _ => exact absurd o Ans.bot_ok
  | @loc n a ea =>
    cases vy with
    | int j =>
      obtain ⟨oa, h1, h2⟩ := hr.at' ea
      dsimp only at o
      rw [h1] at o
      cases oa with
      | lst xs =>
        obtain ⟨vs, q1, q2⟩ := h2
        obtain ⟨o1, o2⟩ := ok_gd o
        obtain ⟨o3, o4⟩ := Bool.and_eq_true_iff.mp o1
        obtain ⟨o5, o6⟩ := Bool.and_eq_true_iff.mp o3
        have z1 := of_decide_eq_true o5
        have z2 := of_decide_eq_true o6
        refine .inr ⟨a, j, vs, rfl, rfl, q1, by omega, by omega, by rw [← q2.len]; exact le_line o4, fun p hp => ?_⟩
        obtain ⟨n1, n2, n3⟩ := new_lst hr hp (q2.rep j.toNat)
        exact kt _ _ _ _ _ n1 n2 n3 o2
      | _ => exact absurd o Ans.bot_ok
    | _ => exact absurd o Ans.bot_ok
  | _ => exact absurd o Ans.bot_ok
def modM (x y : MV) (ms : MS) (k : K1 ρ) : ρ := match x, y with
  | .int i, .int j => gd (decide (0 < j)) (k (.int (i % j)) ms)
  | _, _ => Ans.bot
def fdivM (x y : MV) (ms : MS) (k : K1 ρ) : ρ := match x, y with
  | .int i, .int j => gd (decide (0 < j) && decide (j.natAbs.log2 < 9000)) (k (.int (i / j)) ms)
  | _, _ => Ans.bot
theorem m_mod : OpR X (binaryOp .Mod) (R2M X.K cA (modM (ρ := ρ))) := by
  refine op_ri op_mod fun x y H Q ⟨φ, ms, mx, my, k, hr, vx, vy, o, kt⟩ => ?_
  unfold modM at o
  cases vx with
  | int i =>
    cases vy with
    | int j =>
      obtain ⟨h1, h2⟩ := ok_gd o
      exact ⟨i, j, rfl, rfl, of_decide_eq_true h1, kt φ ms H _ _ Gr.refl hr (.int _) h2⟩
    | _ => exact absurd o Ans.bot_ok
  | _ => exact absurd o Ans.bot_ok
theorem m_fdiv : OpR X (binaryOp .FloorDiv) (R2M X.K cA (fdivM (ρ := ρ))) := by
  refine op_ri op_fdivW fun x y H Q ⟨φ, ms, mx, my, k, hr, vx, vy, o, kt⟩ => ?_
  unfold fdivM at o
  cases vx with
  | int i =>
    cases vy with
    | int j =>
      obtain ⟨h1, h2⟩ := ok_gd o
      obtain ⟨h3, h4⟩ := Bool.and_eq_true_iff.mp h1
      exact ⟨i, j, rfl, rfl, ⟨of_decide_eq_true h3, of_decide_eq_true h4⟩, kt φ ms H _ _ Gr.refl hr (.int _) h2⟩
    | _ => exact absurd o Ans.bot_ok
  | _ => exact absurd o Ans.bot_ok
def ordM (p : Int → Int → Bool) (x y : MV) (ms : MS) (k : K1 ρ) : ρ := match x, y with
  | .int i, .int j => k (.bl (p i j)) ms
  | _, _ => Ans.bot
theorem m_ord {op : Value → Value → Sem Value} {p : Int → Int → Bool} (h : OpR X op (rI0 fun i j => .bl (p i j))) : OpR X op (R2M X.K cA (ordM (ρ := ρ) p)) := by
  refine op_ri h fun x y H Q ⟨φ, ms, mx, my, k, hr, vx, vy, o, kt⟩ => ?_
  unfold ordM at o
  cases vx with
  | int i =>
    cases vy with
    | int j => exact ⟨i, j, rfl, rfl, kt φ ms H _ _ Gr.refl hr (.bl _) o⟩
    | _ => exact absurd o Ans.bot_ok
  | _ => exact absurd o Ans.bot_ok
/-- is None, is True, is False -/
def isM (neg : Bool) (x y : MV) (ms : MS) (k : K1 ρ) : ρ := match y with
  | .non => (match x with
    | .non => k (.bl (!neg)) ms
    | _ => k (.bl neg) ms)
  | .bl b => (match x with
    | .bl a => k (.bl (xor neg (decide (a = b)))) ms
    | _ => Ans.bot)
  | _ => Ans.bot
theorem m_is : OpR X (compareOp .Is) (R2M X.K cA (isM (ρ := ρ) false)) := by
  refine op_ri (op_or op_isN op_isBl) fun x y H Q ⟨φ, ms, mx, my, k, hr, vx, vy, o, kt⟩ => ?_
  unfold isM at o
  cases vy with
  | non =>
    refine .inl ⟨rfl, ?_⟩
    cases vx <;> exact kt φ ms H _ _ Gr.refl hr (.bl _) o
  | bl b =>
    cases vx with
    | bl a =>
      refine .inr ⟨a, b, rfl, rfl, ?_⟩
      have q := kt φ ms H _ _ Gr.refl hr (.bl _) o
      rw [Bool.false_xor] at q
      exact q
    | _ => exact absurd o Ans.bot_ok
  | _ => exact absurd o Ans.bot_ok
theorem m_isnot : OpR X (compareOp .IsNot) (R2M X.K cA (isM (ρ := ρ) true)) := by
  refine op_ri (op_or op_notN op_notBl) fun x y H Q ⟨φ, ms, mx, my, k, hr, vx, vy, o, kt⟩ => ?_
  unfold isM at o
  cases vy with
  | non =>
    refine .inl ⟨rfl, ?_⟩
    cases vx <;> exact kt φ ms H _ _ Gr.refl hr (.bl _) o
  | bl b =>
    cases vx with
    | bl a =>
      refine .inr ⟨a, b, rfl, rfl, ?_⟩
      have q := kt φ ms H _ _ Gr.refl hr (.bl _) o
      rw [Bool.true_xor] at q
      exact q
    | _ => exact absurd o Ans.bot_ok
  | _ => exact absurd o Ans.bot_ok
/-! ### data -/
def mapO {α β : Type} (f : α → Option β) : List α → Option (List β)
  | [] => some []
  | x :: xs => match f x with
    | some y => match mapO f xs with
      | some ys => some (y :: ys)
      | none => none
    | none => none
def toD (hp : List MO) : Nat → MV → Option PyData
  | 0, _ => none
  | _ + 1, .non => some .none
  | _ + 1, .bl b => some (.bool b)
  | _ + 1, .int i => some (.int i)
  | _ + 1, .str x => some (.str x)
  | n + 1, .tup xs => (mapO (toD hp n) xs).map .tuple
  | n + 1, .loc a => match hp[a]? with
    | some (.lst xs) => (mapO (toD hp n) xs).map .list
    | _ => none
  | _ + 1, _ => none
theorem mapO_cons {α β : Type} {f : α → Option β} {x : α} {xs : List α} {ds : List β} (h : mapO f (x :: xs) = some ds) : ∃ d r, ds = d :: r ∧ f x = some d ∧ mapO f xs = some r := by
  unfold mapO at h
  cases e : f x with
  | none => rw [e] at h; cases h
  | some d =>
    rw [e] at h
    dsimp only at h
    cases e2 : mapO f xs with
    | none => rw [e2] at h; cases h
    | some r =>
      rw [e2] at h
      exact ⟨d, r, (Option.some.inj h).symm, rfl, rfl⟩
theorem dps_of {K : PySem.W.Frag} {φ : Ph} {H : Hp} {f : MV → Option PyData} (hf : ∀ x v d, VR K cA φ H x v → f x = some d → Dp K H v d) : ∀ {xs : List MV} {vs : List V} {ds : List PyData}, VRs K cA φ H xs vs → mapO f xs = some ds → DpAll K H vs ds
  | _, _, _, .nil, h => by
    cases h
    exact .nil
  | _, _, _, .cons a r, h => by
    obtain ⟨d, r', e, h1, h2⟩ := mapO_cons h
    subst e
    exact .cons (hf _ _ _ a h1) (dps_of hf r h2)
theorem dp_of {K : PySem.W.Frag} {φ : Ph} {H : Hp} {ms : MS} (hr : HR K cA φ ms H) : ∀ (n : Nat) (x : MV) (v : V) (d : PyData), VR K cA φ H x v → toD ms.hp n x = some d → Dp K H v d
  | 0, _, _, _, _, h => by cases h
  | n + 1, x, v, d, vx, h => by
    cases vx with
    | non => cases h; exact .non
    | bl b => cases h; exact .bl b
    | int i => cases h; exact .int i
    | str y => cases h; exact .str y
    | @tup xs a vs s r =>
      unfold toD at h
      cases e : mapO (toD ms.hp n) xs with
      | none => rw [e] at h; cases h
      | some ds =>
        rw [e] at h
        cases h
        exact .tup s (dps_of (fun x v d a b => dp_of hr n x v d a b) r e)
    | @loc a p ea =>
      obtain ⟨o, h1, h2⟩ := hr.at' ea
      unfold toD at h
      rw [h1] at h
      cases o with
      | lst xs =>
        obtain ⟨vs, q1, q2⟩ := h2
        dsimp only at h
        cases e : mapO (toD ms.hp n) xs with
        | none => rw [e] at h; cases h
        | some ds =>
          rw [e] at h
          cases h
          exact .lst (SqL.of q1) (dps_of (fun x v d a b => dp_of hr n x v d a b) q2 e)
      | ins _ _ => cases h
      | ex _ _ => cases h
    | ty n => cases h
    | cls c => cases h
    | pen => cases h
def eqDM (neg : Bool) (x y : MV) (ms : MS) (k : K1 ρ) : ρ := opt (toD ms.hp 12 x) fun d => opt (toD ms.hp 12 y) fun e => gd (SeqAt.shaped d && SeqAt.shaped e) (k (.bl (xor neg (PyData.eqv d e))) ms)
theorem m_eqD (hu : X.A.units + 64 < cLine) : OpR X (compareOp .Eq) (R2M X.K cA (eqDM (ρ := ρ) false)) := by
  refine op_ri (op_eqD hu) fun x y H Q ⟨φ, ms, mx, my, k, hr, vx, vy, o, kt⟩ => ?_
  obtain ⟨d, h1, o⟩ := ok_opt o
  obtain ⟨e, h2, o⟩ := ok_opt o
  obtain ⟨h3, o⟩ := ok_gd o
  obtain ⟨h4, h5⟩ := Bool.and_eq_true_iff.mp h3
  have q := kt φ ms H _ _ Gr.refl hr (.bl _) o
  rw [Bool.false_xor] at q
  exact ⟨d, e, dp_of hr _ _ _ _ vx h1, dp_of hr _ _ _ _ vy h2, h4, h5, q⟩
theorem m_neD (hu : X.A.units + 64 < cLine) : OpR X (compareOp .NotEq) (R2M X.K cA (eqDM (ρ := ρ) true)) := by
  refine op_ri (op_neD hu) fun x y H Q ⟨φ, ms, mx, my, k, hr, vx, vy, o, kt⟩ => ?_
  obtain ⟨d, h1, o⟩ := ok_opt o
  obtain ⟨e, h2, o⟩ := ok_opt o
  obtain ⟨h3, o⟩ := ok_gd o
  obtain ⟨h4, h5⟩ := Bool.and_eq_true_iff.mp h3
  have q := kt φ ms H _ _ Gr.refl hr (.bl _) o
  rw [Bool.true_xor] at q
  exact ⟨d, e, dp_of hr _ _ _ _ vx h1, dp_of hr _ _ _ _ vy h2, h4, h5, q⟩
end
end Mi

/-! part MI2 -/
set_option Elab.async false
set_option linter.all false
set_option maxRecDepth 100000
set_option maxHeartbeats 4000000
namespace Mi
open PySem PySem.Spec PyProof.Rows L2 SC
open PySem.SupX (MkE ExMade Sup1 Sup2 SupC mk1 mk1k mk2 mk2k)

/-! ### tables -/
inductive MTy where
  | ty (n : BT) | cls (c : Nat)
  deriving DecidableEq
inductive Bi where
  | len | isinstance | repr | tuple | list | int | abs | bool | str | range | enumerate | zip | sorted | min | max | sum | any | all | dict | set | ValueError
def Bi.name : Bi → Str
  | .len => "len" | .isinstance => "isinstance" | .repr => "repr" | .tuple => "tuple" | .list => "list" | .int => "int" | .abs => "abs" | .bool => "bool" | .str => "str" | .range => "range" | .enumerate => "enumerate" | .zip => "zip" | .sorted => "sorted" | .min => "min" | .max => "max" | .sum => "sum" | .any => "any" | .all => "all" | .dict => "dict" | .set => "set" | .ValueError => "ValueError"
inductive GV where
  | blt (b : Bi) | fn (i : Nat) | cls (c : Nat) | draw
inductive CK where
  | no | ex1 (f : Str) | ex2 (f k : Str) | pl (i : Nat)
structure FD where
  N : List Str
  /-- parameters -/
  np : Nat
  star : Bool
  /-- keywords' names, how many positional values, where each parameter's value stands -/
  shapes : List (List Str × Nat × List Nat)
  sc : Scope
  body : List Stmt
structure Tb where
  G : List (Str × GV)
  ck : List CK
  na : List (Nat × Str)
  isi : List ((MTy × MTy) × Bool)
  /-- is the first a class below the second, or the same -/
  sb : List ((MTy × MTy) × Bool)
  /-- a class's own ==, its own truth: the def's number -/
  eq : List (Nat × Nat)
  bo : List (Nat × Nat)
  fns : List FD
def lkN : List (Nat × Nat) → Nat → Option Nat
  | [], _ => none
  | (y, v) :: r, x => if y = x then some v else lkN r x
/-- a def's call: its number, the values, the keywords' names and values -/
abbrev CallM (ρ : Type) := Nat → List MV → List Str → List MV → MS → KX ρ → K1 ρ → ρ

/-! ### a promise by values -/
abbrev SpV := List V → List V → Hp → VK → XK → Prop
def FnV (A : Around) (P : Program) (w : World) (K : PySem.W.Frag) (mg : Str → Option Value) (base : Heap) (CX : CXT) (f : Addr) (ks : List Str) (sp : SpV) : Prop :=
  ∀ (outer : List Env) (s : Shared) (H : Hp) (us ws : List Value) (vs zs : List V) (Q : VK) (E : XK), Env0 P w K mg base A outer s H → Vals vs us → Vals zs ws → ws.length = ks.length → sp vs zs H Q E →
    codeAny (model P w) A (.call (.ref f) ⟨us, ks.zip ws⟩) (CR CX outer P w H s Q E) s
section
variable {X : Cx} {CX : CXT} {f : Addr} {ks : List Str} {sp : SpV} {E : XK} {x : Str} {p pos : Pos} {e : Expr} {es : List Expr} {t tk : TA} {kws : List Keyword}
theorem run_fnV {pins : List (Addr × Obj)} {σ : L2.St} {H : Hp} {s : Shared} {Q : VK} {us ws : List Value} {vs zs : List V} (F : FnV X.A X.prog X.w X.K X.mg X.base CX f ks sp) (hx : Passes CX X E)
    (I : Inv X pins σ H s) (r : Vals vs us) (rz : Vals zs ws) (hl : ws.length = ks.length) (h : sp vs zs H Q E) : wpAny (model X.prog X.w) X.A (call (.ref f) us (ks.zip ws)) (EP X pins σ Q) X.xe s := by
  refine wpAny_call (codeAny_mono (F X.stack s H us ws vs zs Q E I.env0 r rz hl h) fun r s' hq => ?_)
  match r, hq with
  | .error e, hq => exact hx pins σ H s e s' I hq
  | .ok (.ret u), hq => exact I.after hq
def tV (sp : SpV) (E : XK) (t : TA) : TE := fun σ H Q => t σ H fun vs H1 => sp vs [] H1 Q E
theorem pe_callV (F : FnV X.A X.prog X.w X.K X.mg X.base CX f [] sp) (hg : Gl X x) (hm : X.mg x = some (.ref f)) (hk : PySem.W.keepIn X.K (.ref f) = true) (hx : Passes CX X E)
    (ha : PA X (e :: es) t) (hdb : (x == ("__debug__" : Str)) = false) (he : starEach (e :: es) X.env = (false, eval e X.env) :: starEach es X.env) (hpl : (backTo pos (starEach es X.env)).any (·.1) = false) :
    PE X (.Call (.Name x p) (e :: es) [] pos) (tV sp E t) := by
  refine ⟨fun pins s σ H Q I h => wpAny_Call_Name_kw (ld_glob I hg hm ?_ hdb)⟩
  exact PySem.W.callWith_K (h₀ := X.base) I.ok.mod.kin hk (thn (ha.run pos pins s σ H _ I h) fun us s1 ⟨vs, H1, I1, r, q⟩ => ⟨I1.kIn, run_fnV (ws := []) F hx I1 r .nil rfl q⟩) he hpl
end
theorem guards_make {A : Around} {C : Addr} {us : List Value} {kw : List (Str × Value)} (h : A.guards = some []) : (A.under (.builtin "type.__call__" ⟨.ref C :: us, kw⟩)).guards = some [] := by
  first | exact h | (simpa [Around.under, Code.envs, Code.isFrame, pushEnvs] using h)
def isSt : Expr → Bool
  | .Starred .. => true
  | _ => false
theorem star_cons {e : Expr} {es : List Expr} {env : Env} (h : isSt e = false) : starEach (e :: es) env = (false, eval e env) :: starEach es env := by
  cases e <;> first | rfl | cases h
theorem star_none {pos : Pos} {env : Env} : ∀ {es : List Expr}, es.all (fun e => !isSt e) = true → (backTo pos (starEach es env)).any (·.1) = false
  | [], _ => rfl
  | e :: es, h => by
    simp only [List.all_cons, Bool.and_eq_true, Bool.not_eq_true'] at h
    rw [star_cons h.1]
    show (false || (backTo pos (starEach es env)).any (·.1)) = false
    rw [star_none h.2]
    rfl
def kwNames : List Keyword → Option (List Str)
  | [] => some []
  | ⟨some n, _, _⟩ :: r => (kwNames r).map (n :: ·)
  | ⟨none, _, _⟩ :: _ => none
theorem kw_names {pos : Pos} {env : Env} : ∀ {kws : List Keyword} {ks : List Str}, kwNames kws = some ks → (backToKw pos (keywordEach kws env)).all (·.1.isSome) = true ∧ (backToKw pos (keywordEach kws env)).filterMap (·.1) = ks ∧ (backToKw pos (keywordEach kws env)).any (·.1.isNone) = false
  | [], ks, h => by
    cases h
    exact ⟨rfl, rfl, rfl⟩
  | ⟨none, v, p⟩ :: r, ks, h => by cases h
  | ⟨some n, v, p⟩ :: r, ks, h => by
    unfold kwNames at h
    cases e : kwNames r with
    | none => rw [e] at h; cases h
    | some l =>
      rw [e] at h
      cases h
      obtain ⟨h1, h2, h3⟩ := kw_names (pos := pos) (env := env) e
      refine ⟨?_, ?_, ?_⟩
      · show (true && (backToKw pos (keywordEach r env)).all (·.1.isSome)) = true
        rw [h1]
        rfl
      · show n :: (backToKw pos (keywordEach r env)).filterMap (·.1) = n :: l
        rw [h2]
      · show (false || (backToKw pos (keywordEach r env)).any (·.1.isNone)) = false
        rw [h3]
        rfl
section
variable {ρ : Type} [Ans ρ] {X : Cx} {cA : Nat → Addr} {E : XK} {a b c e : Expr} {es : List Expr} {f g : EV ρ} {fa fk : EA ρ} {p pos : Pos} {CX : CXT} {kws : List Keyword} {ks : List Str} {x : Str}
/-- a mirrored callee -/
abbrev RC (ρ : Type) := List MV → List Str → List MV → MS → KX ρ → K1 ρ → ρ
def SpM (K : PySem.W.Frag) (cA : Nat → Addr) (ks : List Str) (r : RC ρ) : SpV := fun vs zs H Q E => ∃ φ ms kx k mvs mks, HR K cA φ ms H ∧ VRs K cA φ H mvs vs ∧ VRs K cA φ H mks zs ∧ Ans.ok (r mvs ks mks ms kx k) ∧ KT K cA φ H k Q ∧ XT K cA φ H kx E
def CalM (X : Cx) (cA : Nat → Addr) (E : XK) (v : Value) (ks : List Str) (r : RC ρ) : Prop :=
  ∀ (pins : List (Addr × Obj)) (s : Shared) (σ : L2.St) (H : Hp) (us ws : List Value) (vs zs : List V) (Q : VK), Inv X pins σ H s → Vals vs us → Vals zs ws → ws.length = ks.length → SpM X.K cA ks r vs zs H Q E →
    wpAny (model X.prog X.w) X.A (call v us (ks.zip ws)) (EP X pins σ Q) X.xe s
def eCall (r : RC ρ) (ks : List Str) (fa fk : EA ρ) : EV ρ := fun kx env ms k => fa kx env ms fun xs ms1 => fk kx env ms1 fun zs ms2 => gd (decide (zs.length = ks.length)) (r xs ks zs ms2 kx k)
theorem pk_w {kws : List Keyword} {t t' : TA} (h : PK X kws t) (w : ∀ σ H Q, t' σ H Q → t σ H Q) : PK X kws t' := ⟨fun pos pins s σ H Q I q => h.run pos pins s σ H Q I (w σ H Q q)⟩
theorem mK_nil : PK X [] (tA X.K cA E (aNil (ρ := ρ))) := pk_w pk_nil fun σ H Q ⟨φ, env, ms, kx, k, er, hr, o, kt, xt⟩ => kt φ ms H [] [] Gr.refl hr .nil o
theorem mK_cons {nm : Option Str} {kpos : Pos} (hf : PE X e (tE X.K cA E f)) (hg : PK X kws (tA X.K cA E fk)) : PK X (⟨nm, e, kpos⟩ :: kws) (tA X.K cA E (aCons f fk)) :=
  pk_w (pk_cons hf hg) fun σ H Q ⟨φ, env, ms, kx, k, er, hr, o, kt, xt⟩ =>
    ⟨φ, env, ms, kx, _, er, hr, o, fun φ1 ms1 H1 x v g1 hr1 vx o1 => ⟨φ1, env, ms1, kx, _, er.gr g1, hr1, o1, fun φ2 ms2 H2 xs vs g2 hr2 vxs o2 =>
      kt φ2 ms2 H2 (x :: xs) (v :: vs) (g1.trans g2) hr2 (.cons (vx.gr g2) vxs) o2, xt.gr g1⟩, xt⟩
/-- the arguments, then the callee's promise -/
theorem t_call {K : PySem.W.Frag} {r : RC ρ} {σ : L2.St} {H : Hp} {Q : VK} : tE K cA E (eCall r ks fa fk) σ H Q → tA K cA E fa σ H fun vs H1 => tA K cA E fk σ H1 fun zs H2 => zs.length = ks.length ∧ SpM K cA ks r vs zs H2 Q E :=
  fun ⟨φ, env, ms, kx, k, er, hr, o, kt, xt⟩ => ⟨φ, env, ms, kx, _, er, hr, o, fun φ1 ms1 H1 xs vs g1 hr1 vx o1 => ⟨φ1, env, ms1, kx, _, er.gr g1, hr1, o1, fun φ2 ms2 H2 ys ws g2 hr2 vy o2 => by
    obtain ⟨h1, h2⟩ := ok_gd o2
    exact ⟨vy.len.symm.trans (of_decide_eq_true h1), φ2, ms2, kx, k, xs, ys, hr2, vx.gr g2, vy, h2, kt.gr (g1.trans g2), xt.gr (g1.trans g2)⟩, xt.gr g1⟩, xt⟩
theorem t_nil {K : PySem.W.Frag} {σ : L2.St} {H : Hp} {Q : List V → Hp → Prop} (h : tA K cA E (aNil (ρ := ρ)) σ H Q) : Q [] H := by
  obtain ⟨φ, env, ms, kx, k, er, hr, o, kt, xt⟩ := h
  exact kt φ ms H [] [] Gr.refl hr .nil o
/-- a call of a thing of the module -/
theorem mE_callK {r : RC ρ} {v : Value} (hc : CalM X cA E v [] r) (hg : Gl X x) (hm : X.mg x = some v) (hk : PySem.W.keepIn X.K v = true) (hdb : (x == ("__debug__" : Str)) = false) (ha : PA X (e :: es) (tA X.K cA E fa))
    (hs : (e :: es).all (fun e => !isSt e) = true) : PE X (.Call (.Name x p) (e :: es) [] pos) (tE X.K cA E (eCall r [] fa aNil)) := by
  refine ⟨fun pins s σ H Q I h => wpAny_Call_Name_kw (ld_glob I hg hm ?_ hdb)⟩
  simp only [List.all_cons, Bool.and_eq_true, Bool.not_eq_true'] at hs
  refine PySem.W.callWith_K (h₀ := X.base) I.ok.mod.kin hk (thn (ha.run pos pins s σ H _ I (t_call h)) fun us s1 ⟨vs, H1, I1, r, q⟩ => ⟨I1.kIn, ?_⟩) (star_cons hs.1) (star_none hs.2)
  obtain ⟨_, q⟩ := t_nil q
  exact hc pins s1 σ H1 us [] vs [] Q I1 r .nil rfl q
theorem mE_callK0 {r : RC ρ} {v : Value} (hc : CalM X cA E v [] r) (hg : Gl X x) (hm : X.mg x = some v) (hk : PySem.W.keepIn X.K v = true) (hdb : (x == ("__debug__" : Str)) = false) : PE X (.Call (.Name x p) [] [] pos) (tE X.K cA E (eCall r [] aNil aNil)) := by
  refine ⟨fun pins s σ H Q I h => wpAny_Call_Name_kw (ld_glob I hg hm ?_ hdb)⟩
  obtain ⟨_, q⟩ := t_nil (t_nil (t_call h))
  exact PySem.W.callWith_K0 I.kIn hk (hc pins s σ H [] [] [] [] Q I .nil .nil rfl q)
theorem mE_callKW0 {r : RC ρ} {v : Value} (hc : CalM X cA E v ks r) (hg : Gl X x) (hm : X.mg x = some v) (hk : PySem.W.keepIn X.K v = true) (hdb : (x == ("__debug__" : Str)) = false) (hkw : PK X kws (tA X.K cA E fk))
    (hn : kwNames kws = some ks) : PE X (.Call (.Name x p) [] kws pos) (tE X.K cA E (eCall r ks aNil fk)) := by
  refine ⟨fun pins s σ H Q I h => wpAny_Call_Name_kw (ld_glob I hg hm ?_ hdb)⟩
  obtain ⟨n1, n2, n3⟩ := kw_names (pos := pos) (env := X.env) hn
  refine PySem.W.callWith_KW0 (h₀ := X.base) I.ok.mod.kin hk n1 (thn (hkw.run pos pins s σ H _ I (t_nil (t_call h))) fun ws s2 ⟨zs, H2, I2, rz, l2, q2⟩ => ⟨I2.kIn, ?_⟩) (by show (false || _) = false; rw [n3]; rfl)
  rw [n2]
  exact hc pins s2 σ H2 [] ws [] zs Q I2 .nil rz (rz.length.symm.trans l2) q2
theorem mE_callKW {r : RC ρ} {v : Value} (hc : CalM X cA E v ks r) (hg : Gl X x) (hm : X.mg x = some v) (hk : PySem.W.keepIn X.K v = true) (hdb : (x == ("__debug__" : Str)) = false) (ha : PA X (e :: es) (tA X.K cA E fa)) (hkw : PK X kws (tA X.K cA E fk))
    (hs : (e :: es).all (fun e => !isSt e) = true) (hn : kwNames kws = some ks) : PE X (.Call (.Name x p) (e :: es) kws pos) (tE X.K cA E (eCall r ks fa fk)) := by
  refine ⟨fun pins s σ H Q I h => wpAny_Call_Name_kw (ld_glob I hg hm ?_ hdb)⟩
  obtain ⟨n1, n2, n3⟩ := kw_names (pos := pos) (env := X.env) hn
  have hs' := star_none (pos := pos) (env := X.env) hs
  simp only [List.all_cons, Bool.and_eq_true, Bool.not_eq_true'] at hs
  refine PySem.W.callWith_KW (h₀ := X.base) I.ok.mod.kin hk n1 (thn (ha.run pos pins s σ H _ I (t_call h)) fun us s1 ⟨vs, H1, I1, r1, q⟩ => ?_) (by rw [hs', n3]; rfl) (star_cons hs.1)
  refine thn (hkw.run pos pins s1 σ H1 _ I1 q) fun ws s2 ⟨zs, H2, I2, rz, l2, q2⟩ => ⟨I2.kIn, ?_⟩
  rw [n2]
  exact hc pins s2 σ H2 us ws vs zs Q I2 r1 rz (rz.length.symm.trans l2) q2
/-! ### built-ins -/
def BltR (K : PySem.W.Frag) (cA : Nat → Addr) (r : List MV → MS → K1 ρ → ρ) : List V → Hp → VK → Prop := fun vs H Q => ∃ φ ms k mvs, HR K cA φ ms H ∧ VRs K cA φ H mvs vs ∧ Ans.ok (r mvs ms k) ∧ KT K cA φ H k Q
def eBlt (r : List MV → MS → K1 ρ → ρ) (fa : EA ρ) : EV ρ := fun kx env ms k => fa kx env ms fun xs ms1 => r xs ms1 k
theorem t_blt {K : PySem.W.Frag} {r : List MV → MS → K1 ρ → ρ} {σ : L2.St} {H : Hp} {Q : VK} : tE K cA E (eBlt r fa) σ H Q → tCB (BltR K cA r) (tA K cA E fa) σ H Q :=
  fun ⟨φ, env, ms, kx, k, er, hr, o, kt, xt⟩ => ⟨φ, env, ms, kx, _, er, hr, o, fun φ1 ms1 H1 xs vs g1 hr1 vx o1 => ⟨φ1, ms1, k, xs, hr1, vx, o1, kt.gr g1⟩, xt⟩
theorem mE_blt {id : String} {r : List MV → MS → K1 ρ → ρ} (hc : CallR X (.builtin id) (BltR X.K cA r)) (hg : Gl X x) (hm : X.mg x = none) (hv : bootBuiltins x = some (.builtin id)) (ha : PA X (e :: es) (tA X.K cA E fa)) (hn : x ≠ "__name__") (hdb : (x == ("__debug__" : Str)) = false)
    (hs : (e :: es).all (fun e => !isSt e) = true) : PE X (.Call (.Name x p) (e :: es) [] pos) (tE X.K cA E (eBlt r fa)) := by
  simp only [List.all_cons, Bool.and_eq_true, Bool.not_eq_true'] at hs
  exact pe_w (pe_callB hc hg hm hv ha hn hdb (star_cons hs.1) (star_none hs.2)) fun σ H Q h => t_blt h
theorem mE_bty {id : String} {r : List MV → MS → K1 ρ → ρ} (hc : CallR X (.type id) (BltR X.K cA r)) (hg : Gl X x) (hm : X.mg x = none) (hv : bootBuiltins x = some (.type id)) (ha : PA X (e :: es) (tA X.K cA E fa)) (hn : x ≠ "__name__") (hdb : (x == ("__debug__" : Str)) = false)
    (hs : (e :: es).all (fun e => !isSt e) = true) : PE X (.Call (.Name x p) (e :: es) [] pos) (tE X.K cA E (eBlt r fa)) := by
  simp only [List.all_cons, Bool.and_eq_true, Bool.not_eq_true'] at hs
  exact pe_w (pe_callTy hc hg hm hv ha hn hdb (star_cons hs.1) (star_none hs.2)) fun σ H Q h => t_blt h
theorem cal_ri {v : Value} {r : List V → Hp → VK → Prop} {f : List MV → MS → K1 ρ → ρ} (h : CallR X v r) (w : ∀ vs H Q, BltR X.K cA f vs H Q → r vs H Q) : CallR X v (BltR X.K cA f) :=
  fun pins s σ H xs us Q I rx q => h pins s σ H xs us Q I rx (w xs H Q q)
theorem cal_or {v : Value} {r r' : List V → Hp → VK → Prop} (h : CallR X v r) (h' : CallR X v r') : CallR X v (fun vs H Q => r vs H Q ∨ r' vs H Q) :=
  fun pins s σ H xs us Q I rx q => q.elim (h pins s σ H xs us Q I rx) (h' pins s σ H xs us Q I rx)
def lenB (xs : List MV) (ms : MS) (k : K1 ρ) : ρ := match xs with
  | [.tup ys] => k (.int (ys.length : Nat)) ms
  | [.str z] => gd (decide (z.length ≤ 100000)) (k (.int (z.length : Nat)) ms)
  | [.loc n] => match ms.hp[n]? with
    | some (.lst ys) => k (.int (ys.length : Nat)) ms
    | _ => Ans.bot
  | _ => Ans.bot
theorem c_len : CallR X (.builtin "len") (BltR X.K cA (lenB (ρ := ρ))) := by
  refine cal_ri (cal_or call_len_seq call_len_str) fun vs H Q ⟨φ, ms, k, mvs, hr, vx, o, kt⟩ => ?_
  unfold lenB at o
  cases vx with
  | nil => exact absurd o Ans.bot_ok
  | cons h1 rs =>
    cases rs with
    | cons _ _ => cases h1 <;> exact absurd o Ans.bot_ok
    | nil =>
      cases h1 with
      | tup s r =>
        refine .inl ⟨_, _, rfl, .inr s, ?_⟩
        rw [← r.len]
        exact kt φ ms H _ _ Gr.refl hr (.int _) o
      | str z =>
        obtain ⟨h1, h2⟩ := ok_gd o
        exact .inr ⟨z, rfl, le_line h1, kt φ ms H _ _ Gr.refl hr (.int _) h2⟩
      | @loc n a ea =>
        obtain ⟨oa, e1, e2⟩ := hr.at' ea
        dsimp only at o
        rw [e1] at o
        cases oa with
        | lst ys =>
          obtain ⟨ws, q1, q2⟩ := e2
          refine .inl ⟨a, ws, rfl, .inl (SqL.of q1), ?_⟩
          rw [← q2.len]
          exact kt φ ms H _ _ Gr.refl hr (.int _) o
        | _ => exact absurd o Ans.bot_ok
      | _ => exact absurd o Ans.bot_ok
/-- tuple(x) -/
def tupleB (xs : List MV) (ms : MS) (k : K1 ρ) : ρ := match xs with
  | [.tup ys] => k (.tup ys) ms
  | [.loc n] => match ms.hp[n]? with
    | some (.lst ys) => k (.tup ys) ms
    | _ => Ans.bot
  | _ => Ans.bot
theorem c_tuple : CallR X (.type "tuple") (BltR X.K cA (tupleB (ρ := ρ))) := by
  refine cal_ri call_tuple_of fun vs H Q ⟨φ, ms, k, mvs, hr, vx, o, kt⟩ => ?_
  unfold tupleB at o
  cases vx with
  | nil => exact absurd o Ans.bot_ok
  | cons h1 rs =>
    cases rs with
    | cons _ _ => cases h1 <;> exact absurd o Ans.bot_ok
    | nil =>
      cases h1 with
      | tup s r => exact ⟨_, _, rfl, .inr ⟨s, kt φ ms H _ _ Gr.refl hr (.tup s r) o⟩⟩
      | @loc n a ea =>
        obtain ⟨oa, e1, e2⟩ := hr.at' ea
        dsimp only at o
        rw [e1] at o
        cases oa with
        | lst ys =>
          obtain ⟨ws, q1, q2⟩ := e2
          refine ⟨a, ws, rfl, .inl ⟨SqL.of q1, fun l hl => ?_⟩⟩
          have s := Same.newS (o := .tup ws) hl
          exact kt φ ms _ _ _ (Gr.same s) (hr.same s) (.tup (.inl (.inl upd_same)) (q2.gr (Gr.same s))) o
        | _ => exact absurd o Ans.bot_ok
      | _ => exact absurd o Ans.bot_ok
/-- list(x) -/
def listB (xs : List MV) (ms : MS) (k : K1 ρ) : ρ := match xs with
  | [.tup ys] => k (.loc ms.hp.length) (ms.push (.lst ys))
  | [.loc n] => match ms.hp[n]? with
    | some (.lst ys) => k (.loc ms.hp.length) (ms.push (.lst ys))
    | _ => Ans.bot
  | _ => Ans.bot
theorem c_list : CallR X (.type "list") (BltR X.K cA (listB (ρ := ρ))) := by
  refine cal_ri call_list_of fun vs H Q ⟨φ, ms, k, mvs, hr, vx, o, kt⟩ => ?_
  unfold listB at o
  cases vx with
  | nil => exact absurd o Ans.bot_ok
  | cons h1 rs =>
    cases rs with
    | cons _ _ => cases h1 <;> exact absurd o Ans.bot_ok
    | nil =>
      cases h1 with
      | tup s r =>
        refine ⟨_, _, rfl, .inr s, fun l hl => ?_⟩
        obtain ⟨n1, n2, n3⟩ := new_lst hr hl r
        exact kt _ _ _ _ _ n1 n2 n3 o
      | @loc n a ea =>
        obtain ⟨oa, e1, e2⟩ := hr.at' ea
        dsimp only at o
        rw [e1] at o
        cases oa with
        | lst ys =>
          obtain ⟨ws, q1, q2⟩ := e2
          refine ⟨a, ws, rfl, .inl (SqL.of q1), fun l hl => ?_⟩
          obtain ⟨n1, n2, n3⟩ := new_lst hr hl q2
          exact kt _ _ _ _ _ n1 n2 n3 o
        | _ => exact absurd o Ans.bot_ok
      | _ => exact absurd o Ans.bot_ok
def intB (xs : List MV) (ms : MS) (k : K1 ρ) : ρ := match xs with
  | [.int i] => k (.int i) ms
  | [.bl b] => k (.int (if b then 1 else 0)) ms
  | _ => Ans.bot
theorem c_int : CallR X (.type "int") (BltR X.K cA (intB (ρ := ρ))) := by
  refine cal_ri call_int1 fun vs H Q ⟨φ, ms, k, mvs, hr, vx, o, kt⟩ => ?_
  unfold intB at o
  cases vx with
  | nil => exact absurd o Ans.bot_ok
  | cons h1 rs =>
    cases rs with
    | cons _ _ => cases h1 <;> exact absurd o Ans.bot_ok
    | nil =>
      cases h1 with
      | int i => exact .inl ⟨i, rfl, kt φ ms H _ _ Gr.refl hr (.int _) o⟩
      | bl b => exact .inr ⟨b, rfl, kt φ ms H _ _ Gr.refl hr (.int _) o⟩
      | _ => exact absurd o Ans.bot_ok
def absB (xs : List MV) (ms : MS) (k : K1 ρ) : ρ := match xs with
  | [.int i] => k (.int (if i < 0 then -i else i)) ms
  | _ => Ans.bot
theorem c_abs : CallR X (.builtin "abs") (BltR X.K cA (absB (ρ := ρ))) := by
  refine cal_ri call_abs fun vs H Q ⟨φ, ms, k, mvs, hr, vx, o, kt⟩ => ?_
  unfold absB at o
  cases vx with
  | nil => exact absurd o Ans.bot_ok
  | cons h1 rs =>
    cases rs with
    | cons _ _ => cases h1 <;> exact absurd o Ans.bot_ok
    | nil =>
      cases h1 with
      | int i => exact ⟨i, rfl, kt φ ms H _ _ Gr.refl hr (.int _) o⟩
      | _ => exact absurd o Ans.bot_ok
/-- repr(x) -/
def reprB (xs : List MV) (ms : MS) (k : K1 ρ) : ρ := match xs with
  | [x] => opt (toD ms.hp 12 x) fun d => gd (d.showable && !d.hasDict && decide (d.depth ≤ 60) && decide (d.shown.length ≤ 100000)) (k (.str d.shown) ms)
  | _ => Ans.bot
theorem c_repr (hg : X.A.guards = some []) (hu : X.A.units + 64 < cLine) : CallR X (.builtin "repr") (BltR X.K cA (reprB (ρ := ρ))) := by
  refine cal_ri (call_reprD hg hu) fun vs H Q ⟨φ, ms, k, mvs, hr, vx, o, kt⟩ => ?_
  unfold reprB at o
  cases vx with
  | nil => exact absurd o Ans.bot_ok
  | cons h1 rs =>
    cases rs with
    | cons _ _ => exact absurd o Ans.bot_ok
    | nil =>
      obtain ⟨d, e1, o⟩ := ok_opt o
      obtain ⟨e2, o⟩ := ok_gd o
      simp only [Bool.and_eq_true, Bool.not_eq_true'] at e2
      exact ⟨_, d, rfl, dp_of hr _ _ _ _ h1 e1, e2.1.1.1, e2.1.1.2, of_decide_eq_true e2.1.2, le_line e2.2, kt φ ms H _ _ Gr.refl hr (.str _) o⟩
end
end Mi

/-! part MI3 -/
set_option Elab.async false
set_option linter.all false
set_option maxRecDepth 100000
set_option maxHeartbeats 4000000
namespace Mi
open PySem PySem.Spec PyProof.Rows L2 SC
open PySem.SupX (MkE ExMade Sup1 Sup2 SupC mk1 mk1k mk2 mk2k)

/-! ### what the written part says of the classes -/
structure InsF (K : PySem.W.Frag) (C : Addr) : Prop where
  cls : Cls K C
  ha : PySem.W.findIn K (.ref C) "__class__" = some (some (.builtin "object.__class__"))
  hn : PySem.W.specialIn K (.builtin "object.__class__") "__get__" = some (some (.builtin "getset_descriptor.__get__"))
  htk : PySem.W.takesIn K (.builtin "object.__class__") = some true
  hm : PySem.W.mroIn K C (.type "object") = some true
def tv (cA : Nat → Addr) : MTy → Value
  | .ty b => .type b.name
  | .cls c => .ref (cA c)
/-- the classes' kinds, names that no class has, isinstance's answers -/
structure ClsF (K : PySem.W.Frag) (cA : Nat → Addr) (tb : Tb) : Prop where
  ins : ∀ c i, tb.ck[c]? = some (.pl i) → InsF K (cA c)
  ex : ∀ c, (∃ f, tb.ck[c]? = some (.ex1 f)) ∨ (∃ f k, tb.ck[c]? = some (.ex2 f k)) → ExF K (cA c)
  na : ∀ p ∈ tb.na, PySem.W.findIn K (.ref (cA p.1)) p.2 = some none
  isi : ∀ p ∈ tb.isi, PySem.W.kitOne K (tv cA p.1.1) (tv cA p.1.2) = some p.2
def isP (tb : Tb) (c : Nat) : Bool := match tb.ck[c]? with
  | some (.pl _) => true
  | _ => false
def isX (tb : Tb) (c : Nat) : Bool := match tb.ck[c]? with
  | some (.ex1 _) => true
  | some (.ex2 _ _) => true
  | _ => false
section
variable {K : PySem.W.Frag} {cA : Nat → Addr} {tb : Tb}
theorem ClsF.insP (F : ClsF K cA tb) {c : Nat} (h : isP tb c = true) : InsF K (cA c) := by
  unfold isP at h
  split at h
  · exact F.ins _ _ (by assumption)
  · cases h
theorem ClsF.exP (F : ClsF K cA tb) {c : Nat} (h : isX tb c = true) : ExF K (cA c) := by
  unfold isX at h
  split at h
  · exact F.ex _ (.inl ⟨_, by assumption⟩)
  · exact F.ex _ (.inr ⟨_, _, by assumption⟩)
  · cases h
/-- the type of a value -/
def tyM (tb : Tb) (ms : MS) (x : MV) : Option MTy := match x with
  | .non => some (.ty .NoneType)
  | .bl _ => some (.ty .bool)
  | .int _ => some (.ty .int)
  | .str _ => some (.ty .str)
  | .tup _ => some (.ty .tuple)
  | .loc n => match ms.hp[n]? with
    | some (.lst _) => some (.ty .list)
    | some (.ins c _) => if isP tb c then some (.cls c) else none
    | some (.ex c _) => if isX tb c then some (.cls c) else none
    | none => none
  | _ => none
theorem ty_of {φ : Ph} {H : Hp} {ms : MS} {x : MV} {v : V} {t : MTy} (F : ClsF K cA tb) (hr : HR K cA φ ms H) (vx : VR K cA φ H x v) (h : tyM tb ms x = some t) : TyE K H v (tv cA t) := by
  cases vx with
  | non => cases h; exact .inl (.base .non)
  | bl b => cases h; exact .inl (.base (.bl b))
  | int i => cases h; exact .inl (.base (.int i))
  | str y => cases h; exact .inl (.base (.str y))
  | tup s r =>
    cases h
    rcases s with (s | ⟨o, s⟩) | ⟨o, its, n, s1, s2, _⟩
    · exact .inl (.base (.tup s))
    · exact .inl (.fTuple s)
    · exact .inl (.kTuple s1 s2)
  | @loc n a ea =>
    obtain ⟨o, h1, h2⟩ := hr.at' ea
    unfold tyM at h
    dsimp only at h
    rw [h1] at h
    cases o with
    | lst xs =>
      cases h
      obtain ⟨vs, q1, q2⟩ := h2
      exact .inl (.base (.lst q1))
    | ins c fs =>
      dsimp only at h
      split at h
      · rename_i hp
        cases h
        obtain ⟨dx, gs, q1, q2⟩ := h2
        have f := F.insP hp
        exact .inl (.base (.ins q1 f.cls f.ha f.hn f.htk f.hm))
      · cases h
    | ex c fs =>
      dsimp only at h
      split at h
      · rename_i hp
        cases h
        obtain ⟨gs, q1, q2⟩ := h2
        exact .inr ⟨a, cA c, gs, rfl, q1, rfl, F.exP hp⟩
      · cases h
  | ty n => cases h
  | cls c => cases h
  | pen => cases h
def lkI : List ((MTy × MTy) × Bool) → MTy → MTy → Option Bool
  | [], _, _ => none
  | ((t, u), b) :: r, t', u' => if t = t' ∧ u = u' then some b else lkI r t' u'
theorem lkI_mem : ∀ {l : List ((MTy × MTy) × Bool)} {t u : MTy} {b : Bool}, lkI l t u = some b → ((t, u), b) ∈ l
  | [], _, _, _, h => by cases h
  | ((t, u), b) :: r, t', u', b', h => by
    unfold lkI at h
    split at h
    · rename_i q
      obtain ⟨rfl, rfl⟩ := q
      cases h
      exact List.mem_cons_self ..
    · exact List.mem_cons_of_mem _ (lkI_mem h)
def clM : MV → Option MTy
  | .ty b => some (.ty b)
  | .cls c => some (.cls c)
  | _ => none
def anyI (l : List ((MTy × MTy) × Bool)) (t : MTy) : List MTy → Option Bool
  | [] => some false
  | u :: r => match lkI l t u with
    | some true => some true
    | some false => anyI l t r
    | none => none
theorem any_of (F : ClsF K cA tb) {t : MTy} : ∀ {us : List MTy} {b : Bool}, anyI tb.isi t us = some b → PySem.W.kitAny K (tv cA t) (us.map (tv cA)) = some b
  | [], b, h => h
  | u :: r, b, h => by
    unfold anyI at h
    show (match PySem.W.kitOne K (tv cA t) (tv cA u) with | some true => some true | some false => PySem.W.kitAny K (tv cA t) (r.map (tv cA)) | none => none) = some b
    split at h
    · rename_i q
      rw [F.isi _ (lkI_mem q)]
      exact h
    · rename_i q
      rw [F.isi _ (lkI_mem q)]
      exact any_of F h
    · cases h
theorem clV_of {φ : Ph} {H : Hp} {x : MV} {v : V} {t : MTy} (vx : VR K cA φ H x v) (h : clM x = some t) : ClsV v (tv cA t) := by
  cases vx with
  | ty b => cases h; exact .ty _
  | cls c => cases h; exact .own _
  | _ => cases h
theorem clVs_of {φ : Ph} {H : Hp} : ∀ {xs : List MV} {vs : List V} {ts : List MTy}, VRs K cA φ H xs vs → mapO clM xs = some ts → Paired ClsV vs (ts.map (tv cA))
  | _, _, _, .nil, h => by
    cases h
    exact .nil
  | _, _, _, .cons a r, h => by
    obtain ⟨d, r', e, h1, h2⟩ := mapO_cons h
    subst e
    exact .cons (clV_of a h1) (clVs_of r h2)
end
section
variable {ρ : Type} [Ans ρ] {X : Cx} {cA : Nat → Addr} {E : XK} {a b c e : Expr} {es : List Expr} {f g : EV ρ} {fa fk : EA ρ} {p pos : Pos} {CX : CXT} {kws : List Keyword} {ks : List Str} {x : Str} {tb : Tb}
def isiB (tb : Tb) (xs : List MV) (ms : MS) (k : K1 ρ) : ρ := match xs with
  | [x, .tup cs] => opt (tyM tb ms x) fun t => opt (mapO clM cs) fun us => opt (anyI tb.isi t us) fun b => k (.bl b) ms
  | [x, y] => opt (tyM tb ms x) fun t => opt (clM y) fun u => opt (lkI tb.isi t u) fun b => k (.bl b) ms
  | _ => Ans.bot
theorem SqT.tup? {K : PySem.W.Frag} {H : Hp} {a : Addr} {xs : List V} (h : SqT K H a xs) : SqT K H a xs := h
/-- isinstance by a tuple of classes, wherever the tuple stands -/
def rIsTS (K : PySem.W.Frag) : List V → Hp → VK → Prop := fun xs H Q => ∃ (x : V) (tp : Addr) (cs : List V) (t : Value) (us : List Value) (b : Bool), xs = [x, .ref tp] ∧ SqT K H tp cs ∧ Paired ClsV cs us ∧ TyE K H x t ∧ PySem.W.kitAny K t us = some b ∧ Q (.bl b) H
theorem call_isTS : CallR X (.builtin "isinstance") (rIsTS X.K) := by
  intro pins s σ H xs us Q I r h
  obtain ⟨x, tp, cs, t, vs, b, rfl, ht, k, ty, e, q⟩ := h
  obtain ⟨u1, u2, rfl, r1, r2⟩ := vals2 r
  obtain rfl : u2 = Value.ref tp := r2
  obtain ⟨its, rv, ⟨o, ho, hc, n, hd⟩, hz⟩ := I.tuple ht
  have e2 := ClsV.all k rv
  subst e2
  obtain ⟨P, Z, p, hx⟩ := kit_ofE I r1 ty
  obtain ⟨oc, od, oda, osl⟩ := o
  dsimp only at hc hd
  subst hc hd
  exact PySem.W.kia_tup Z I.kIn p ho e hx fun tk => ⟨.bl b, H, I.tok tk, rfl, q⟩
theorem c_isi (F : ClsF X.K cA tb) : CallR X (.builtin "isinstance") (BltR X.K cA (isiB (ρ := ρ) tb)) := by
  refine cal_ri (cal_or call_isTS call_isE) fun vs H Q ⟨φ, ms, k, mvs, hr, vx, o, kt⟩ => ?_
  cases vx with
  | nil => exact absurd o Ans.bot_ok
  | @cons x1 v1 xs1 vs1 h1 rs =>
    cases rs with
    | nil => exact absurd o Ans.bot_ok
    | @cons x2 v2 xs2 vs2 h2 rs =>
      cases rs with
      | cons _ _ => cases h2 <;> exact absurd o Ans.bot_ok
      | nil =>
        have one : Ans.ok (opt (tyM tb ms x1) fun t => opt (clM x2) fun u => opt (lkI tb.isi t u) fun b => k (.bl b) ms) → rIsTS X.K [v1, v2] H Q ∨ rIsE X.K [v1, v2] H Q := fun o => by
          obtain ⟨t, e1, o⟩ := ok_opt o
          obtain ⟨u, e2, o⟩ := ok_opt o
          obtain ⟨b, e3, o⟩ := ok_opt o
          exact Or.inr ⟨_, _, tv cA t, tv cA u, b, rfl, clV_of h2 e2, ty_of F hr h1 e1, F.isi _ (lkI_mem e3), kt φ ms H _ _ Gr.refl hr (.bl b) o⟩
        cases h2 with
        | tup s r =>
          unfold isiB at o
          obtain ⟨t, e1, o⟩ := ok_opt o
          obtain ⟨us, e2, o⟩ := ok_opt o
          obtain ⟨b, e3, o⟩ := ok_opt o
          exact .inl ⟨_, _, _, tv cA t, us.map (tv cA), b, rfl, s, clVs_of r e2, ty_of F hr h1 e1, any_of F e3, kt φ ms H _ _ Gr.refl hr (.bl b) o⟩
        | _ => exact one o
/-! ### fields -/
def naM (tb : Tb) (c : Nat) (f : Str) : Bool := tb.na.any fun p => decide (p.1 = c) && decide (p.2 = f)
theorem na_of {K : PySem.W.Frag} (F : ClsF K cA tb) {c : Nat} {f : Str} (h : naM tb c f = true) : PySem.W.findIn K (.ref (cA c)) f = some none := by
  unfold naM at h
  obtain ⟨p, hp, q⟩ := List.any_eq_true.mp h
  obtain ⟨q1, q2⟩ := Bool.and_eq_true_iff.mp q
  have e1 := of_decide_eq_true q1
  have e2 := of_decide_eq_true q2
  have := F.na p hp
  rw [e1, e2] at this
  exact this
def fldM (tb : Tb) (f : Str) (x : MV) (ms : MS) (k : K1 ρ) : ρ := match x with
  | .loc n => match ms.hp[n]? with
    | some (.ins c fs) => gd (isP tb c && naM tb c f) (opt (fs.lookup f) fun v => k v ms)
    | some (.ex c fs) => gd (isX tb c && naM tb c f) (opt (fs.lookup f) fun v => k v ms)
    | _ => Ans.bot
  | _ => Ans.bot
theorem mE_fld (F : ClsF X.K cA tb) {n : Str} (he : PE X e (tE X.K cA E f)) (hb : attributeBase e n X.env (eval e X.env) = eval e X.env) : PE X (.Attribute e n pos) (tE X.K cA E (eUn (fldM (ρ := ρ) tb n) f)) := by
  refine ⟨fun pins s σ H Q I h => ?_⟩
  obtain ⟨φ, env, ms, kx, k, er, hr, o, kt, xt⟩ := h
  refine attr_of hb (thn (he.run pins s σ H (fun v H1 => ∃ φ1 ms1 x, Gr X.K φ H φ1 H1 ∧ HR X.K cA φ1 ms1 H1 ∧ VR X.K cA φ1 H1 x v ∧ Ans.ok (fldM tb n x ms1 k)) I ⟨φ, env, ms, kx, _, er, hr, o, fun φ1 ms1 H1 x v g1 hr1 vx o1 => ⟨φ1, ms1, x, g1, hr1, vx, o1⟩, xt⟩) fun u s1 hh => ?_)
  obtain ⟨v, H1, I1, rx, φ1, ms1, x, g1, hr1, vx, o1⟩ := hh
  unfold fldM at o1
  cases vx with
  | @loc n' a ea =>
    obtain ⟨o, h1, h2⟩ := hr1.at' ea
    dsimp only at o1
    rw [h1] at o1
    obtain rfl : u = Value.ref a := rx
    cases o with
    | lst xs => exact absurd o1 Ans.bot_ok
    | ins c fs =>
      obtain ⟨z1, o1⟩ := ok_gd o1
      obtain ⟨z1, z2⟩ := Bool.and_eq_true_iff.mp z1
      obtain ⟨w, l, o1⟩ := ok_opt o1
      obtain ⟨dx, gs, q1, q2⟩ := h2
      obtain ⟨v', l', vr⟩ := q2.look l
      exact getattr_ok I1 q1 (F.insP z1).cls (na_of F z2) l' fun u' s2 I2 ru => ⟨v', H1, I2, ru, kt φ1 ms1 H1 w v' g1 hr1 vr o1⟩
    | ex c fs =>
      obtain ⟨z1, o1⟩ := ok_gd o1
      obtain ⟨z1, z2⟩ := Bool.and_eq_true_iff.mp z1
      obtain ⟨w, l, o1⟩ := ok_opt o1
      obtain ⟨gs, q1, q2⟩ := h2
      obtain ⟨v', l', vr⟩ := q2.look l
      have T := F.exP z1
      obtain ⟨oe, od, d, mA, J, hns, ho, hro⟩ := ex_inst I1 q1
      obtain ⟨od2, ho2, hl⟩ := lookIn_ns hns
      obtain rfl : od2 = od := Option.some.inj (ho2.symm.trans ho)
      obtain ⟨u, hu, ru⟩ := RelO.some_of (v := v') (o := mA n) (by rw [← l']; exact hro n)
      exact HandSPX.exc_get I1.kIn J T.ga T.gg T.exC (PySem.W.findObj_own T.hd (na_of F z2) rfl (by rw [hl, hu])) (handed_of ru) ⟨v', H1, I1.tok _, ru, kt φ1 ms1 H1 w v' g1 hr1 vr o1⟩
  | _ => exact absurd o1 Ans.bot_ok
/-! ### subscripts -/
def ixM (x y : MV) (ms : MS) (k : K1 ρ) : ρ := match x, y with
  | .tup xs, .int i => opt (atI xs i) fun v => k v ms
  | .loc n, .int i => match ms.hp[n]? with
    | some (.lst xs) => opt (atI xs i) fun v => k v ms
    | _ => Ans.bot
  | .str z, .int i => gd (decide (z.length ≤ 100000)) (opt (atI z.cps.toList i) fun c => k (.str ⟨#[c]⟩) ms)
  | _, _ => Ans.bot
theorem at_of {K : PySem.W.Frag} {φ : Ph} {H : Hp} {xs : List MV} {vs : List V} {i : Int} {x : MV} (r : VRs K cA φ H xs vs) (h : atI xs i = some x) : ∃ v, atI vs i = some v ∧ VR K cA φ H x v := by
  unfold atI at h ⊢
  rw [← r.len]
  cases e : ixN xs.length i with
  | none => rw [e] at h; cases h
  | some j =>
    rw [e] at h
    exact r.get h
theorem ix_ri {r : R2} {f : MV → MV → MS → K1 ρ → ρ} (h : IxR X r) (w : ∀ x y H Q, R2M X.K cA f x y H Q → r x y H Q) : IxR X (R2M X.K cA f) :=
  fun value slice pins s σ H x y v u Q I rx ry q => h value slice pins s σ H x y v u Q I rx ry (w x y H Q q)
theorem m_ix : IxR X (R2M X.K cA (ixM (ρ := ρ))) := by
  refine ix_ri ix_seq fun x y H Q ⟨φ, ms, mx, my, k, hr, vx, vy, o, kt⟩ => ?_
  unfold ixM at o
  cases vx with
  | tup s r =>
    cases vy with
    | int i =>
      obtain ⟨z, e, o⟩ := ok_opt o
      obtain ⟨v, e2, vz⟩ := at_of r e
      exact .inr (.inl ⟨_, _, i, v, rfl, rfl, s, e2, kt φ ms H _ _ Gr.refl hr vz o⟩)
    | _ => exact absurd o Ans.bot_ok
  | @loc n a ea =>
    cases vy with
    | int i =>
      obtain ⟨oa, h1, h2⟩ := hr.at' ea
      dsimp only at o
      rw [h1] at o
      cases oa with
      | lst xs =>
        obtain ⟨vs, q1, q2⟩ := h2
        obtain ⟨z, e, o⟩ := ok_opt o
        obtain ⟨v, e2, vz⟩ := at_of q2 e
        exact .inl ⟨_, _, i, v, rfl, rfl, SqL.of q1, e2, kt φ ms H _ _ Gr.refl hr vz o⟩
      | _ => exact absurd o Ans.bot_ok
    | _ => exact absurd o Ans.bot_ok
  | str z =>
    cases vy with
    | int i =>
      obtain ⟨h1, o⟩ := ok_gd o
      obtain ⟨c, e, o⟩ := ok_opt o
      exact .inr (.inr ⟨z, i, c, rfl, rfl, le_line h1, e, kt φ ms H _ _ Gr.refl hr (.str _) o⟩)
    | _ => exact absurd o Ans.bot_ok
  | _ => exact absurd o Ans.bot_ok
theorem mE_ix (ha : PE X a (tE X.K cA E f)) (hb : PE X b (tE X.K cA E g)) (hs : PlainIx b) : PE X (.Subscript a b pos) (tE X.K cA E (eOp ixM f g)) :=
  pe_w (pe_ix m_ix ha hb hs) fun σ H Q h => t_op h
/-- an end of a slice -/
abbrev EO (ρ : Type) := KX ρ → ME → MS → (Option Int → MS → ρ) → ρ
def oNone : EO ρ := fun _ _ ms k => k none ms
def oSome (f : EV ρ) : EO ρ := fun kx env ms k => f kx env ms fun x ms1 => match x with
  | .int i => k (some i) ms1
  | _ => Ans.bot
def tO (K : PySem.W.Frag) (cA : Nat → Addr) (E : XK) (f : EO ρ) : TO := fun σ H Q => ∃ φ env ms kx k, EnR K cA φ H env σ ∧ HR K cA φ ms H ∧ Ans.ok (f kx env ms k) ∧ (∀ φ' ms' H' b, Gr K φ H φ' H' → HR K cA φ' ms' H' → Ans.ok (k b ms') → Q b H') ∧ XT K cA φ H kx E
theorem po_w {e : Option Expr} {t t' : TO} (h : PO X e t) (w : ∀ σ H Q, t' σ H Q → t σ H Q) : PO X e t' := ⟨fun pins s σ H Q I q => h.run pins s σ H Q I (w σ H Q q)⟩
theorem mO_none : PO X none (tO X.K cA E (oNone (ρ := ρ))) := po_w po_none fun σ H Q ⟨φ, env, ms, kx, k, er, hr, o, kt, xt⟩ => kt φ ms H none Gr.refl hr o
theorem mO_some (h : PE X e (tE X.K cA E f)) : PO X (some e) (tO X.K cA E (oSome f)) := po_w (po_some h) fun σ H Q ⟨φ, env, ms, kx, k, er, hr, o, kt, xt⟩ =>
  ⟨φ, env, ms, kx, _, er, hr, o, fun φ1 ms1 H1 x v g1 hr1 vx o1 => by
    cases vx with
    | int i => exact ⟨i, rfl, kt φ1 ms1 H1 (some i) g1 hr1 o1⟩
    | _ => exact absurd o1 Ans.bot_ok, xt⟩
def cutM (xs : List MV) (lo hi : Option Int) : List MV := (xs.drop (HT.sIx xs.length 0 lo)).take (HT.sIx xs.length xs.length hi - HT.sIx xs.length 0 lo)
def eSl (f : EV ρ) (l h : EO ρ) : EV ρ := fun kx env ms k => f kx env ms fun x ms1 => l kx env ms1 fun lo ms2 => h kx env ms2 fun hi ms3 => match x with
  | .tup xs => gd (!(decide (HT.sIx xs.length 0 lo = 0) && decide (HT.sIx xs.length xs.length hi = xs.length))) (k (.tup (cutM xs lo hi)) ms3)
  | .loc n => match ms3.hp[n]? with
    | some (.lst xs) => k (.loc ms3.hp.length) (ms3.push (.lst (cutM xs lo hi)))
    | _ => Ans.bot
  | _ => Ans.bot
theorem SlR.or2 {r r' : V → Option Int → Option Int → Hp → VK → Prop} (h : SlR X r) (h' : SlR X r') : SlR X (fun x lo hi H Q => r x lo hi H Q ∨ r' x lo hi H Q) := SlR.or h h'
theorem mE_sl {lo hi : Option Expr} {l h : EO ρ} {p2 : Pos} (he : PE X e (tE X.K cA E f)) (hl : PO X lo (tO X.K cA E l)) (hu : PO X hi (tO X.K cA E h)) : PE X (.Subscript e (.Slice lo hi none p2) pos) (tE X.K cA E (eSl f l h)) :=
  pe_w (pe_slice (SlR.or2 sl_list sl_tup) he hl hu) fun σ H Q ⟨φ, env, ms, kx, k, er, hr, o, kt, xt⟩ =>
    ⟨φ, env, ms, kx, _, er, hr, o, fun φ1 ms1 H1 x v g1 hr1 vx o1 => ⟨φ1, env, ms1, kx, _, er.gr g1, hr1, o1, fun φ2 ms2 H2 lo g2 hr2 o2 => ⟨φ2, env, ms2, kx, _, er.gr (g1.trans g2), hr2, o2, fun φ3 ms3 H3 hi g3 hr3 o3 => by
      have vx3 := vx.gr (g2.trans g3)
      have g := g1.trans (g2.trans g3)
      cases vx3 with
      | @tup xs a vs s r =>
        obtain ⟨z, o3⟩ := ok_gd o3
        refine .inr ⟨_, _, rfl, s, ?_, fun p hp => ?_⟩
        · rw [← r.len]
          intro ⟨q1, q2⟩
          simp [q1, q2] at z
        · have sm := Same.newS (o := HO.tup (cutV vs lo hi)) hp
          refine kt φ3 ms3 _ _ _ (g.trans (Gr.same sm)) (hr3.same sm) (.tup (.inl (.inl upd_same)) (VRs.gr (Gr.same sm) ?_)) o3
          unfold cutM cutV
          rw [← r.len]
          exact (r.drop _).take _
      | @loc n a ea =>
        obtain ⟨oa, h1, h2⟩ := hr3.at' ea
        dsimp only at o3
        rw [h1] at o3
        cases oa with
        | lst xs =>
          obtain ⟨vs, q1, q2⟩ := h2
          refine .inl ⟨a, vs, rfl, SqL.of q1, fun p hp => ?_⟩
          have q : VRs X.K cA φ3 H3 (cutM xs lo hi) (cutV vs lo hi) := by
            unfold cutM cutV
            rw [← q2.len]
            exact (q2.drop _).take _
          obtain ⟨n1, n2, n3⟩ := new_lst hr3 hp q
          exact kt _ _ _ _ _ (g.trans n1) n2 n3 o3
        | _ => exact absurd o3 Ans.bot_ok
      | _ => exact absurd o3 Ans.bot_ok, xt.gr (g1.trans g2)⟩, xt.gr g1⟩, xt⟩
end
end Mi

/-! part MI4 -/
set_option Elab.async false
set_option linter.all false
set_option maxRecDepth 100000
set_option maxHeartbeats 4000000
namespace Mi
open PySem PySem.Spec PyProof.Rows L2 SC
open PySem.SupX (MkE ExMade Sup1 Sup2 SupC mk1 mk1k mk2 mk2k)

/-! ### what is walked -/
inductive MIt where
  | lst (n : Nat) | tup (xs : List MV) | rng (lo : Int) (n : Nat) | enm (n : Nat)
def nxt (it : MIt) (i : Nat) (ms : MS) : Option (Option MV) := match it with
  | .lst n => match ms.hp[n]? with
    | some (.lst xs) => some xs[i]?
    | _ => none
  | .tup xs => some xs[i]?
  | .rng lo n => match decide (i < n) with
    | true => some (some (.int (lo + (i : Nat))))
    | false => some none
  | .enm n => match ms.hp[n]? with
    | some (.lst xs) => match xs[i]? with
      | some x => some (some (.tup [.int (i : Nat), x]))
      | none => some none
    | _ => none
section
variable (K : PySem.W.Frag) (cA : Nat → Addr)
/-- the mirror's walk and the reading's -/
def ItR (φ : Ph) (H : Hp) (J : It) (it : MIt) : Prop := ∀ φ' H' ms' i, Gr K φ H φ' H' → HR K cA φ' ms' H' →
  (nxt it i ms' = some none → J.stop i H') ∧ ∀ v, nxt it i ms' = some (some v) → J.go i H' ∧ ∀ x H'', J.yld i H' x H'' → Gr K φ' H' φ' H'' ∧ HR K cA φ' ms' H'' ∧ VR K cA φ' H'' v x
end
section
variable {K : PySem.W.Frag} {cA : Nat → Addr} {φ : Ph} {H : Hp} {ms : MS}
theorem ItR.gr {φ1 : Ph} {H1 : Hp} {J : It} {it : MIt} (g : Gr K φ H φ1 H1) (h : ItR K cA φ H J it) : ItR K cA φ1 H1 J it := fun φ' H' ms' i g' => h φ' H' ms' i (g.trans g')
theorem list_at {n : Nat} {a : Addr} (hr : HR K cA φ ms H) (ea : φ.ls[n]? = some a) {xs : List MV} (e : ms.hp[n]? = some (.lst xs)) : ∃ vs, H a = some (.lst vs) ∧ VRs K cA φ H xs vs := hr.obj n a _ ea e
theorem sql_inj {a : Addr} {xs ys : List V} (h : H a = some (.lst xs)) (h' : SqL K H a ys) (hk : K.lookup a = none) : ys = xs := by
  rcases h' with (h' | ⟨o, h'⟩) | ⟨o, its, n, h', _⟩
  · rw [h] at h'; cases h'; rfl
  · rw [h] at h'; cases h'
  · rw [hk] at h'; cases h'
theorem itR_lst {n : Nat} {a : Addr} (ea : φ.ls[n]? = some a) : ItR K cA φ H (Itl K a) (.lst n) := fun φ' H' ms' i g hr => by
  have ea' := g.ls _ _ ea
  refine ⟨fun h => ?_, fun v h => ?_⟩
  · unfold nxt at h
    dsimp only at h
    split at h
    · rename_i xs e
      obtain ⟨vs, q1, q2⟩ := list_at hr ea' e
      refine ⟨vs, SqL.of q1, ?_⟩
      have h2 : xs[i]? = none := Option.some.inj h
      rw [← q2.len]
      exact List.getElem?_eq_none_iff.mp h2
    · cases h
  · unfold nxt at h
    dsimp only at h
    split at h
    · rename_i xs e
      obtain ⟨vs, q1, q2⟩ := list_at hr ea' e
      obtain ⟨w, q3, q4⟩ := q2.get (Option.some.inj h)
      refine ⟨⟨vs, w, SqL.of q1, q3⟩, fun x H'' ⟨e1, y⟩ => ?_⟩
      subst e1
      have e2 := y vs (SqL.of q1)
      rw [q3] at e2
      cases e2
      exact ⟨Gr.refl, hr, q4⟩
    · cases h
theorem itR_tup {a : Addr} {xs : List MV} {vs : List V} (s : SqT K H a vs) (r : VRs K cA φ H xs vs) : ItR K cA φ H (Itt K a) (.tup xs) := fun φ' H' ms' i g hr => by
  have s' := g.tup _ _ s
  have r' := r.gr g
  refine ⟨fun h => ⟨vs, s', ?_⟩, fun v h => ?_⟩
  · have h2 : xs[i]? = none := Option.some.inj h
    rw [← r.len]
    exact List.getElem?_eq_none_iff.mp h2
  · obtain ⟨w, q3, q4⟩ := r'.get (Option.some.inj h)
    refine ⟨⟨vs, w, s', q3⟩, fun x H'' ⟨e1, y⟩ => ?_⟩
    subst e1
    have e2 := y vs s'
    rw [q3] at e2
    cases e2
    exact ⟨Gr.refl, hr, q4⟩
theorem itR_rng {lo : Int} {n : Nat} : ItR K cA φ H (Itr lo n) (.rng lo n) := fun φ' H' ms' i g hr => by
  refine ⟨fun h => ?_, fun v h => ?_⟩
  · unfold nxt at h
    dsimp only at h
    split at h
    · cases h
    · rename_i q
      exact Nat.le_of_not_lt (of_decide_eq_false q)
  · unfold nxt at h
    dsimp only at h
    split at h
    · rename_i q
      refine ⟨show i < n from of_decide_eq_true q, fun x H'' ⟨e1, y⟩ => ?_⟩
      subst e1
      subst y
      cases h
      exact ⟨Gr.refl, hr, .int _⟩
    · cases h
theorem itR_enm {n : Nat} {a : Addr} (ea : φ.ls[n]? = some a) : ItR K cA φ H (Ite K a) (.enm n) := fun φ' H' ms' i g hr => by
  have ea' := g.ls _ _ ea
  refine ⟨fun h => ?_, fun v h => ?_⟩
  · unfold nxt at h
    dsimp only at h
    split at h
    · rename_i xs e
      obtain ⟨vs, q1, q2⟩ := list_at hr ea' e
      split at h
      · cases h
      · rename_i h2
        refine ⟨vs, SqL.of q1, ?_⟩
        rw [← q2.len]
        exact List.getElem?_eq_none_iff.mp h2
    · cases h
  · unfold nxt at h
    dsimp only at h
    split at h
    · rename_i xs e
      obtain ⟨vs, q1, q2⟩ := list_at hr ea' e
      split at h
      · rename_i x h2
        obtain ⟨w, q3, q4⟩ := q2.get h2
        refine ⟨⟨vs, w, SqL.of q1, q3⟩, fun y H'' ⟨T, z, e1, e2, e3, e4⟩ => ?_⟩
        subst e1 e3
        have e5 := e4 vs (SqL.of q1)
        rw [q3] at e5
        cases e5
        cases h
        have sm := Same.newS (o := HO.tup [.int (i : Nat), w]) e2
        exact ⟨Gr.same sm, hr.same sm, .tup (.inl (.inl upd_same)) (.cons (.int _) (.cons (q4.gr (Gr.same sm)) .nil))⟩
      · cases h
    · cases h
end
section
variable {ρ : Type} [Ans ρ] {X : Cx} {cA : Nat → Addr} {E : XK} {a b c e tg iter elt : Expr} {es : List Expr} {f g : EV ρ} {fa fk : EA ρ} {p pos : Pos} {CX : CXT} {x : Str}
abbrev EI (ρ : Type) := KX ρ → ME → MS → (MIt → MS → ρ) → ρ
def tI (K : PySem.W.Frag) (cA : Nat → Addr) (E : XK) (f : EI ρ) : TI := fun σ H R => ∃ φ env ms kx k, EnR K cA φ H env σ ∧ HR K cA φ ms H ∧ Ans.ok (f kx env ms k) ∧
  (∀ φ' ms' H' it J, Gr K φ H φ' H' → HR K cA φ' ms' H' → ItR K cA φ' H' J it → Ans.ok (k it ms') → R J H') ∧ XT K cA φ H kx E
def iAny (f : EV ρ) : EI ρ := fun kx env ms k => f kx env ms fun x ms1 => match x with
  | .loc n => match ms1.hp[n]? with
    | some (.lst _) => k (.lst n) ms1
    | _ => Ans.bot
  | .tup xs => k (.tup xs) ms1
  | _ => Ans.bot
theorem mI_any (hl : PE X iter (tE X.K cA E f)) : PI X tg iter (tI X.K cA E (iAny f)) := by
  refine ⟨fun pins s σ H R I h => ?_⟩
  obtain ⟨φ, env, ms, kx, k, er, hr, o, kt, xt⟩ := h
  refine thn (hl.run pins s σ H (fun v H1 => ∃ a, v = .ref a ∧ ((∃ xs, SqL X.K H1 a xs) ∧ R (Itl X.K a) H1 ∨ (∃ xs, SqT X.K H1 a xs) ∧ R (Itt X.K a) H1)) I ⟨φ, env, ms, kx, _, er, hr, o, fun φ1 ms1 H1 x v g1 hr1 vx o1 => ?_, xt⟩) fun v s1 ⟨x, H1, I1, r1, q1⟩ => ?_
  · cases vx with
    | @loc n a ea =>
      obtain ⟨oa, h1, h2⟩ := hr1.at' ea
      dsimp only at o1
      rw [h1] at o1
      cases oa with
      | lst xs =>
        obtain ⟨vs, q1, q2⟩ := h2
        exact ⟨a, rfl, .inl ⟨⟨vs, SqL.of q1⟩, kt φ1 ms1 H1 _ _ g1 hr1 (itR_lst ea) o1⟩⟩
      | _ => exact absurd o1 Ans.bot_ok
    | tup s r => exact ⟨_, rfl, .inr ⟨⟨_, s⟩, kt φ1 ms1 H1 _ _ g1 hr1 (itR_tup s r) o1⟩⟩
    | _ => exact absurd o1 Ans.bot_ok
  · obtain ⟨a, e, q1⟩ := q1
    subst e
    cases r1
    rcases q1 with ⟨⟨xs, hq⟩, q⟩ | ⟨⟨xs, hq⟩, q⟩
    · obtain ⟨its, rv, p, hz⟩ := I1.list hq
      refine wpAny_pyIter_list p.isList ?_
      refine ⟨s1.heap.objs.size, [s1.heap.objs.size], _, _, H1, rfl, I1.kept (t' := s1.toks) fun b o e => Heap.get?_push_of_some _ e, turn_list a _, ⟨_, Heap.get?_push_size _ rfl, rfl, rfl⟩, fun b hb => ?_, q⟩
      have e : b = s1.heap.objs.size := by simpa using hb
      subst e
      exact I1.fpOk (Nat.le_refl _) (I1.hok.fresh (Nat.le_refl _))
    · obtain ⟨its, rv, p, hz⟩ := I1.tuple hq
      refine wpAny_pyIter_tuple (show s1.heap.IsTuple a its.toArray from p) ?_
      refine ⟨s1.heap.objs.size, [s1.heap.objs.size], _, _, H1, rfl, I1.kept (t' := s1.toks) fun b o e => Heap.get?_push_of_some _ e, turn_tuple a _, ⟨_, Heap.get?_push_size _ rfl, rfl, rfl⟩, fun b hb => ?_, q⟩
      have e : b = s1.heap.objs.size := by simpa using hb
      subst e
      exact I1.fpOk (Nat.le_refl _) (I1.hok.fresh (Nat.le_refl _))
def iR1 (f : EV ρ) : EI ρ := fun kx env ms k => f kx env ms fun x ms1 => match x with
  | .int j => gd (decide (-(2 ^ 62) ≤ j) && decide (j < 2 ^ 62)) (k (.rng 0 j.toNat) ms1)
  | _ => Ans.bot
def iR2 (f g : EV ρ) : EI ρ := fun kx env ms k => f kx env ms fun x ms1 => g kx env ms1 fun y ms2 => match x, y with
  | .int i, .int j => gd (decide (-(2 ^ 62) ≤ i) && decide (i < 2 ^ 62) && decide (-(2 ^ 62) ≤ j) && decide (j < 2 ^ 62)) (k (.rng i (j - i).toNat) ms2)
  | _, _ => Ans.bot
theorem pi_w {t t' : TI} (h : PI X tg iter t) (w : ∀ σ H R, t' σ H R → t σ H R) : PI X tg iter t' := ⟨fun pins s σ H R I q => h.run pins s σ H R I (w σ H R q)⟩
theorem mI_r1 (hg : Gl X "range") (hm : X.mg "range" = none) (ha : PE X a (tE X.K cA E f)) (hs : isSt a = false) : PI X tg (.Call (.Name "range" p) [a] [] pos) (tI X.K cA E (iR1 f)) :=
  pi_w (pi_range1 hg hm (pa_cons ha pa_nil (star_cons hs)) (star_cons hs)) fun σ H R ⟨φ, env, ms, kx, k, er, hr, o, kt, xt⟩ =>
    ⟨φ, env, ms, kx, _, er, hr, o, fun φ1 ms1 H1 x v g1 hr1 vx o1 => by
      cases vx with
      | int j =>
        obtain ⟨z, o1⟩ := ok_gd o1
        obtain ⟨z1, z2⟩ := Bool.and_eq_true_iff.mp z
        exact ⟨j, rfl, of_decide_eq_true z1, of_decide_eq_true z2, kt φ1 ms1 H1 _ _ g1 hr1 itR_rng o1⟩
      | _ => exact absurd o1 Ans.bot_ok, xt⟩
theorem mI_r2 (hg : Gl X "range") (hm : X.mg "range" = none) (ha : PE X a (tE X.K cA E f)) (hb : PE X b (tE X.K cA E g)) (hs : isSt a = false) (hs2 : isSt b = false) : PI X tg (.Call (.Name "range" p) [a, b] [] pos) (tI X.K cA E (iR2 f g)) :=
  pi_w (pi_range2 hg hm (pa_cons ha (pa_cons hb pa_nil (star_cons hs2)) (star_cons hs)) (by rw [star_cons hs, star_cons hs2]; rfl) (star_cons hs2)) fun σ H R ⟨φ, env, ms, kx, k, er, hr, o, kt, xt⟩ =>
    ⟨φ, env, ms, kx, _, er, hr, o, fun φ1 ms1 H1 x v g1 hr1 vx o1 => ⟨φ1, env, ms1, kx, _, er.gr g1, hr1, o1, fun φ2 ms2 H2 y w g2 hr2 vy o2 => by
      cases vx with
      | int i =>
        cases vy with
        | int j =>
          obtain ⟨z, o2⟩ := ok_gd o2
          simp only [Bool.and_eq_true, decide_eq_true_eq] at z
          exact ⟨i, j, rfl, ⟨z.1.1.1, z.1.1.2, z.1.2, z.2⟩, kt φ2 ms2 H2 _ _ (g1.trans g2) hr2 itR_rng o2⟩
        | _ => exact absurd o2 Ans.bot_ok
      | _ => exact absurd o2 Ans.bot_ok, xt.gr g1⟩, xt⟩
def iEn (f : EV ρ) : EI ρ := fun kx env ms k => f kx env ms fun x ms1 => match x with
  | .loc n => match ms1.hp[n]? with
    | some (.lst _) => k (.enm n) ms1
    | _ => Ans.bot
  | _ => Ans.bot
theorem mI_en {elts : List Expr} {kk : Nat} {tpos : Pos} (hg : Gl X "enumerate") (hm : X.mg "enumerate" = none) (ha : PE X a (tE X.K cA E f)) (hs : isSt a = false) : PI X (.Tuple elts kk tpos) (.Call (.Name "enumerate" p) [a] [] pos) (tI X.K cA E (iEn f)) :=
  pi_w (pi_enum hg hm (pa_cons ha pa_nil (star_cons hs)) (star_cons hs)) fun σ H R ⟨φ, env, ms, kx, k, er, hr, o, kt, xt⟩ =>
    ⟨φ, env, ms, kx, _, er, hr, o, fun φ1 ms1 H1 x v g1 hr1 vx o1 => by
      cases vx with
      | @loc n a ea =>
        obtain ⟨oa, h1, h2⟩ := hr1.at' ea
        dsimp only at o1
        rw [h1] at o1
        cases oa with
        | lst xs =>
          obtain ⟨vs, q1, q2⟩ := h2
          exact ⟨a, vs, rfl, SqL.of q1, kt φ1 ms1 H1 _ _ g1 hr1 (itR_enm ea) o1⟩
        | _ => exact absurd o1 Ans.bot_ok
      | _ => exact absurd o1 Ans.bot_ok, xt⟩
/-! ### targets -/
abbrev EG (ρ : Type) := MV → ME → MS → (ME → MS → ρ) → ρ
abbrev EGs (ρ : Type) := List MV → ME → MS → (ME → MS → ρ) → ρ
/-- only slots of L are written -/
def Chg (L : List Nat) (σ σ' : L2.St) : Prop := ∀ vs : List Nat, (∀ i ∈ L, i ∈ vs) → L2.wipe σ' vs = L2.wipe σ vs
theorem Chg.refl {L : List Nat} {σ : L2.St} : Chg L σ σ := fun _ _ => rfl
theorem wipe_set {σ : L2.St} {i : Nat} {x : Option V} : ∀ {vs : List Nat}, i ∈ vs → L2.wipe (σ.set i x) vs = L2.wipe σ vs
  | [], h => by cases h
  | v :: vs, h => by
    show (L2.wipe (σ.set i x) vs).set v none = (L2.wipe σ vs).set v none
    by_cases e : i ∈ vs
    · rw [wipe_set e]
    · have e2 : i = v := by
        rcases List.mem_cons.mp h with h | h
        · exact h
        · exact absurd h e
      subst e2
      have com : ∀ (vs : List Nat) (τ : L2.St), i ∉ vs → L2.wipe (τ.set i x) vs = (L2.wipe τ vs).set i x := by
        intro vs
        induction vs with
        | nil => intro τ _; rfl
        | cons w vs ih =>
          intro τ hn
          simp only [List.mem_cons, not_or] at hn
          show (L2.wipe (τ.set i x) vs).set w none = ((L2.wipe τ vs).set w none).set i x
          rw [ih τ hn.2, List.set_comm _ _ hn.1]
      rw [com vs σ e, List.set_set]
def tG (K : PySem.W.Frag) (cA : Nat → Addr) (L : List Nat) (f : EG ρ) : TG := fun v σ H Q => ∃ φ env ms mv k, EnR K cA φ H env σ ∧ HR K cA φ ms H ∧ VR K cA φ H mv v ∧ Ans.ok (f mv env ms k) ∧
  ∀ φ' ms' H' e' σ', Gr K φ H φ' H' → HR K cA φ' ms' H' → EnR K cA φ' H' e' σ' → Chg L σ σ' → Ans.ok (k e' ms') → Q σ' H'
def tGs (K : PySem.W.Frag) (cA : Nat → Addr) (L : List Nat) (f : EGs ρ) : TGs := fun v σ H Q => ∃ φ env ms mv k, EnR K cA φ H env σ ∧ HR K cA φ ms H ∧ VRs K cA φ H mv v ∧ Ans.ok (f mv env ms k) ∧
  ∀ φ' ms' H' e' σ', Gr K φ H φ' H' → HR K cA φ' ms' H' → EnR K cA φ' H' e' σ' → Chg L σ σ' → Ans.ok (k e' ms') → Q σ' H'
theorem pg_w {t t' : TG} (h : PG X tg t) (w : ∀ v σ H Q, t' v σ H Q → t v σ H Q) : PG X tg t' := ⟨fun pins s σ H v u Q I r q => h.run pins s σ H v u Q I r (w v σ H Q q)⟩
theorem pgs_w {t t' : TGs} {tgs : List Expr} (h : PGs X tgs t) (w : ∀ v σ H Q, t' v σ H Q → t v σ H Q) : PGs X tgs t' := ⟨fun pins s σ H v u Q I r q => h.run pins s σ H v u Q I r (w v σ H Q q)⟩
theorem pg_or {t t' : TG} (h : PG X tg t) (h' : PG X tg t') : PG X tg (fun v σ H Q => t v σ H Q ∨ t' v σ H Q) := ⟨fun pins s σ H v u Q I r q => q.elim (h.run pins s σ H v u Q I r) (h'.run pins s σ H v u Q I r)⟩
def gN (i : Nat) : EG ρ := fun x env ms k => k (env.set i (some x)) ms
theorem mG_nm {i : Nat} (hN : X.N.Nodup) (hi : X.N[i]? = some x) (hx : Loc X.env.scope x) (hf : X.fn x = true ∨ X.env.scope.names.lookup x = some .local) : PG X (.Name x pos) (tG X.K cA [i] (gN (ρ := ρ) i)) :=
  pg_w (pg_name hN hi hx hf) fun v σ H Q ⟨φ, env, ms, mv, k, er, hr, vx, o, kt⟩ => kt φ ms H _ _ Gr.refl hr (er.set i vx) (fun vs h => wipe_set (h i (List.mem_singleton.mpr rfl))) o
def gsNil : EGs ρ := fun xs env ms k => match xs with
  | [] => k env ms
  | _ => Ans.bot
def gsCons (f : EG ρ) (g : EGs ρ) : EGs ρ := fun xs env ms k => match xs with
  | x :: r => f x env ms fun e1 ms1 => g r e1 ms1 k
  | _ => Ans.bot
theorem mGs_nil : PGs X [] (tGs X.K cA [] (gsNil (ρ := ρ))) := pgs_w pgs_nil fun v σ H Q ⟨φ, env, ms, mv, k, er, hr, vx, o, kt⟩ => by
  cases vx with
  | nil => exact ⟨rfl, kt φ ms H _ _ Gr.refl hr er Chg.refl o⟩
  | cons _ _ => exact absurd o Ans.bot_ok
theorem mGs_cons {L M : List Nat} {f : EG ρ} {g : EGs ρ} (h1 : PG X e (tG X.K cA L f)) (h2 : PGs X es (tGs X.K cA M g)) (hs : (assignEach (e :: es) X.env).map (·.2) = assign e X.env :: (assignEach es X.env).map (·.2)) : PGs X (e :: es) (tGs X.K cA (L ++ M) (gsCons f g)) :=
  pgs_w (pgs_cons h1 h2 hs) fun v σ H Q ⟨φ, env, ms, mv, k, er, hr, vx, o, kt⟩ => by
    cases vx with
    | nil => exact absurd o Ans.bot_ok
    | @cons x v xs vs a r =>
      refine ⟨v, vs, rfl, φ, env, ms, x, _, er, hr, a, o, fun φ1 ms1 H1 e1 σ1 g1 hr1 er1 c1 o1 => ⟨φ1, e1, ms1, xs, k, er1, hr1, r.gr g1, o1, fun φ2 ms2 H2 e2 σ2 g2 hr2 er2 c2 o2 => kt φ2 ms2 H2 e2 σ2 (g1.trans g2) hr2 er2 (fun vs h => ?_) o2⟩⟩
      rw [c2 vs (fun i hi => h i (List.mem_append_right _ hi)), c1 vs (fun i hi => h i (List.mem_append_left _ hi))]
def gTp (g : EGs ρ) : EG ρ := fun x env ms k => match x with
  | .tup xs => g xs env ms k
  | .loc n => match ms.hp[n]? with
    | some (.lst xs) => g xs env ms k
    | _ => Ans.bot
  | _ => Ans.bot
/-- as many values as targets -/
def lenG (n : Nat) (g : EGs ρ) : EGs ρ := fun xs env ms k => gd (decide (xs.length = n)) (g xs env ms k)
theorem mG_tup {L : List Nat} {n k0 : Nat} {g : EGs ρ} (hc : X.calm = true) (h : PGs X es (tGs X.K cA L g)) (hn : (assignEach es X.env).length = n) (hst : (assignEach es X.env).findIdx? (·.1) = none) : PG X (.Tuple es k0 pos) (tG X.K cA L (gTp (lenG n g))) :=
  pg_w (pg_or (pg_tup hc h hn hst) (pg_lst hc h hn hst)) fun v σ H Q ⟨φ, env, ms, mv, k, er, hr, vx, o, kt⟩ => by
    cases vx with
    | @tup xs a vs s r =>
      obtain ⟨z, o⟩ := ok_gd o
      exact .inl ⟨a, vs, rfl, s, r.len.symm.trans (of_decide_eq_true z), φ, env, ms, xs, k, er, hr, r, o, kt⟩
    | @loc m a ea =>
      obtain ⟨oa, h1, h2⟩ := hr.at' ea
      unfold gTp at o
      dsimp only at o
      rw [h1] at o
      cases oa with
      | lst xs =>
        obtain ⟨vs, q1, q2⟩ := h2
        obtain ⟨z, o⟩ := ok_gd o
        exact .inr ⟨a, vs, rfl, SqL.of q1, q2.len.symm.trans (of_decide_eq_true z), φ, env, ms, xs, k, er, hr, q2, o, kt⟩
      | _ => exact absurd o Ans.bot_ok
    | _ => exact absurd o Ans.bot_ok
/-! ### comprehensions -/
def kx0 : KX ρ := fun _ _ _ => Ans.bot
theorem XT.none {K : PySem.W.Frag} {φ : Ph} {H : Hp} {E : XK} : XT K cA φ H (kx0 (ρ := ρ)) E := fun _ _ _ _ _ _ _ _ _ _ _ o => absurd o Ans.bot_ok
def lcL (it : MIt) (D : Nat) (env : ME) (g : EG ρ) (t : EB ρ) (f : EV ρ) (k : K1 ρ) : Nat → Nat → MS → ρ
  | 0, _, _ => Ans.bot
  | n + 1, i, ms => opt (nxt it i ms) fun r => match r with
    | none => k (.loc D) ms
    | some x => g x env ms fun env1 ms1 => t kx0 env1 ms1 fun b ms2 => match b with
      | true => f kx0 env1 ms2 fun y ms3 => match ms3.hp[D]? with
        | some (.lst acc) => gd (decide (acc.length < 100000)) (lcL it D env g t f k n (i + 1) ⟨ms3.hp.set D (.lst (acc ++ [y])), ms3.n⟩)
        | _ => Ans.bot
      | false => lcL it D env g t f k n (i + 1) ms2
def eLc (fi : EI ρ) (vs : List Nat) (g : EG ρ) (t : EB ρ) (f : EV ρ) : EV ρ := fun kx env ms k => fi kx env ms fun it ms1 => lcL it ms1.hp.length (wipeM env vs) g t f k 10000 0 (ms1.push (.lst []))
abbrev EF : XK := fun _ _ _ => False
theorem t_lc {K : PySem.W.Frag} {fi : EI ρ} {vs L : List Nat} {g : EG ρ} {t : EB ρ} {f : EV ρ} (hL : ∀ i ∈ L, i ∈ vs) {σ : L2.St} {H : Hp} {Q : VK} (h : tE K cA E (eLc fi vs g t f) σ H Q) : tLc (tI K cA E fi) (tG K cA L g) (tT K cA EF t) (tE K cA EF f) vs σ H Q := by
  obtain ⟨φ, env, ms, kx, k, er, hr, o, kt, xt⟩ := h
  refine ⟨φ, env, ms, kx, _, er, hr, o, fun φ1 ms1 H1 it J g1 hr1 ir o1 => fun D hD => ?_, xt⟩
  obtain ⟨n1, n2, n3⟩ := new_lst hr1 hD VRs.nil
  let Wf : Nat → Nat → Hp → Prop := fun i m H' => ∃ φ' ms', Gr K (φ1.push D) (L2.upd H1 D (.lst [])) φ' H' ∧ HR K cA φ' ms' H' ∧ Ans.ok (lcL it ms1.hp.length (wipeM env vs) g t f k m i ms')
  refine ⟨Wf, ⟨10000, φ1.push D, ms1.push (.lst []), Gr.refl, n2, o1⟩, fun i m H' ⟨φ2, ms2, g2, hr2, o2⟩ => ?_⟩
  have gb := g1.trans (n1.trans g2)
  have ga := n1.trans g2
  cases m with
  | zero => exact absurd o2 Ans.bot_ok
  | succ m =>
    obtain ⟨r, e, o2⟩ := ok_opt o2
    have eD : (φ1.push D).ls[ms1.hp.length]? = some D := by rw [← hr1.len]; exact get_last
    cases r with
    | none => exact .inl ⟨(ir φ2 H' ms2 i ga hr2).1 e, kt φ2 ms2 H' _ _ gb hr2 (n3.gr g2) o2⟩
    | some x =>
      obtain ⟨q1, q2⟩ := (ir φ2 H' ms2 i ga hr2).2 x e
      refine .inr ⟨q1, fun H'' => Wf (i + 1) m H'', fun H'' w => ⟨m, Nat.lt_succ_self m, w⟩, fun v H3 y => ?_⟩
      obtain ⟨g3, hr3, vx⟩ := q2 v H3 y
      refine ⟨φ2, wipeM env vs, ms2, x, _, (er.gr (gb.trans g3)).wipe vs, hr3, vx, o2, fun φ4 ms4 H4 e4 σ4 g4 hr4 er4 c4 o4 => ⟨?_, ?_⟩⟩
      · have := c4 vs hL
        rw [this]
        -- wiping twice
        have idem : ∀ (vs : List Nat) (τ : L2.St), L2.wipe (L2.wipe τ vs) vs = L2.wipe τ vs := by
          intro vs τ
          apply List.ext_getElem?
          intro j
          have hw : ∀ (ws : List Nat) (τ : L2.St) (j : Nat), (L2.wipe τ ws)[j]? = if j ∈ ws then (τ[j]?).map (fun _ => none) else τ[j]? := by
            intro ws
            induction ws with
            | nil => intro τ j; rfl
            | cons w ws ih =>
              intro τ j
              show ((L2.wipe τ ws).set w none)[j]? = _
              by_cases hj : w = j
              · subst hj
                rw [List.getElem?_set_self']
                rw [ih]
                simp only [List.mem_cons, true_or, if_true]
                split
                · cases τ[w]? <;> rfl
                · cases τ[w]? <;> rfl
              · rw [List.getElem?_set_ne hj, ih]
                have : j ∈ w :: ws ↔ j ∈ ws := by simp [Ne.symm hj]
                simp only [this]
          rw [hw, hw]
          split
          · cases τ[j]? <;> rfl
          · rfl
        exact idem vs σ
      · refine ⟨φ4, e4, ms4, kx0, _, er4, hr4, o4, fun φ5 ms5 H5 b g5 hr5 o5 => ?_, XT.none⟩
        cases b with
        | false => exact iteF ⟨φ5, ms5, g2.trans (g3.trans (g4.trans g5)), hr5, o5⟩
        | true =>
          refine iteT ⟨φ5, e4, ms5, kx0, _, er4.gr g5, hr5, o5, fun φ6 ms6 H6 y w g6 hr6 vy o6 => ?_, XT.none⟩
          have g7 := g2.trans (g3.trans (g4.trans (g5.trans g6)))
          have eD6 := g7.ls _ _ eD
          obtain ⟨oa, h1, h2⟩ := hr6.at' eD6
          dsimp only at o6
          rw [h1] at o6
          cases oa with
          | lst acc =>
            obtain ⟨ws, z1, z2⟩ := h2
            obtain ⟨z3, o6⟩ := ok_gd o6
            have wr : Wr H6 D := .inl ⟨ws, z1⟩
            have gw : Gr K φ6 H6 φ6 (L2.upd H6 D (.lst (ws ++ [w]))) := Gr.wr wr
            refine ⟨ws, z1, by rw [← z2.len]; exact Evl.sz_lt (of_decide_eq_true z3), φ6, _, g7.trans gw, hr6.wr (mo := .lst (acc ++ [y])) eD6 wr ⟨ws ++ [w], upd_same, (z2.gr gw).app (.cons (vy.gr gw) .nil)⟩, o6⟩
          | _ => exact absurd o6 Ans.bot_ok
end
end Mi

/-! part MI5 -/
set_option Elab.async false
set_option linter.all false
set_option maxRecDepth 100000
set_option maxHeartbeats 4000000
namespace Mi
open PySem PySem.Spec PyProof.Rows L2 SC
open PySem.SupX (MkE ExMade Sup1 Sup2 SupC mk1 mk1k mk2 mk2k)
section
variable {ρ : Type} [Ans ρ] {X : Cx} {cA : Nat → Addr} {E : XK} {a b c e o tg iter elt : Expr} {es : List Expr} {f g : EV ρ} {fa fk : EA ρ} {p pos : Pos} {CX : CXT} {x : Str} {st : Stmt} {body : List Stmt}
/-! ### statements -/
def sNext : ES ρ := fun _ env ms d => d.nx env ms
def sSeq (s u : ES ρ) : ES ρ := fun kx env ms d => s kx env ms { d with nx := fun e m => u kx e m d }
def sRet (f : EV ρ) : ES ρ := fun kx env ms d => f kx env ms d.rt
def sRetN : ES ρ := fun _ _ ms d => d.rt .non ms
def sEx (f : EV ρ) : ES ρ := fun kx env ms d => f kx env ms fun _ ms1 => d.nx env ms1
def sIf (t : EB ρ) (s u : ES ρ) : ES ρ := fun kx env ms d => t kx env ms fun b ms1 => match b with
  | true => s kx env ms1 d
  | false => u kx env ms1 d
def sAsg (f : EV ρ) (g : EG ρ) : ES ρ := fun kx env ms d => f kx env ms fun x ms1 => g x env ms1 d.nx
def sBk : ES ρ := fun _ env ms d => d.bk env ms
def sCt : ES ρ := fun _ env ms d => d.ct env ms
theorem mS_nil : PSs X [] (tS X.K cA E (sNext (ρ := ρ))) := pss_w pss_nil fun D σ H ⟨φ, env, ms, kx, d, er, hr, o, dt, xt⟩ => dt.nx φ ms H env σ Gr.refl hr er o
theorem mS_cons {s u : ES ρ} (h1 : PS X st (tS X.K cA E s)) (h2 : PSs X body (tS X.K cA E u)) : PSs X (st :: body) (tS X.K cA E (sSeq s u)) :=
  pss_w (pss_cons h1 h2) fun D σ H ⟨φ, env, ms, kx, d, er, hr, o, dt, xt⟩ =>
    ⟨φ, env, ms, kx, _, er, hr, o, ⟨fun φ1 ms1 H1 e1 σ1 g1 hr1 er1 o1 => ⟨φ1, e1, ms1, kx, d, er1, hr1, o1, dt.gr g1, xt.gr g1⟩, dt.rt, dt.bk, dt.ct⟩, xt⟩
theorem mS_pass : PS X (.Pass pos) (tS X.K cA E (sNext (ρ := ρ))) := ps_w ps_pass fun D σ H ⟨φ, env, ms, kx, d, er, hr, o, dt, xt⟩ => dt.nx φ ms H env σ Gr.refl hr er o
theorem mS_bk : PS X (.Break pos) (tS X.K cA E (sBk (ρ := ρ))) := ps_w ps_break fun D σ H ⟨φ, env, ms, kx, d, er, hr, o, dt, xt⟩ => dt.bk φ ms H env σ Gr.refl hr er o
theorem mS_ct : PS X (.Continue pos) (tS X.K cA E (sCt (ρ := ρ))) := ps_w ps_continue fun D σ H ⟨φ, env, ms, kx, d, er, hr, o, dt, xt⟩ => dt.ct φ ms H env σ Gr.refl hr er o
theorem mS_ret (he : PE X e (tE X.K cA E f)) : PS X (.Return (some e) pos) (tS X.K cA E (sRet f)) :=
  ps_w (ps_ret he) fun D σ H ⟨φ, env, ms, kx, d, er, hr, o, dt, xt⟩ => ⟨φ, env, ms, kx, _, er, hr, o, dt.rt, xt⟩
theorem mS_retN : PS X (.Return none pos) (tS X.K cA E (sRetN (ρ := ρ))) := ps_w ps_retN fun D σ H ⟨φ, env, ms, kx, d, er, hr, o, dt, xt⟩ => dt.rt φ ms H .non .non Gr.refl hr .non o
theorem mS_ex (he : PE X e (tE X.K cA E f)) (hs : swapsWith e none pos.line X.env = pure false) : PS X (.Expr e pos) (tS X.K cA E (sEx f)) :=
  ps_w (ps_expr he hs) fun D σ H ⟨φ, env, ms, kx, d, er, hr, o, dt, xt⟩ => ⟨φ, env, ms, kx, _, er, hr, o, fun φ1 ms1 H1 x v g1 hr1 vx o1 => dt.nx φ1 ms1 H1 env σ g1 hr1 (er.gr g1) o1, xt⟩
theorem mS_if {t : EB ρ} {s u : ES ρ} {q r : List Stmt} (hc : PT X c (tT X.K cA E t)) (ha : PSs X q (tS X.K cA E s)) (hb : PSs X r (tS X.K cA E u)) : PS X (.If c q r pos) (tS X.K cA E (sIf t s u)) :=
  ps_w (ps_if hc ha hb) fun D σ H ⟨φ, env, ms, kx, d, er, hr, o, dt, xt⟩ => ⟨φ, env, ms, kx, _, er, hr, o, fun φ1 ms1 H1 x g1 hr1 o1 => by
    cases x with
    | true => exact iteT ⟨φ1, env, ms1, kx, d, er.gr g1, hr1, o1, dt.gr g1, xt.gr g1⟩
    | false => exact iteF ⟨φ1, env, ms1, kx, d, er.gr g1, hr1, o1, dt.gr g1, xt.gr g1⟩, xt⟩
theorem t_asg {K : PySem.W.Frag} {te : TE} {L : List Nat} {g : EG ρ} {D : Ends} {σ : L2.St} {H : Hp} (w : ∀ Q, tE K cA E f σ H Q → te σ H Q) (h : tS K cA E (sAsg f g) D σ H) : tAsg te (tG K cA L g) D σ H := by
  obtain ⟨φ, env, ms, kx, d, er, hr, o, dt, xt⟩ := h
  exact w _ ⟨φ, env, ms, kx, _, er, hr, o, fun φ1 ms1 H1 x v g1 hr1 vx o1 => ⟨φ1, env, ms1, x, _, er.gr g1, hr1, vx, o1, fun φ2 ms2 H2 e2 σ2 g2 hr2 er2 _ o2 => dt.nx φ2 ms2 H2 e2 σ2 (g1.trans g2) hr2 er2 o2⟩, xt⟩
theorem mS_asg {L : List Nat} {g : EG ρ} (he : PE X e (tE X.K cA E f)) (hg : PG X tg (tG X.K cA L g)) (hs : swapsWithSole [tg] e pos.line X.env = pure false) (hw : swappedStores [tg] e X.env = pure none)
    (h1 : (assignEach [tg] X.env).map (·.2) = [assign tg X.env]) : PS X (.Assign [tg] e pos) (tS X.K cA E (sAsg f g)) :=
  ps_w (ps_asg he hg hs hw h1) fun D σ H h => t_asg (fun _ q => q) h
/-- name = value -/
theorem mS_set {i : Nat} {pos' : Pos} (hN : X.N.Nodup) (hi : X.N[i]? = some x) (hx : Loc X.env.scope x) (he : PE X e (tE X.K cA E f)) (hs : swapsWith e (some (.Name x pos')) pos.line X.env = pure false) (hf : X.fn x = true ∨ X.env.scope.names.lookup x = some .local) :
    PS X (.Assign [.Name x pos'] e pos) (tS X.K cA E (sAsg f (gN i))) :=
  ps_w (ps_set hN hi hx he hs hf) fun D σ H ⟨φ, env, ms, kx, d, er, hr, o, dt, xt⟩ => ⟨φ, env, ms, kx, _, er, hr, o, fun φ1 ms1 H1 x v g1 hr1 vx o1 => dt.nx φ1 ms1 H1 _ _ g1 hr1 ((er.gr g1).set i vx) o1, xt⟩
/-- the list comprehension, and its store on one line -/
theorem mE_lc {ifs : List Expr} {scope : Scope} {own : List (Str × Nat)} {fi : EI ρ} {L : List Nat} {gg : EG ρ} {t : EB ρ} (hc : X.calm = true) (hN : X.N.Nodup) (hi : PI X tg iter (tI X.K cA E fi)) (ok : BlkOk X.N X.env.scope scope own) (hL : ∀ i ∈ L, i ∈ own.map (·.2))
    (hg : ∀ (s : Shared) (H : Hp) (C : Addr) (cl : List (Str × Addr)) (fp : List Addr), PG (X.blk s H scope (compEnvC scope cl C X.env) fp) tg (tG X.K cA L gg)) (ht : ∀ (s : Shared) (H : Hp) (C : Addr) (cl : List (Str × Addr)) (fp : List Addr), PTs (X.blk s H scope (compEnvC scope cl C X.env) fp) ifs (tT X.K cA EF t))
    (he : ∀ (s : Shared) (H : Hp) (C : Addr) (cl : List (Str × Addr)) (fp : List Addr), PE (X.blk s H scope (compEnvC scope cl C X.env) fp) elt (tE X.K cA EF f)) (hs : ∀ x, foldedSetIterable iter X.env x = pure x) :
    PE X (.ListComp elt [⟨tg, iter, ifs, 0⟩] scope pos) (tE X.K cA E (eLc fi (own.map (·.2)) gg t f)) :=
  pe_w (pe_lc hc hN hi ok hg ht he hs) fun σ H Q h => t_lc hL h
theorem mS_lc {i : Nat} {py spos : Pos} {ifs : List Expr} {scope : Scope} {own : List (Str × Nat)} {fi : EI ρ} {L : List Nat} {gg : EG ρ} {t : EB ρ} (hc : X.calm = true) (hN : X.N.Nodup) (hy : X.N[i]? = some x) (hyl : X.env.scope.names.lookup x = some .local)
    (hsw : swapsWith (.ListComp elt [⟨tg, iter, ifs, 0⟩] scope pos) (some (.Name x py)) spos.line X.env = pure true) (hi : PI X tg iter (tI X.K cA E fi)) (ok : BlkOk X.N X.env.scope scope own) (hL : ∀ i ∈ L, i ∈ own.map (·.2))
    (hg : ∀ (s : Shared) (H : Hp) (C : Addr) (cl : List (Str × Addr)) (fp : List Addr), PG (X.blk s H scope (compEnvC scope cl C X.env) fp) tg (tG X.K cA L gg)) (ht : ∀ (s : Shared) (H : Hp) (C : Addr) (cl : List (Str × Addr)) (fp : List Addr), PTs (X.blk s H scope (compEnvC scope cl C X.env) fp) ifs (tT X.K cA EF t))
    (he : ∀ (s : Shared) (H : Hp) (C : Addr) (cl : List (Str × Addr)) (fp : List Addr), PE (X.blk s H scope (compEnvC scope cl C X.env) fp) elt (tE X.K cA EF f)) (hs : ∀ x, foldedSetIterable iter X.env x = pure x) :
    PS X (.Assign [.Name x py] (.ListComp elt [⟨tg, iter, ifs, 0⟩] scope pos) spos) (tS X.K cA E (sAsg (eLc fi (own.map (·.2)) gg t f) (gN i))) :=
  ps_w (ps_setLc hc hN hy hyl hsw hi ok hg ht he hs) fun D σ H ⟨φ, env, ms, kx, d, er, hr, o, dt, xt⟩ => t_lc hL ⟨φ, env, ms, kx, _, er, hr, o, fun φ1 ms1 H1 x v g1 hr1 vx o1 => dt.nx φ1 ms1 H1 _ _ g1 hr1 ((er.gr g1).set i vx) o1, xt⟩
/-- a, b = x, y -/
def sPar (is : List Nat) (fa : EA ρ) : ES ρ := fun kx env ms d => fa kx env ms fun xs ms1 => match is, xs with
  | [i, j], [x, y] => d.nx ((env.set i (some x)).set j (some y)) ms1
  | [i, j, l], [x, y, z] => d.nx (((env.set i (some x)).set j (some y)).set l (some z)) ms1
  | _, _ => Ans.bot
theorem mS_par {i j : Nat} {y : Str} {px py pt : Pos} {kt k2 : Nat} {pt2 : Pos} (hc : X.calm = true) (hN : X.N.Nodup) (hi : X.N[i]? = some x) (hj : X.N[j]? = some y) (hij : i ≠ j)
    (hx : X.env.scope.names.lookup x = some .local) (hy : X.env.scope.names.lookup y = some .local) (ha : PA X [a, b] (tA X.K cA E fa))
    (hw : swappedStores [.Tuple [.Name x px, .Name y py] kt pt] (.Tuple [a, b] k2 pt2) X.env = pure (some [x, y])) :
    PS X (.Assign [.Tuple [.Name x px, .Name y py] kt pt] (.Tuple [a, b] k2 pt2) pos) (tS X.K cA E (sPar [i, j] fa)) :=
  ps_w (ps_par hc hN hi hj hij hx hy ha hw rfl) fun D σ H ⟨φ, env, ms, kx, d, er, hr, o, dt, xt⟩ => ⟨φ, env, ms, kx, _, er, hr, o, fun φ1 ms1 H1 xs vs g1 hr1 vx o1 => by
    cases vx with
    | nil => exact absurd o1 Ans.bot_ok
    | cons h1 vx =>
      cases vx with
      | nil => exact absurd o1 Ans.bot_ok
      | cons h2 vx =>
        cases vx with
        | nil => exact ⟨_, _, rfl, dt.nx φ1 ms1 H1 _ _ g1 hr1 (((er.gr g1).set i h1).set j h2) o1⟩
        | cons _ _ => exact absurd o1 Ans.bot_ok, xt⟩
theorem mS_par3 {i j l : Nat} {y z : Str} {px py pz pt : Pos} {kt k2 : Nat} {pt2 : Pos} (hc : X.calm = true) (hN : X.N.Nodup) (hi : X.N[i]? = some x) (hj : X.N[j]? = some y) (hl : X.N[l]? = some z) (hij : i ≠ j) (hil : i ≠ l) (hjl : j ≠ l)
    (hx : X.env.scope.names.lookup x = some .local) (hy : X.env.scope.names.lookup y = some .local) (hz : X.env.scope.names.lookup z = some .local) (ha : PA X [a, b, c] (tA X.K cA E fa))
    (hw : swappedStores [.Tuple [.Name x px, .Name y py, .Name z pz] kt pt] (.Tuple [a, b, c] k2 pt2) X.env = pure (some [x, y, z])) :
    PS X (.Assign [.Tuple [.Name x px, .Name y py, .Name z pz] kt pt] (.Tuple [a, b, c] k2 pt2) pos) (tS X.K cA E (sPar [i, j, l] fa)) :=
  ps_w (ps_par3 hc hN hi hj hl hij hil hjl hx hy hz ha hw rfl) fun D σ H ⟨φ, env, ms, kx, d, er, hr, o, dt, xt⟩ => ⟨φ, env, ms, kx, _, er, hr, o, fun φ1 ms1 H1 xs vs g1 hr1 vx o1 => by
    cases vx with
    | nil => exact absurd o1 Ans.bot_ok
    | cons h1 vx =>
      cases vx with
      | nil => exact absurd o1 Ans.bot_ok
      | cons h2 vx =>
        cases vx with
        | nil => exact absurd o1 Ans.bot_ok
        | cons h3 vx =>
          cases vx with
          | nil => exact ⟨_, _, _, rfl, dt.nx φ1 ms1 H1 _ _ g1 hr1 ((((er.gr g1).set i h1).set j h2).set l h3) o1⟩
          | cons _ _ => exact absurd o1 Ans.bot_ok, xt⟩
/-- self.f = value: the value first -/
def putM (f : Str) (v : MV) : List (Str × MV) → List (Str × MV)
  | [] => [(f, v)]
  | (g, w) :: r => if g = f then (g, v) :: r else (g, w) :: putM f v r
def sFldM (tb : Tb) (n : Str) (f g : EV ρ) : ES ρ := fun kx env ms d => g kx env ms fun y ms1 => f kx env ms1 fun x ms2 => match x with
  | .loc a => match ms2.hp[a]? with
    | some (.ins c fs) => gd (isP tb c && naM tb c n && decide (fs.length < 100)) (d.nx env ⟨ms2.hp.set a (.ins c (putM n y fs)), ms2.n⟩)
    | _ => Ans.bot
  | _ => Ans.bot
theorem FR.len {K : PySem.W.Frag} {φ : Ph} {H : Hp} {xs : List (Str × MV)} {vs : List (Str × V)} : FR K cA φ H xs vs → xs.length = vs.length
  | .nil => rfl
  | .cons _ r => by simp [FR.len r]
theorem FR.put {K : PySem.W.Frag} {φ : Ph} {H : Hp} {n : Str} {y : MV} {w : V} (h : VR K cA φ H y w) : ∀ {xs : List (Str × MV)} {vs : List (Str × V)}, FR K cA φ H xs vs → FR K cA φ H (putM n y xs) (putF n w vs)
  | _, _, .nil => .cons h .nil
  | _, _, .cons (f := g) a r => by
    unfold putM putF
    by_cases e : g = n
    · first
        | (rw [if_pos e, if_pos e]; exact .cons h r)
        | (subst e; simp; exact .cons h r)
    · first
        | (rw [if_neg e, if_neg e]; exact .cons a (FR.put h r))
        | (simp [e]; exact .cons a (FR.put h r))
theorem mS_fld {tb : Tb} {n : Str} {pos' : Pos} (F : ClsF X.K cA tb) (ha : PE X o (tE X.K cA E f)) (hv : PE X e (tE X.K cA E g)) (hs : swapsWith e (some (.Attribute o n pos')) pos.line X.env = pure false) : PS X (.Assign [.Attribute o n pos'] e pos) (tS X.K cA E (sFldM tb n f g)) :=
  ps_w (ps_fld ha hv hs) fun D σ H ⟨φ, env, ms, kx, d, er, hr, ok, dt, xt⟩ => ⟨φ, env, ms, kx, _, er, hr, ok, fun φ1 ms1 H1 y w g1 hr1 vy o1 => ⟨φ1, env, ms1, kx, _, er.gr g1, hr1, o1, fun φ2 ms2 H2 x v g2 hr2 vx o2 => by
    cases vx with
    | @loc m a ea =>
      obtain ⟨oa, h1, h2⟩ := hr2.at' ea
      dsimp only at o2
      rw [h1] at o2
      cases oa with
      | ins c fs =>
        obtain ⟨dx, gs, q1, q2⟩ := h2
        obtain ⟨z, o2⟩ := ok_gd o2
        simp only [Bool.and_eq_true, decide_eq_true_eq] at z
        have wr : Wr H2 a := .inr ⟨_, _, _, q1⟩
        have gw : Gr X.K φ2 H2 φ2 (L2.upd H2 a (.ins (cA c) dx (putF n w gs))) := Gr.wr wr
        refine ⟨a, cA c, dx, gs, rfl, q1, (F.insP z.1.1).cls, na_of F z.1.2, by rw [← q2.len]; omega, ?_⟩
        exact dt.nx φ2 _ _ env σ (g1.trans (g2.trans gw)) (hr2.wr (mo := .ins c (putM n y fs)) ea wr ⟨dx, _, upd_same, (FR.put (vy.gr g2) q2).gr gw⟩) (er.gr (g1.trans (g2.trans gw))) o2
      | _ => exact absurd o2 Ans.bot_ok
    | _ => exact absurd o2 Ans.bot_ok, xt.gr g1⟩, xt⟩
/-! ### for -/
def frL (it : MIt) (kx : KX ρ) (g : EG ρ) (s : ES ρ) (d : MD ρ) : Nat → Nat → ME → MS → ρ
  | 0, _, _, _ => Ans.bot
  | n + 1, i, env, ms => opt (nxt it i ms) fun r => match r with
    | none => d.nx env ms
    | some x => g x env ms fun env1 ms1 => s kx env1 ms1 ⟨fun e m => frL it kx g s d n (i + 1) e m, d.rt, d.nx, fun e m => frL it kx g s d n (i + 1) e m⟩
def sFor (fi : EI ρ) (g : EG ρ) (s : ES ρ) : ES ρ := fun kx env ms d => fi kx env ms fun it ms1 => frL it kx g s d 100000 0 env ms1
theorem mS_for {L : List Nat} {fi : EI ρ} {g : EG ρ} {s : ES ρ} (hp : PassesOwn (model X.prog X.w) X.A X.env X.xe) (hc : X.calm = true) (hi : PI X tg iter (tI X.K cA E fi)) (hg : PG X tg (tG X.K cA L g)) (hb : PSs X body (tS X.K cA E s))
    (hs : ∀ x, foldedSetIterable iter X.env x = pure x) : PS X (.For tg iter body [] pos) (tS X.K cA E (sFor fi g s)) :=
  ps_w (ps_for hp hc hi hg hb hs) fun D σ H ⟨φ, env, ms, kx, d, er, hr, o, dt, xt⟩ => ⟨φ, env, ms, kx, _, er, hr, o, fun φ1 ms1 H1 it J g1 hr1 ir o1 => by
    let Wf : Nat → Nat → L2.St → Hp → Prop := fun i m σ' H' => ∃ φ' e' ms', Gr X.K φ1 H1 φ' H' ∧ HR X.K cA φ' ms' H' ∧ EnR X.K cA φ' H' e' σ' ∧ Ans.ok (frL it kx g s d m i e' ms')
    refine ⟨Wf, ⟨100000, φ1, env, ms1, Gr.refl, hr1, er.gr g1, o1⟩, fun i m σ' H' ⟨φ2, e2, ms2, g2, hr2, er2, o2⟩ => ?_⟩
    have gb := g1.trans g2
    cases m with
    | zero => exact absurd o2 Ans.bot_ok
    | succ m =>
      obtain ⟨r, e, o2⟩ := ok_opt o2
      cases r with
      | none => exact .inl ⟨(ir φ2 H' ms2 i g2 hr2).1 e, dt.nx φ2 ms2 H' e2 σ' gb hr2 er2 o2⟩
      | some x =>
        obtain ⟨q1, q2⟩ := (ir φ2 H' ms2 i g2 hr2).2 x e
        refine .inr ⟨q1, fun σ'' H'' => Wf (i + 1) m σ'' H'', fun σ'' H'' w => ⟨m, Nat.lt_succ_self m, w⟩, fun v H3 y => ?_⟩
        obtain ⟨g3, hr3, vx⟩ := q2 v H3 y
        refine ⟨φ2, e2, ms2, x, _, er2.gr g3, hr3, vx, o2, fun φ4 ms4 H4 e4 σ4 g4 hr4 er4 c4 o4 => ⟨φ4, e4, ms4, kx, _, er4, hr4, o4, ?_, xt.gr (gb.trans (g3.trans g4))⟩⟩
        have g5 := gb.trans (g3.trans g4)
        have g6 := g2.trans (g3.trans g4)
        exact ⟨fun φ6 ms6 H6 e6 σ6 g7 hr6 er6 o6 => ⟨φ6, e6, ms6, g6.trans g7, hr6, er6, o6⟩, dt.rt.gr g5, dt.nx.gr g5, fun φ6 ms6 H6 e6 σ6 g7 hr6 er6 o6 => ⟨φ6, e6, ms6, g6.trans g7, hr6, er6, o6⟩⟩, xt⟩
end
end Mi

/-! part MI6 -/
set_option Elab.async false
set_option linter.all false
set_option maxRecDepth 100000
set_option maxHeartbeats 4000000
namespace Mi
open PySem PySem.Spec PyProof.Rows L2 SC
open PySem.SupX (MkE ExMade Sup1 Sup2 SupC mk1 mk1k mk2 mk2k)

/-! ### callees -/
section
variable {ρ : Type} [Ans ρ] {X : Cx} {cA : Nat → Addr} {E : XK} {CX : CXT} {ks : List Str} {cn f k : Str} {fI cc cda : Addr}
theorem cal_fn {a : Addr} {r : RC ρ} (F : FnV X.A X.prog X.w X.K X.mg X.base CX a ks (SpM X.K cA ks r)) (hx : Passes CX X E) : CalM X cA E (.ref a) ks r :=
  fun pins s σ H us ws vs zs Q I r rz hl h => run_fnV F hx I r rz hl h
theorem new_ex {K : PySem.W.Frag} {φ : Ph} {H : Hp} {ms : MS} {c : Nat} {fs : List (Str × MV)} {gs : List (Str × V)} {e d : Addr} (hr : HR K cA φ ms H) (he : H e = none) (hd : H d = none) (hne : d ≠ e) (r : FR K cA φ H fs gs) :
    Gr K φ H (φ.push e) (exH H (cA c) e d gs) ∧ HR K cA (φ.push e) (ms.push (.ex c fs)) (exH H (cA c) e d gs) ∧ VR K cA (φ.push e) (exH H (cA c) e d gs) (.loc ms.hp.length) (.ref e) := by
  have s := exH_same (C := cA c) (fs := gs) he hd
  have g : Gr K φ H (φ.push e) (exH H (cA c) e d gs) := Gr.new s
  exact ⟨g, hr.new s he ⟨gs, IsEx.mk hne, r.gr g⟩, VR.last hr⟩
def mkX1 (c : Nat) (f : Str) : RC ρ := fun xs ks zs ms _ k => match xs, ks, zs with
  | [v], [], [] => k (.loc ms.hp.length) (ms.push (.ex c [(f, v)]))
  | [], [g], [v] => gd (decide (g = f)) (k (.loc ms.hp.length) (ms.push (.ex c [(f, v)])))
  | _, _, _ => Ans.bot
def mkX2 (c : Nat) (f k' : Str) : RC ρ := fun xs ks zs ms _ k => match xs, ks, zs with
  | [v, u], [], [] => k (.loc ms.hp.length) (ms.push (.ex c [(k', u), (f, v)]))
  | [], [g, h], [u, v] => gd (decide (g = k') && decide (h = f)) (k (.loc ms.hp.length) (ms.push (.ex c [(k', u), (f, v)])))
  | _, _, _ => Ans.bot
theorem cal_x1 {c : Nat} (T : Sup1 X.prog X.K (cA c) fI cc cda cn f) (hr : X.A.depth + 1 < recursionLimit) : CalM X cA E (.ref (cA c)) ks (mkX1 (ρ := ρ) c f) := by
  intro pins s σ H us ws vs zs Q I r rz hl ⟨φ, ms, kx, k, mvs, mks, hr', vx, vz, o, kt, xt⟩
  unfold mkX1 at o
  split at o
  · cases vx with
    | cons h1 vx =>
      cases vx
      cases vz
      cases rz
      cases r with
      | cons r1 r =>
        cases r
        refine run_mkE (mk1 T _) hr (relO1 r1 f) I fun e d he hd hne => ?_
        obtain ⟨n1, n2, n3⟩ := new_ex (c := c) hr' he hd hne (.cons h1 .nil)
        exact kt _ _ _ _ _ n1 n2 n3 o
  · cases vx
    cases vz with
    | cons h1 vz =>
      cases vz
      cases r
      cases rz with
      | cons r1 rz =>
        cases rz
        obtain ⟨e, o⟩ := ok_gd o
        have e := of_decide_eq_true e
        subst e
        refine run_mkE (us := []) (mk1k T _) hr (relO1 r1 _) I fun e d he hd hne => ?_
        obtain ⟨n1, n2, n3⟩ := new_ex (c := c) hr' he hd hne (.cons h1 .nil)
        exact kt _ _ _ _ _ n1 n2 n3 o
  · exact absurd o Ans.bot_ok
theorem cal_x2 {c : Nat} (T : Sup2 X.prog X.K (cA c) fI cc cda cn f k) (hr : X.A.depth + 1 < recursionLimit) : CalM X cA E (.ref (cA c)) ks (mkX2 (ρ := ρ) c f k) := by
  intro pins s σ H us ws vs zs Q I r rz hl ⟨φ, ms, kx, kk, mvs, mks, hr', vx, vz, o, kt, xt⟩
  unfold mkX2 at o
  split at o
  · cases vx with
    | cons h1 vx =>
      cases vx with
      | cons h2 vx =>
        cases vx
        cases vz
        cases rz
        cases r with
        | cons r1 r =>
          cases r with
          | cons r2 r =>
            cases r
            refine run_mkE (mk2 T _ _) hr (relO2 r1 r2 f k) I fun e d he hd hne => ?_
            obtain ⟨n1, n2, n3⟩ := new_ex (c := c) hr' he hd hne (.cons h2 (.cons h1 .nil))
            exact kt _ _ _ _ _ n1 n2 n3 o
  · cases vx
    cases vz with
    | cons h1 vz =>
      cases vz with
      | cons h2 vz =>
        cases vz
        cases r
        cases rz with
        | cons r1 rz =>
          cases rz with
          | cons r2 rz =>
            cases rz
            obtain ⟨e, o⟩ := ok_gd o
            obtain ⟨e1, e2⟩ := Bool.and_eq_true_iff.mp e
            have e1 := of_decide_eq_true e1
            have e2 := of_decide_eq_true e2
            subst e1 e2
            refine run_mkE (us := []) (mk2k T _ _) hr (relO2 r2 r1 _ _) I fun e d he hd hne => ?_
            obtain ⟨n1, n2, n3⟩ := new_ex (c := c) hr' he hd hne (.cons h1 (.cons h2 .nil))
            exact kt _ _ _ _ _ n1 n2 n3 o
  · exact absurd o Ans.bot_ok
/-- an instance: the new object, then its __init__ -/
def mkP (c : Nat) (r : RC ρ) : RC ρ := fun xs ks zs ms kx k => r (.loc ms.hp.length :: xs) ks zs (ms.push (.ins c [])) kx fun v ms1 => match v with
  | .non => k (.loc ms.hp.length) ms1
  | _ => Ans.bot
theorem cal_p {c : Nat} {a : Addr} {r : RC ρ} {L : Nat} (M : Mk X.K (cA c) a) (F : ∀ A, A.guards = some [] → Room L A → FnV A X.prog X.w X.K X.mg X.base CX a ks (SpM X.K cA ks r)) (hg : X.A.guards = some []) (hrm : Room (L + 1) X.A) (hx : Passes CX X E) :
    CalM X cA E (.ref (cA c)) ks (mkP c r) := by
  intro pins s σ H us ws vs zs Q I rr rz hl ⟨φ, ms, kx, k, mvs, mks, hr, vx, vz, o, kt, xt⟩
  have hx1 : H (s.heap.objs.size + 1) = none := I.hok.fresh (Nat.le_succ _)
  have hd1 : H s.heap.objs.size = none := I.hok.fresh (Nat.le_refl _)
  have hne : s.heap.objs.size ≠ s.heap.objs.size + 1 := Nat.ne_of_lt (Nat.lt_succ_self _)
  have I2 := Inv.made (C := cA c) I
  have r1 : Vals (V.ref (s.heap.objs.size + 1) :: vs) (Value.ref (s.heap.objs.size + 1) :: us) := .cons rfl rr
  have sm : Same H (L2.upd (L2.upd H s.heap.objs.size (.own (s.heap.objs.size + 1))) (s.heap.objs.size + 1) (.ins (cA c) s.heap.objs.size [])) := fun b u e => by
    rw [upd_ne (ne_of_none e hx1), upd_ne (ne_of_none e hd1)]
    exact e
  have g : Gr X.K φ H (φ.push (s.heap.objs.size + 1)) _ := Gr.new sm
  have hr2 : HR X.K cA (φ.push (s.heap.objs.size + 1)) (ms.push (.ins c [])) _ := hr.new sm hx1 ⟨_, _, upd_same, .nil⟩
  refine wpAny_call (make_map (f := a) I.kIn M.makes M.init (beq_iff_eq.mp M.fn) (codeAny_mono (F _ (guards_make hg) (hrm.make (cA c) us (ks.zip ws)) X.stack _ _ (Value.ref (s.heap.objs.size + 1) :: us) ws (V.ref (s.heap.objs.size + 1) :: vs) zs
    (fun v H' => v = .non ∧ Q (.ref (s.heap.objs.size + 1)) H') E (I2.env0.make (cA c) us (ks.zip ws)) r1 rz hl ?_) fun r s' hq' => ?_))
  · refine ⟨_, _, kx, _, _, _, hr2, .cons (VR.last hr) (vx.gr g), vz.gr g, o, fun φ1 ms1 H1 x v g1 hr1 vx o1 => ?_, xt.gr g⟩
    cases vx with
    | non => exact ⟨rfl, kt _ _ _ _ _ (g.trans g1) hr1 ((VR.last hr).gr g1) o1⟩
    | _ => exact absurd o1 Ans.bot_ok
  · cases r with
    | error e => exact hx pins σ _ _ e s' I2 hq'
    | ok fl =>
      cases fl with
      | ret u =>
        obtain ⟨v, H', I3, rv, ev, q3⟩ := I2.after hq'
        subst ev
        exact ⟨rv, ⟨V.ref (s.heap.objs.size + 1), H', I3, rfl, q3⟩⟩
      | next => exact False.elim hq'
      | brk => exact False.elim hq'
      | cont => exact False.elim hq'
/-! ### draws -/
def PenC (H : Hp) (p c : Addr) (n : Nat) : Prop := ∃ (at' rest : Int) (ns : List Int), H p = some (.lst [.ref c, .int at', .int rest]) ∧ H c = some (.lst (ns.map V.int)) ∧ c ≠ p ∧ ns.length ≤ 63 ∧ 0 ≤ at' ∧ at' ≤ n ∧ 0 ≤ rest
def spDr : SpV := fun vs zs H Q _ => ∃ (p c : Addr) (many : Int) (n : Nat), vs = [.ref p, .int many] ∧ zs = [] ∧ PenC H p c n ∧ n ≤ 100000 ∧ 0 < many ∧ many.natAbs < 2 ^ 1000 ∧
  ∀ (i : Int) (H' : Hp), 0 ≤ i → i < many → But p H H' → PenC H' p c (n + 1) → Q (.int i) H'
def drM : RC ρ := fun xs ks zs ms _ k => match xs, ks, zs with
  | [.pen, .int m], [], [] => match ms.n with
    | 0 => Ans.bot
    | n + 1 => gd (decide (0 < m) && decide (m.natAbs < 2 ^ 1000)) (Ans.dr m.toNat fun i => k (.int (i : Nat)) ⟨ms.hp, n⟩)
  | _, _, _ => Ans.bot
theorem cal_dr {a : Addr} (F : FnV X.A X.prog X.w X.K X.mg X.base CX a [] spDr) (hx : Passes CX X E) : CalM X cA E (.ref a) [] (drM (ρ := ρ)) := by
  intro pins s σ H us ws vs zs Q I rr rz hl ⟨φ, ms, kx, k, mvs, mks, hr, vx, vz, o, kt, xt⟩
  refine run_fnV F hx I rr rz hl ?_
  unfold drM at o
  split at o
  · cases vz
    cases vx with
    | cons h1 vx =>
      cases vx with
      | cons h2 vx =>
        cases vx
        cases h1
        cases h2
        split at o
        · exact absurd o Ans.bot_ok
        · rename_i n en
          obtain ⟨z, o⟩ := ok_gd o
          obtain ⟨z1, z2⟩ := Bool.and_eq_true_iff.mp z
          obtain ⟨c, at', rest, ns, n0, h1, h2, h3, h4, h5, h6, h7, h8, h9, h10⟩ := hr.pen
          refine ⟨φ.pen, c, _, n0, rfl, rfl, ⟨at', rest, ns, h1, h2, h3, h4, h5, h6, h7⟩, (by have := h8.1; have := h8.2; omega), of_decide_eq_true z1, of_decide_eq_true z2, fun i H' i0 i1 b pn => ?_⟩
          have hi := Ans.dr_ok o i.toNat (by omega)
          have ei : ((i.toNat : Nat) : Int) = i := by omega
          rw [ei] at hi
          obtain ⟨at2, rest2, ns2, k1, k2, k3, k4, k5, k6, k7⟩ := pn
          have hp : PenR φ H' n := ⟨c, at2, rest2, ns2, n0 + 1, k1, k2, k3, k4, k5, k6, k7, ⟨by have := h8.1; omega, h8.2⟩, h9, h10⟩
          obtain ⟨d1, d2⟩ := hr.draw b hp
          exact kt φ _ H' _ _ d2 d1 (.int i) hi
  · exact absurd o Ans.bot_ok
end
end Mi

/-! part MIE -/
set_option Elab.async false
set_option linter.all false
set_option maxRecDepth 100000
set_option maxHeartbeats 4000000
namespace OwnX
open PySem PySem.Spec PyProof.Rows PySem.SeqAt
open PySem.W
section
variable {prog : Program} {w : World} {A : Around} {E : Value → Shared → Prop} {s : Shared} {K : Frag} {x C f : Addr} {ox : Obj} {od : Option Obj} {b : Value}
theorem ifBound_objNe {M : Model} {args : List Value} {Q : Option Value → Shared → Prop} (X : K.In s.heap) (I : InstAt s.heap x ox C od) (hs : findIn K (.ref C) "__ne__" = some (some (.builtin "object.__ne__")))
    (h : wpAny M A (call (.builtin "object.__ne__") (.ref x :: args)) (fun v => Q (some v)) E s) : wpAny M A (callSpecialIfBound? (.ref x) "__ne__" args) Q E s := by
  simp only [callSpecialIfBound?, bindSpecialIfBound?]
  refine wpAny_holding (wpAny_bind (wpAny_bind (wpAny_bind (I.type.here ((looks_findIn X hs).here ?_)))))
  refine wpAny_bind (wpAny_askSetting (wpAny_ite ?_))
  have fin : wpAny M A (call (.builtin "object.__ne__") ([.ref x] ++ args) >>= fun v => pure (some v)) Q E s := wpAny_bind (wpAny_mono h (fun v s' h' => wpAny_pure h') fun _ _ h' => h')
  split
  · exact wpAny_bind (wpAny_of_eq (F.cmp_object.ne.bind _) (wpAny_pure (by exact fin)))
  · exact wpAny_tryCatch (wpAny_bind (wpAny_of_eq (F.cmp_object.ne.bind _) (wpAny_pure (by exact fin))))
theorem entry_ne (X : K.In s.heap) (I : InstAt s.heap x ox C od) (hs : findIn K (.ref C) "__eq__" = some (some (.ref f))) (hf : isFn K (.ref f) = true) (hu : A.units < cLine) {Q : Fin → Shared → Prop}
    (h : wpAny (model prog w) A (call (.ref f) [.ref x, b]) (fun v s' => ∃ k, v = .bool k ∧ Q (.done (.ret (.bool (!k)))) s') E s) : wpAny (model prog w) A (Builtin.«object.__ne__» ⟨[.ref x, b], []⟩) Q E s := by
  unfold Builtin.«object.__ne__»
  repeat (first
    | with_reducible refine wpAny_cRoomFor hu ?_
    | (refine wpAny_bind (m := callSpecialIfBound? (.ref x) (Str.ofString "__eq__") [b])
        (ifBound_K X I hs hf (wpAny_mono h (fun r s' hr => by
          obtain ⟨k, rfl, hq⟩ := hr
          repeat (first | exact hq | exact wpAny_pure hq | exact wpAny_truthy_bool hq | (refine wpAny_bind (m := truthy (.bool _)) (wpAny_truthy_bool ?_)) | wp_step)) fun _ _ e => e)))
    | wp_step)
theorem ne_try (X : K.In s.heap) (I : InstAt s.heap x ox C od) (hm : mroIn K C (.type "object") = some true) (hn : findIn K (.ref C) "__ne__" = some (some (.builtin "object.__ne__"))) (hs : findIn K (.ref C) "__eq__" = some (some (.ref f))) (hf : isFn K (.ref f) = true) (hu : A.in1.units < cLine)
    {Q : Value → Shared → Prop} (h : wpAny (model prog w) A.in1 (call (.ref f) [.ref x, b]) (fun v s' => ∃ k, v = .bool k ∧ Q (.bool (!k)) s') E s) : wpAny (model prog w) A (tryCompare (.ref x) "__ne__" b) (fun r s' => ∃ v, r = some v ∧ Q v s') E s := by
  unfold tryCompare
  refine wpAny_bind (ifBound_objNe X I hn (wpAny_call (codeAny_call_builtin F.cmp_object.ne.plain F.cmpEntry_ne (check_slot F.cmpKind_ne F.cmpSplit_ne (I.type.andThen (looks_mroIn X hm)) (F.cmpArgs_ne _ _) (entry_ne (A := A.in1) X I hs hf hu (wpAny_mono h (fun v s' hv => ?_) fun _ _ e => e))))))
  obtain ⟨k, rfl, q⟩ := hv
  exact ⟨k, rfl, wpAny_pure ⟨_, rfl, q⟩⟩
theorem eq_try (X : K.In s.heap) (I : InstAt s.heap x ox C od) (hs : findIn K (.ref C) "__eq__" = some (some (.ref f))) (hf : isFn K (.ref f) = true)
    {Q : Value → Shared → Prop} (h : wpAny (model prog w) A (call (.ref f) [.ref x, b]) (fun v s' => ∃ k, v = .bool k ∧ Q (.bool k) s') E s) : wpAny (model prog w) A (tryCompare (.ref x) "__eq__" b) (fun r s' => ∃ v, r = some v ∧ Q v s') E s := by
  unfold tryCompare
  refine wpAny_bind (ifBound_K X I hs hf (wpAny_mono h (fun v s' hv => ?_) fun _ _ e => e))
  obtain ⟨k, rfl, q⟩ := hv
  exact wpAny_pure ⟨_, rfl, q⟩
/-- the left one is asked first -/
theorem rc_left {op : CmpOp} {tb : Value} {Q : Value → Shared → Prop} (hu : A.units < cLine) (X : K.In s.heap) (I : InstAt s.heap x ox C od) (hb : Looks (model prog w) s.heap (typeOf b) tb) (hn : notFirst K C tb = true)
    (one : wpAny (model prog w) A (tryCompare (.ref x) (cmpInfo op).2.1 b) (fun r s' => ∃ v, r = some v ∧ Q v s') E s) : wpAny (model prog w) A (richCompare op (.ref x) b) Q E s := by
  unfold richCompare
  simp only [oneThing_ref]
  refine wpAny_holding (wpAny_bind (wpAny_cRoomFor hu ?_))
  refine wpAny_bind (I.type.here (wpAny_bind (hb.here ?_)))
  split
  · rename_i q
    have e : subIn K tb (.ref C) = some false := by
      rcases Bool.or_eq_true_iff.mp hn with e | e
      · rw [beq_iff_eq.mp e] at q; simp at q
      · exact beq_iff_eq.mp e
    refine wpAny_bind ((looks_subIn X e).here ?_)
    simp only [Bool.false_eq_true, if_false]
    refine wpAny_bind (wpAny_mono one (fun r s' z => ?_) fun _ _ e => e)
    obtain ⟨v, rfl, hq⟩ := z
    exact wpAny_pure hq
  · refine wpAny_bind (wpAny_pure ?_)
    simp only [Bool.false_eq_true, if_false]
    refine wpAny_bind (wpAny_mono one (fun r s' z => ?_) fun _ _ e => e)
    obtain ⟨v, rfl, hq⟩ := z
    exact wpAny_pure hq
/-- the right one, of a class below the left one's, is asked first -/
theorem rc_right {op : CmpOp} {y D : Addr} {oy : Obj} {oe : Option Obj} {Q : Value → Shared → Prop} (hu : A.units < cLine) (X : K.In s.heap) (I : InstAt s.heap x ox C od) (J : InstAt s.heap y oy D oe) (hne : (D == C) = false) (hsub : subIn K (.ref D) (.ref C) = some true)
    (one : wpAny (model prog w) A (tryCompare (.ref y) (cmpInfo op).2.2 (.ref x)) (fun r s' => ∃ v, r = some v ∧ Q v s') E s) : wpAny (model prog w) A (richCompare op (.ref x) (.ref y)) Q E s := by
  unfold richCompare
  simp only [oneThing_ref]
  refine wpAny_holding (wpAny_bind (wpAny_cRoomFor hu ?_))
  refine wpAny_bind (I.type.here (wpAny_bind (J.type.here ?_)))
  have hq : (Value.ref C != Value.ref D) = true := by
    have : ¬ (C = D) := fun e => by
      subst e
      simp at hne
    simp [this]
  rw [hq]
  simp only [if_true]
  refine wpAny_bind ((looks_subIn X hsub).here ?_)
  simp only [if_true]
  refine wpAny_bind (wpAny_mono one (fun r s' z => ?_) fun _ _ e => e)
  obtain ⟨v, rfl, hq⟩ := z
  exact wpAny_bind (wpAny_rule (wpAny_pure hq))
/-- bool(x) by the text's own __bool__ -/
theorem meets_bool (v : Value) : MeetsIn prog w (Builtin.«bool.__new__» ⟨[.type "bool", v], []⟩) (fun A R s => wpAny (model prog w) A.in1 (truthy v) (fun k s' => R (.ok (.ret (.bool k))) s') (fun e s' => R (.error e) s') s) :=
  .of_wp fun A R s h => by
    obtain ⟨hp, g, d, tk, os⟩ := s
    have f1 := F.conv_sub_bool
    repeat (any_goals (first | assumption | (refine wpAny_bind (m := truthy v) (wpAny_mono h (fun k s' hk => ?_) fun _ _ e => e)) | wp_step))
    all_goals first | exact ⟨_, rfl, hk⟩ | skip
theorem call_bool {v : Value} {Q : Value → Shared → Prop} (h : wpAny (model prog w) A.in1.in1 (truthy v) (fun k s' => Q (.bool k) s') E s) : wpAny (model prog w) A (call (.type "bool") [v]) Q E s :=
  callType_newIn F.called_bool F.newNe_bool (F.typeCall_bool_1 v) (F.newCall_bool_1 v) (fun obj => F.args_object_init_2 obj v) F.entry_bool_new (meets_bool v) (wpAny_mono h (fun k s' q => ⟨rfl, q⟩) fun _ _ e => e)
end
end OwnX
namespace Mi
open PySem PySem.Spec PyProof.Rows L2 SC
/-! ### comparisons and truth by the text's own methods -/
/-- what the written part says of a class with an own == -/
structure EqF (K : PySem.W.Frag) (C f : Addr) : Prop where
  eq : PySem.W.findIn K (.ref C) "__eq__" = some (some (.ref f))
  fn : PySem.W.isFn K (.ref f) = true
  ne : PySem.W.findIn K (.ref C) "__ne__" = some (some (.builtin "object.__ne__"))
  ob : PySem.W.mroIn K C (.type "object") = some true
structure BoF (K : PySem.W.Frag) (C f : Addr) : Prop where
  bo : PySem.W.findIn K (.ref C) "__bool__" = some (some (.ref f))
  fn : PySem.W.isFn K (.ref f) = true
section
variable {ρ : Type} [Ans ρ] {X : Cx} {cA : Nat → Addr} {E : XK} {a b c e : Expr} {f g : EV ρ} {pos : Pos} {CX : CXT}
abbrev RX (ρ : Type) := MV → MV → MS → KX ρ → K1 ρ → ρ
def eOpX (r : RX ρ) (f g : EV ρ) : EV ρ := fun kx env ms k => f kx env ms fun x ms1 => g kx env ms1 fun y ms2 => r x y ms2 kx k
def R2X (K : PySem.W.Frag) (cA : Nat → Addr) (E : XK) (r : RX ρ) : R2 := fun x y H Q => ∃ φ ms kx mx my k, HR K cA φ ms H ∧ VR K cA φ H mx x ∧ VR K cA φ H my y ∧ Ans.ok (r mx my ms kx k) ∧ KT K cA φ H k Q ∧ XT K cA φ H kx E
theorem t_opX {K : PySem.W.Frag} {r : RX ρ} {σ : L2.St} {H : Hp} {Q : VK} : tE K cA E (eOpX r f g) σ H Q → tOp (R2X K cA E r) (tE K cA E f) (tE K cA E g) σ H Q :=
  fun ⟨φ, env, ms, kx, k, er, hr, o, kt, xt⟩ =>
    ⟨φ, env, ms, kx, _, er, hr, o, fun φ1 ms1 H1 x v g1 hr1 vx o1 => ⟨φ1, env, ms1, kx, _, er.gr g1, hr1, o1, fun φ2 ms2 H2 y w g2 hr2 vy o2 =>
      ⟨φ2, ms2, kx, x, y, k, hr2, vx.gr g2, vy, o2, kt.gr (g1.trans g2), xt.gr (g1.trans g2)⟩, xt.gr g1⟩, xt⟩
theorem mE_cmpX {op : CmpOp} {r : RX ρ} (ho : OpR X (compareOp op) (R2X X.K cA E r)) (ha : PE X a (tE X.K cA E f)) (hb : PE X b (tE X.K cA E g)) (hm : behindInMarks op b = false) : PE X (.Compare a [op] [b] pos) (tE X.K cA E (eOpX r f g)) :=
  pe_w (pe_cmpR ho ha hb hm) fun σ H Q h => t_opX h
theorem mT_cmpX {op : CmpOp} {r : RX ρ} (ho : OpR X (compareOp op) (R2X X.K cA E r)) (ha : PE X a (tE X.K cA E f)) (hb : PE X b (tE X.K cA E g)) (hm : behindInMarks op b = false) : PT X (.Compare a [op] [b] pos) (tT X.K cA E (bBl (eOpX r f g))) :=
  pt_w (pt_cmpR ho ha hb hm) fun σ H Q h => t_bBl (fun σ H Q h => t_opX h) h
/-- an operation that makes no call -/
def noX (r : MV → MV → MS → K1 ρ → ρ) : RX ρ := fun x y ms _ k => r x y ms k
theorem m_noX {op : Value → Value → Sem Value} {r : MV → MV → MS → K1 ρ → ρ} (h : OpR X op (R2M X.K cA r)) : OpR X op (R2X X.K cA E (noX r)) :=
  fun pins s σ H x y v u Q I rx ry ⟨φ, ms, kx, mx, my, k, hr, vx, vy, o, kt, xt⟩ => h pins s σ H x y v u Q I rx ry ⟨φ, ms, mx, my, k, hr, vx, vy, o, kt⟩
/-- the left instance asks its ==, or the right one of a class below -/
inductive EqWay where
  | left (i : Nat) | right (i : Nat) | data
def eqWay (tb : Tb) (x y : MV) (ms : MS) : Option EqWay := match x with
  | .loc n => match ms.hp[n]? with
    | some (.ins c _) => match lkN tb.eq c, tyM tb ms y with
      | some i, some t => if t = .cls c then some (.left i) else match lkI tb.sb t (.cls c) with
        | some false => some (.left i)
        | some true => match t with
          | .cls d => match lkN tb.eq d with
            | some j => some (.right j)
            | none => none
          | _ => none
        | none => none
      | _, _ => none
    | _ => some .data
  | _ => some .data
def eqX (tb : Tb) (call : CallM ρ) (neg : Bool) : RX ρ := fun x y ms kx k => opt (eqWay tb x y ms) fun w => match w with
  | .left i => call i [x, y] [] [] ms kx fun v m => match v with
    | .bl b => k (.bl (xor neg b)) m
    | _ => Ans.bot
  | .right i => call i [y, x] [] [] ms kx fun v m => match v with
    | .bl b => k (.bl (xor neg b)) m
    | _ => Ans.bot
  | .data => eqDM neg x y ms k
end
end Mi

/-! part MIG -/
set_option Elab.async false
set_option linter.all false
set_option maxRecDepth 100000
set_option maxHeartbeats 4000000
namespace Mi
open PySem PySem.Spec PyProof.Rows L2 SC
section
variable {ρ : Type} [Ans ρ] {X : Cx} {cA : Nat → Addr} {E : XK} {CX : CXT} {tb : Tb} {call : CallM ρ} {L : Nat}
/-- the classes' own == and truth, behind the top -/
structure EqT (P : Program) (w : World) (K : PySem.W.Frag) (mg : Str → Option Value) (base : Heap) (CX : CXT) (cA : Nat → Addr) (tb : Tb) (call : CallM ρ) (L : Nat) : Prop where
  eq : ∀ p ∈ tb.eq, ∃ a, EqF K (cA p.1) a ∧ ∀ A ks, A.guards = some [] → Room L A → FnV A P w K mg base CX a ks (SpM K cA ks (call p.2))
  bo : ∀ p ∈ tb.bo, ∃ a, BoF K (cA p.1) a ∧ ∀ A ks, A.guards = some [] → Room L A → FnV A P w K mg base CX a ks (SpM K cA ks (call p.2))
  sb : ∀ p ∈ tb.sb, (tv cA p.1.1 == tv cA p.1.2) = false ∧ PySem.W.subIn K (tv cA p.1.1) (tv cA p.1.2) = some p.2
theorem lkN_mem : ∀ {l : List (Nat × Nat)} {x v : Nat}, lkN l x = some v → (x, v) ∈ l
  | [], _, _, h => by cases h
  | (y, u) :: r, x, v, h => by
    unfold lkN at h
    split at h
    · rename_i e
      cases h
      subst e
      exact List.mem_cons_self ..
    · exact List.mem_cons_of_mem _ (lkN_mem h)
variable {pins : List (Addr × Obj)} {σ : L2.St} {H : Hp} {s : Shared} {φ : Ph} {ms : MS}
theorem inst_ins {a c : Addr} {dx : Addr} {gs : List (Str × V)} (I : Inv X pins σ H s) (q : H a = some (.ins c dx gs)) : ∃ ox od, PySem.W.InstAt s.heap a ox c od := by
  obtain ⟨mA, J, _⟩ := ins_get I.hok q
  obtain ⟨od, J, _⟩ := J.look
  exact ⟨_, _, J⟩
theorem inst_cls {y : MV} {v : V} {d : Nat} (I : Inv X pins σ H s) (hr : HR X.K cA φ ms H) (vy : VR X.K cA φ H y v) (h : tyM tb ms y = some (.cls d)) : ∃ a oy oe, v = .ref a ∧ PySem.W.InstAt s.heap a oy (cA d) oe := by
  cases vy with
  | @loc n a ea =>
    obtain ⟨o, h1, h2⟩ := hr.at' ea
    unfold tyM at h
    dsimp only at h
    rw [h1] at h
    cases o with
    | lst xs => cases h
    | ins c fs =>
      dsimp only at h
      split at h
      · cases h
        obtain ⟨dx, gs, q1, q2⟩ := h2
        obtain ⟨ox, od, J⟩ := inst_ins I q1
        exact ⟨a, ox, od, rfl, J⟩
      · cases h
    | ex c fs =>
      dsimp only at h
      split at h
      · cases h
        obtain ⟨gs, q1, q2⟩ := h2
        obtain ⟨oe, od, dd, mA, J, _⟩ := ex_inst I q1
        exact ⟨a, oe, _, rfl, J⟩
      · cases h
  | _ => cases h
theorem in1_guards {A : Around} (h : A.guards = some []) : A.in1.guards = some [] := h
theorem run_fnVA {A : Around} {f : Addr} {ks : List Str} {sp : SpV} {Q : VK} {us ws : List Value} {vs zs : List V} (hA : A.frames = some X.stack) (F : FnV A X.prog X.w X.K X.mg X.base CX f ks sp) (hx : Passes CX X E)
    (I : Inv X pins σ H s) (r : Vals vs us) (rz : Vals zs ws) (hl : ws.length = ks.length) (h : sp vs zs H Q E) : wpAny (model X.prog X.w) A (PySem.call (.ref f) us (ks.zip ws)) (EP X pins σ Q) X.xe s := by
  have e := I.env0
  have e0 : Env0 X.prog X.w X.K X.mg X.base A X.stack s H := ⟨hA, e.mod, e.bs, e.bsz, e.funs, e.frf, e.hok, e.bare⟩
  refine wpAny_call (codeAny_mono (F X.stack s H us ws vs zs Q E e0 r rz hl h) fun r s' hq => ?_)
  match r, hq with
  | .error e, hq => exact hx pins σ H s e s' I hq
  | .ok (.ret u), hq => exact I.after hq
/-- one own == runs -/
theorem own_eq {A : Around} {neg : Bool} {op : CmpOp} {x : MV} {y : MV} {va vb : V} {ua ub : Value} {f : Addr} {i : Nat} {kx : KX ρ} {k : K1 ρ} {Q : VK} {R : Bool → Value} (hA : A.frames = some X.stack) (F : FnV A X.prog X.w X.K X.mg X.base CX f [] (SpM X.K cA [] (call i))) (hx : Passes CX X E) (I : Inv X pins σ H s)
    (hr : HR X.K cA φ ms H) (vx : VR X.K cA φ H x va) (vy : VR X.K cA φ H y vb) (rx : RelV va ua) (ry : RelV vb ub)
    (o : Ans.ok (call i [x, y] [] [] ms kx fun v m => match v with | .bl b => k (.bl (xor neg b)) m | _ => Ans.bot)) (kt : KT X.K cA φ H k Q) (xt : XT X.K cA φ H kx E) :
    wpAny (model X.prog X.w) A (PySem.call (.ref f) [ua, ub]) (fun v s' => ∃ b, v = .bool b ∧ EP X pins σ Q (.bool (xor neg b)) s') X.xe s := by
  refine wpAny_mono (run_fnVA (ws := []) (zs := []) hA F hx I (.cons rx (.cons ry .nil)) .nil rfl (Q := fun v H' => ∃ b, v = .bl b ∧ Q (.bl (xor neg b)) H') ⟨φ, ms, kx, _, [x, y], [], hr, .cons vx (.cons vy .nil), .nil, o, fun φ1 ms1 H1 z v g1 hr1 vz o1 => ?_, xt⟩) (fun v s' hv => ?_) fun _ _ e => e
  · cases vz with
    | bl b => exact ⟨b, rfl, kt φ1 ms1 H1 _ _ g1 hr1 (.bl _) o1⟩
    | _ => exact absurd o1 Ans.bot_ok
  · obtain ⟨v', H', I', rv, b, eb, q⟩ := hv
    subst eb
    obtain rfl : v = .bool b := rv
    exact ⟨b, rfl, .bl (xor neg b), H', I', rfl, q⟩
theorem m_eqX (T : EqT X.prog X.w X.K X.mg X.base CX cA tb call L) (F : ClsF X.K cA tb) (hg : X.A.guards = some []) (hrm : Room (L + 3) X.A) (hx : Passes CX X E) : OpR X (compareOp .Eq) (R2X X.K cA E (eqX tb call false)) ∧ OpR X (compareOp .NotEq) (R2X X.K cA E (eqX tb call true)) := by
  have hu := hrm.units0
  have hu1 : X.A.in1.units < cLine := (Room.in1 (hrm.mono (by omega : L + 1 ≤ L + 3))).units0
  have rA : Room L X.A := hrm.mono (by omega)
  have rA1 : Room L X.A.in1 := Room.in1 (hrm.mono (by omega : L + 1 ≤ L + 3))
  have main : ∀ neg : Bool, OpR X (compareOp (if neg then .NotEq else .Eq)) (R2X X.K cA E (eqX tb call neg)) := by
    intro neg pins s σ H x y v u Q I rx ry ⟨φ, ms, kx, mx, my, k, hr, vx, vy, o, kt, xt⟩
    have hA : X.A.frames = some X.stack := I.ok.frames
    unfold eqX at o
    obtain ⟨w, hw, o⟩ := ok_opt o
    cases w with
    | data =>
      cases neg with
      | false => exact m_eqD hrm.units pins s σ H x y v u Q I rx ry ⟨φ, ms, mx, my, k, hr, vx, vy, o, kt⟩
      | true => exact m_neD hrm.units pins s σ H x y v u Q I rx ry ⟨φ, ms, mx, my, k, hr, vx, vy, o, kt⟩
    | left i =>
      unfold eqWay at hw
      cases vx with
      | @loc n a ea =>
        obtain ⟨oa, h1, h2⟩ := hr.at' ea
        dsimp only at hw
        rw [h1] at hw
        cases oa with
        | ins c fs =>
          obtain ⟨dx, gs, q1, q2⟩ := h2
          obtain ⟨ox, od, J⟩ := inst_ins I q1
          obtain rfl : v = Value.ref a := rx
          dsimp only at hw
          split at hw
          · rename_i i' t hi ht
            have ty := ty_of F hr vy ht
            obtain ⟨P, Z, p, _⟩ := kit_ofE I ry ty
            have hl : PySem.W.Looks (model X.prog X.w) s.heap (typeOf u) (tv cA t) := Z.ty _ _ I.kIn p
            have fin : i' = i → PySem.W.notFirst X.K (cA c) (tv cA t) = true → wpAny (model X.prog X.w) X.A (compareOp (if neg then .NotEq else .Eq) (.ref a) u) (EP X pins σ Q) X.xe s := fun e hn => by
              subst e
              obtain ⟨f, Z, FV⟩ := T.eq _ (lkN_mem hi)
              cases neg with
              | false =>
                refine OwnX.rc_left (op := .Eq) hu I.kIn J hl hn (OwnX.eq_try I.kIn J Z.eq Z.fn (wpAny_mono (own_eq (neg := false) (op := .Eq) (R := fun _ => .none) hA (FV X.A [] hg rA) hx I hr (.loc ea) vy rfl ry o kt xt) (fun v' s' hv => ?_) fun _ _ e => e))
                obtain ⟨b, rfl, q⟩ := hv
                exact ⟨b, rfl, by rw [Bool.false_xor] at q; exact q⟩
              | true =>
                refine OwnX.rc_left (op := .NotEq) hu I.kIn J hl hn (OwnX.ne_try I.kIn J Z.ob Z.ne Z.eq Z.fn hu1 (wpAny_mono (own_eq (neg := true) (op := .Eq) (R := fun _ => .none) hA (FV X.A.in1 [] (in1_guards hg) rA1) hx I hr (.loc ea) vy rfl ry o kt xt) (fun v' s' hv => ?_) fun _ _ e => e))
                obtain ⟨b, rfl, q⟩ := hv
                exact ⟨b, rfl, by rw [Bool.true_xor] at q; exact q⟩
            split at hw
            · rename_i ec
              cases hw
              subst ec
              exact fin rfl (by simp [PySem.W.notFirst, tv])
            · split at hw
              · rename_i hs
                cases hw
                obtain ⟨z1, z2⟩ := T.sb _ (lkI_mem hs)
                refine fin rfl ?_
                unfold PySem.W.notFirst
                have z2 : PySem.W.subIn X.K (tv cA t) (.ref (cA c)) = some false := z2
                rw [z2]
                simp
              · split at hw
                · split at hw <;> cases hw
                · cases hw
              · cases hw
          · cases hw
        | lst _ => cases hw
        | ex _ _ => cases hw
      | _ => cases hw
    | right j =>
      unfold eqWay at hw
      cases vx with
      | @loc n a ea =>
        obtain ⟨oa, h1, h2⟩ := hr.at' ea
        dsimp only at hw
        rw [h1] at hw
        cases oa with
        | ins c fs =>
          obtain ⟨dx, gs, q1, q2⟩ := h2
          obtain ⟨ox, od, J⟩ := inst_ins I q1
          obtain rfl : v = Value.ref a := rx
          dsimp only at hw
          split at hw
          · rename_i i' t hi ht
            split at hw
            · cases hw
            · split at hw
              · cases hw
              · rename_i hs
                split at hw
                · rename_i d hnd
                  split at hw
                  · rename_i j' hj
                    cases hw
                    obtain ⟨b, oy, oe, eb, JB⟩ := inst_cls I hr vy ht
                    subst eb
                    obtain rfl : u = Value.ref b := ry
                    obtain ⟨z1, z2⟩ := T.sb _ (lkI_mem hs)
                    obtain ⟨f, Z, FV⟩ := T.eq _ (lkN_mem hj)
                    have zne : (cA d == cA c) = false := by
                      have z1 : (Value.ref (cA d) == Value.ref (cA c)) = false := z1
                      simpa using z1
                    cases neg with
                    | false =>
                      refine OwnX.rc_right (op := .Eq) hu I.kIn J JB zne z2 (OwnX.eq_try I.kIn JB Z.eq Z.fn (wpAny_mono (own_eq (neg := false) (op := .Eq) (R := fun _ => .none) hA (FV X.A [] hg rA) hx I hr vy (.loc ea) rfl rfl o kt xt) (fun v' s' hv => ?_) fun _ _ e => e))
                      obtain ⟨b, rfl, q⟩ := hv
                      exact ⟨b, rfl, by rw [Bool.false_xor] at q; exact q⟩
                    | true =>
                      refine OwnX.rc_right (op := .NotEq) hu I.kIn J JB zne z2 (OwnX.ne_try I.kIn JB Z.ob Z.ne Z.eq Z.fn hu1 (wpAny_mono (own_eq (neg := true) (op := .Eq) (R := fun _ => .none) hA (FV X.A.in1 [] (in1_guards hg) rA1) hx I hr vy (.loc ea) rfl rfl o kt xt) (fun v' s' hv => ?_) fun _ _ e => e))
                      obtain ⟨b, rfl, q⟩ := hv
                      exact ⟨b, rfl, by rw [Bool.true_xor] at q; exact q⟩
                  · cases hw
                · cases hw
              · cases hw
          · cases hw
        | lst _ => cases hw
        | ex _ _ => cases hw
      | _ => cases hw
  exact ⟨main false, main true⟩
/-- bool(x) -/
def boolX (tb : Tb) (call : CallM ρ) (x : MV) (ms : MS) (kx : KX ρ) (k : K1 ρ) : ρ := match x with
  | .bl b => k (.bl b) ms
  | .int i => k (.bl (i != 0)) ms
  | .loc n => match ms.hp[n]? with
    | some (.ins c _) => opt (lkN tb.bo c) fun i => call i [.loc n] [] [] ms kx fun v m => match v with
      | .bl b => k (.bl b) m
      | _ => Ans.bot
    | _ => Ans.bot
  | _ => Ans.bot
def eBool (tb : Tb) (call : CallM ρ) (f : EV ρ) : EV ρ := fun kx env ms k => f kx env ms fun x ms1 => boolX tb call x ms1 kx k
theorem mE_bool (T : EqT X.prog X.w X.K X.mg X.base CX cA tb call L) (hgd : X.A.guards = some []) (hrm : Room (L + 3) X.A) (hx : Passes CX X E) {e : Expr} {f : EV ρ} {p pos : Pos} (hg : Gl X "bool") (hm : X.mg "bool" = none) (he : PE X e (tE X.K cA E f)) (hs : isSt e = false) :
    PE X (.Call (.Name "bool" p) [e] [] pos) (tE X.K cA E (eBool tb call f)) := by
  refine ⟨fun pins s σ H Q I h => ?_⟩
  obtain ⟨φ, env, ms, kx, k, er, hr, o, kt, xt⟩ := h
  refine wpAny_Call_Name_kw (ld_blt I hg hm (u := .type "bool") rfl ?_)
  refine PyProof.Rows.callWith_type1 (thn ((pa_cons he pa_nil (star_cons hs)).run pos pins s σ H (fun vs H1 => ∃ v φ1 ms1 x, vs = [v] ∧ Gr X.K φ H φ1 H1 ∧ HR X.K cA φ1 ms1 H1 ∧ VR X.K cA φ1 H1 x v ∧ Ans.ok (boolX tb call x ms1 kx k)) I
    ⟨φ, env, ms, kx, _, er, hr, o, fun φ1 ms1 H1 x v g1 hr1 vx o1 => ⟨v, φ1, ms1, x, rfl, g1, hr1, vx, o1⟩, xt⟩) fun us s1 hh => ?_) (star_cons hs) rfl
  obtain ⟨vs, H1, I1, rv, v, φ1, ms1, x, ev, g1, hr1, vx, o1⟩ := hh
  subst ev
  cases rv with
  | cons ru rr =>
    cases rr
    rename_i u
    unfold boolX at o1
    cases vx with
    | bl b =>
      obtain rfl : u = .bool b := ru
      exact call_bool_bool ⟨.bl b, H1, I1, rfl, kt φ1 ms1 H1 _ _ g1 hr1 (.bl _) o1⟩
    | int i =>
      obtain ⟨t, rfl⟩ := ru
      exact call_bool_int ⟨.bl (i != 0), H1, I1, rfl, kt φ1 ms1 H1 _ _ g1 hr1 (.bl _) o1⟩
    | @loc n a ea =>
      obtain ⟨oa, h1, h2⟩ := hr1.at' ea
      dsimp only at o1
      rw [h1] at o1
      cases oa with
      | ins c fs =>
        obtain ⟨dx, gs, q1, q2⟩ := h2
        obtain ⟨ox, od, J⟩ := inst_ins I1 q1
        obtain rfl : u = Value.ref a := ru
        obtain ⟨i, hi, o1⟩ := ok_opt o1
        obtain ⟨f, Z, FV⟩ := T.bo _ (lkN_mem hi)
        obtain ⟨m, hF⟩ := I1.fr
        have r2 : Room L X.A.in1.in1 := Room.in1 (Room.in1 (hrm.mono (by omega : L + 1 + 1 ≤ L + 3)))
        refine OwnX.call_bool (PySem.W.truthy_K hF I1.ok.mod.kin J Z.bo Z.fn (wpAny_mono (run_fnVA (A := X.A.in1.in1) (ws := []) (zs := []) I1.ok.frames (FV X.A.in1.in1 [] hgd r2) hx I1 (.cons (show RelV (.ref a) (.ref a) from rfl) .nil) .nil rfl (Q := fun v H' => ∃ b, v = .bl b ∧ Q (.bl b) H')
          ⟨φ1, ms1, kx, _, [.loc n], [], hr1, .cons (.loc ea) .nil, .nil, o1, fun φ2 ms2 H2 z w g2 hr2 vz o2 => ?_, xt.gr g1⟩) (fun v' s' hv => ?_) fun _ _ e => e))
        · cases vz with
          | bl b => exact ⟨b, rfl, kt φ2 ms2 H2 _ _ (g1.trans g2) hr2 (.bl _) o2⟩
          | _ => exact absurd o2 Ans.bot_ok
        · obtain ⟨w, H', I', rw', b, eb, q⟩ := hv
          subst eb
          obtain rfl : v' = .bool b := rw'
          exact ⟨.bl b, H', I', rfl, q⟩
      | _ => exact absurd o1 Ans.bot_ok
    | _ => exact absurd o1 Ans.bot_ok
end
end Mi

/-! part MI7 -/
set_option Elab.async false
set_option linter.all false
set_option maxRecDepth 100000
set_option maxHeartbeats 4000000
namespace Mi
open PySem PySem.Spec PyProof.Rows L2 SC
open PySem.SupX (MkE ExMade Sup1 Sup2 SupC mk1 mk1k mk2 mk2k)

/-! ### names -/
def ixOf : List Str → Str → Option Nat
  | [], _ => none
  | y :: r, x => if y = x then some 0 else match ixOf r x with
    | some i => some (i + 1)
    | none => none
theorem ixOf_get : ∀ {N : List Str} {x : Str} {i : Nat}, ixOf N x = some i → N[i]? = some x
  | [], _, _, h => by cases h
  | y :: r, x, i, h => by
    unfold ixOf at h
    split at h
    · rename_i e
      cases h
      subst e
      rfl
    · split at h
      · rename_i j e
        cases h
        simpa using ixOf_get e
      · cases h
structure CC where
  N : List Str
  sc : Scope
  top : Bool
inductive NR where
  | loc (i : Nat) | gl (v : GV) | no
def lkG : List (Str × GV) → Str → Option GV
  | [], _ => none
  | (y, v) :: r, x => if y = x then some v else lkG r x
def bad (x : Str) : Bool := (x == ("__debug__" : Str)) || (x == ("__classdict__" : Str)) || decide (x = ("__name__" : Str))
def nres (tb : Tb) (c : CC) (x : Str) : NR := match bad x with
  | true => .no
  | false => match c.sc.names.lookup x with
    | some .local => match ixOf c.N x with
      | some i => .loc i
      | none => .no
    | some .cell => match ixOf c.N x with
      | some i => .loc i
      | none => .no
    | some .free => match ixOf c.N x with
      | some i => .loc i
      | none => .no
    | some .globalImplicit => match lkG tb.G x with
      | some v => .gl v
      | none => .no
    | _ => .no
section
variable {ρ : Type} [Ans ρ]
/-- what the tables say, and what stands behind the top -/
def GRel (P : Program) (w : World) (K : PySem.W.Frag) (mg : Str → Option Value) (base : Heap) (CX : CXT) (cA : Nat → Addr) (tb : Tb) (call : CallM ρ) (L : Nat) (x : Str) : GV → Prop
  | .blt b => x = b.name ∧ mg x = none
  | .fn i => ∃ f, mg x = some (.ref f) ∧ PySem.W.keepIn K (.ref f) = true ∧ ∀ A ks, A.guards = some [] → Room L A → FnV A P w K mg base CX f ks (SpM K cA ks (call i))
  | .cls c => mg x = some (.ref (cA c)) ∧ PySem.W.keepIn K (.ref (cA c)) = true ∧ (∀ f, tb.ck[c]? = some (.ex1 f) → ∃ fI cc cda cn, Sup1 P K (cA c) fI cc cda cn f) ∧ (∀ f k, tb.ck[c]? = some (.ex2 f k) → ∃ fI cc cda cn, Sup2 P K (cA c) fI cc cda cn f k) ∧
      ∀ i, tb.ck[c]? = some (.pl i) → ∃ f, Mk K (cA c) f ∧ ∀ A ks, A.guards = some [] → Room L A → FnV A P w K mg base CX f ks (SpM K cA ks (call i))
  | .draw => ∃ f, mg x = some (.ref f) ∧ PySem.W.keepIn K (.ref f) = true ∧ ∀ A, A.guards = some [] → Room L A → FnV A P w K mg base CX f [] spDr
structure Okc (X : Cx) (CX : CXT) (E : XK) (cA : Nat → Addr) (tb : Tb) (call : CallM ρ) (L : Nat) (c : CC) : Prop where
  hN : X.N = c.N
  nd : c.N.Nodup
  sc : X.env.scope = c.sc
  kd : c.sc.kind = .function
  calm : X.calm = true
  gds : X.A.guards = some []
  rm : Room (L + 3) X.A
  ps : Passes CX X E
  po : PassesOwn (model X.prog X.w) X.A X.env X.xe
  fn : c.top = true → ∀ x, X.fn x = true
  cls : ClsF X.K cA tb
  eqt : EqT X.prog X.w X.K X.mg X.base CX cA tb call L
  gl : ∀ x v, lkG tb.G x = some v → GRel X.prog X.w X.K X.mg X.base CX cA tb call L x v
variable {X : Cx} {CX : CXT} {E : XK} {cA : Nat → Addr} {tb : Tb} {call : CallM ρ} {L : Nat} {c : CC} {x : Str} {pos : Pos}
theorem bad_of (h : bad x = false) : (x == ("__debug__" : Str)) = false ∧ (x == ("__classdict__" : Str)) = false ∧ x ≠ "__name__" := by
  unfold bad at h
  simp only [Bool.or_eq_false_iff] at h
  exact ⟨h.1.1, h.1.2, of_decide_eq_false h.2⟩
theorem Okc.loc (o : Okc X CX E cA tb call L c) {i : Nat} (h : nres tb c x = .loc i) : X.N[i]? = some x ∧ Vis X.env.scope x ∧ (x == ("__debug__" : Str)) = false ∧ (x == ("__classdict__" : Str)) = false := by
  unfold nres at h
  split at h
  · cases h
  · rename_i hb
    obtain ⟨b1, b2, _⟩ := bad_of hb
    rw [o.hN]
    unfold Vis
    rw [o.sc]
    split at h <;> first
      | (rename_i hl
         split at h
         · rename_i j e
           cases h
           first
             | exact ⟨ixOf_get e, .inl hl, b1, b2⟩
             | exact ⟨ixOf_get e, .inr (.inl hl), b1, b2⟩
             | exact ⟨ixOf_get e, .inr (.inr hl), b1, b2⟩
         · cases h)
      | (split at h <;> cases h)
      | cases h
theorem Okc.glo (o : Okc X CX E cA tb call L c) {v : GV} (h : nres tb c x = .gl v) : Gl X x ∧ GRel X.prog X.w X.K X.mg X.base CX cA tb call L x v ∧ (x == ("__debug__" : Str)) = false ∧ x ≠ "__name__" := by
  unfold nres at h
  split at h
  · cases h
  · rename_i hb
    obtain ⟨b1, b2, b3⟩ := bad_of hb
    split at h
    case h_4 hl =>
      split at h
      · rename_i w e
        cases h
        refine ⟨?_, o.gl _ _ e, b1, b3⟩
        show X.env.scope.names.lookup x = _
        rw [o.sc]
        exact hl
      · cases h
    all_goals first
      | (split at h <;> cases h)
      | cases h
/-! ### the steps -/
structure Rec (ρ : Type) where
  E : CC → Expr → EV ρ
  T : CC → Expr → EB ρ
  S : CC → List Stmt → ES ρ
def eB : EV ρ := fun _ _ _ _ => Ans.bot
def bB : EB ρ := fun _ _ _ _ => Ans.bot
def sB : ES ρ := fun _ _ _ _ => Ans.bot
def iB : EI ρ := fun _ _ _ _ => Ans.bot
theorem mE_B {e : Expr} : PE X e (tE X.K cA E (eB (ρ := ρ))) := pe_no fun _ _ _ ⟨_, _, _, _, _, _, _, o, _⟩ => absurd o Ans.bot_ok
theorem mT_B {e : Expr} : PT X e (tT X.K cA E (bB (ρ := ρ))) := ⟨fun _ _ _ _ _ _ ⟨_, _, _, _, _, _, _, o, _⟩ => absurd o Ans.bot_ok⟩
theorem mS_B {s : Stmt} : PS X s (tS X.K cA E (sB (ρ := ρ))) := ⟨fun _ _ _ _ _ _ ⟨_, _, _, _, _, _, _, o, _⟩ => absurd o Ans.bot_ok⟩
theorem mI_B {tg e : Expr} : PI X tg e (tI X.K cA E (iB (ρ := ρ))) := ⟨fun _ _ _ _ _ _ ⟨_, _, _, _, _, _, _, o, _⟩ => absurd o Ans.bot_ok⟩
def noSt (es : List Expr) : Bool := es.all (fun e => !isSt e)
def argM (r : Rec ρ) (c : CC) : List Expr → EA ρ
  | [] => aNil
  | e :: es => aCons (r.E c e) (argM r c es)
def kwM (r : Rec ρ) (c : CC) : List Keyword → EA ρ
  | [] => aNil
  | ⟨_, e, _⟩ :: es => aCons (r.E c e) (kwM r c es)
def opM (op : Operator) : Option (MV → MV → MS → K1 ρ → ρ) := match op with
  | .Add => some addM
  | .Sub => some subM
  | .Mult => some mulM
  | .Mod => some modM
  | .FloorDiv => some fdivM
  | _ => none
def cmpM (tb : Tb) (call : CallM ρ) (op : CmpOp) : Option (RX ρ) := match op with
  | .Eq => some (eqX tb call false)
  | .NotEq => some (eqX tb call true)
  | .Lt => some (noX (ordM fun i j => decide (i < j)))
  | .LtE => some (noX (ordM fun i j => decide (i ≤ j)))
  | .Gt => some (noX (ordM fun i j => decide (j < i)))
  | .GtE => some (noX (ordM fun i j => decide (j ≤ i)))
  | .Is => some (noX (isM false))
  | .IsNot => some (noX (isM true))
  | _ => none
def bltM (tb : Tb) (b : Bi) : Option (List MV → MS → K1 ρ → ρ) := match b with
  | .len => some lenB
  | .isinstance => some (isiB tb)
  | .repr => some reprB
  | .tuple => some tupleB
  | .list => some listB
  | .int => some intB
  | .abs => some absB
  | _ => none
def clsM (tb : Tb) (call : CallM ρ) (c : Nat) : Option (RC ρ) := match tb.ck[c]? with
  | some (.ex1 f) => some (mkX1 c f)
  | some (.ex2 f k) => some (mkX2 c f k)
  | some (.pl i) => some (mkP c (call i))
  | _ => none
def calM (tb : Tb) (call : CallM ρ) : GV → Option (RC ρ)
  | .fn i => some (call i)
  | .cls c => clsM tb call c
  | .draw => some drM
  | _ => none
def callE (tb : Tb) (call : CallM ρ) (r : Rec ρ) (c : CC) (x : Str) (es : List Expr) (kws : List Keyword) : EV ρ := match noSt es with
  | false => eB
  | true => match nres tb c x with
    | .gl (.blt .bool) => match kws, es with
      | [], [e] => eBool tb call (r.E c e)
      | _, _ => eB
    | .gl (.blt b) => match kws, es, bltM tb b with
      | [], _ :: _, some f => eBlt f (argM r c es)
      | _, _, _ => eB
    | .gl v => match calM tb call v, kwNames kws with
      | some f, some ks => eCall f ks (argM r c es) (kwM r c kws)
      | _, _ => eB
    | _ => eB
def abOk : Expr → Bool
  | .Call .. => false
  | _ => true
def isSli : Expr → Bool
  | .Slice .. => true
  | _ => false
def isSet : Expr → Bool
  | .Set .. => true
  | _ => false
def poM (r : Rec ρ) (c : CC) : Option Expr → EO ρ
  | none => oNone
  | some e => oSome (r.E c e)
/-- targets: the slots, the store -/
def gNm (c : CC) : Expr → Option (Nat × EG ρ)
  | .Name x _ => match c.sc.names.lookup x, ixOf c.N x with
    | some .local, some i => some (i, gN i)
    | some .cell, some i => if c.top then some (i, gN i) else none
    | _, _ => none
  | _ => none
def gNms (c : CC) : List Expr → Option (List Nat × EGs ρ)
  | [] => some ([], gsNil)
  | e :: es => match gNm c e, gNms c es with
    | some (i, g), some (l, gs) => some (i :: l, gsCons g gs)
    | _, _ => none
def gTg (c : CC) (e : Expr) : Option (List Nat × EG ρ) := match e with
  | .Tuple es _ _ => match gNms c es with
    | some (l, gs) => some (l, gTp (lenG es.length gs))
    | none => none
  | e => match gNm c e with
    | some (i, g) => some ([i], g)
    | none => none
def isTup : Expr → Bool
  | .Tuple .. => true
  | _ => false
def isNamed (s : String) : Expr → Bool
  | .Name x _ => decide (x = (s : Str))
  | _ => false
def itrM (tb : Tb) (r : Rec ρ) (c : CC) (tg it : Expr) : EI ρ := match it with
  | .Call (.Name x _) [a] [] _ => match isSt a, nres tb c x with
    | false, .gl (.blt .range) => iR1 (r.E c a)
    | false, .gl (.blt .enumerate) => match isTup tg with
      | true => iEn (r.E c a)
      | false => iB
    | _, _ => iAny (r.E c it)
  | .Call (.Name x _) [a, b] [] _ => match isSt a, isSt b, nres tb c x with
    | false, false, .gl (.blt .range) => iR2 (r.E c a) (r.E c b)
    | _, _, _ => iAny (r.E c it)
  | it => iAny (r.E c it)
def ifsM (r : Rec ρ) (c : CC) : List Expr → Option (EB ρ)
  | [] => some (fun _ _ ms k => k true ms)
  | [e] => some (r.T c e)
  | _ => none
def ownOf (N : List Str) (scope : Scope) : List (Str × Nat) := scope.names.filterMap fun y => match y.2 with
  | .local => match ixOf N y.1 with
    | some i => some (y.1, i)
    | none => none
  | .cell => match ixOf N y.1 with
    | some i => some (y.1, i)
    | none => none
  | _ => none
/-- the list comprehension: its walk, its own slots, target, tests, item -/
def lcM (tb : Tb) (r : Rec ρ) (c : CC) (elt : Expr) (gens : List Comprehension) (scope : Scope) : EV ρ := match gens with
  | [⟨tg, it, ifs, 0⟩] => match isSet it, blkC c.N c.sc scope (ownOf c.N scope) with
    | false, true => match gTg ⟨c.N, relS scope c.sc, false⟩ tg, ifsM r ⟨c.N, relS scope c.sc, false⟩ ifs with
      | some (l, g), some t => match l.all fun i => decide (i ∈ (ownOf c.N scope).map (·.2)) with
        | true => eLc (itrM tb r c tg it) ((ownOf c.N scope).map (·.2)) g t (r.E ⟨c.N, relS scope c.sc, false⟩ elt)
        | false => eB
      | _, _ => eB
    | _, _ => eB
  | _ => eB
end
end Mi

/-! part MI8 -/
set_option Elab.async false
set_option linter.all false
set_option maxRecDepth 100000
set_option maxHeartbeats 4000000
namespace Mi
open PySem PySem.Spec PyProof.Rows L2 SC
open PySem.SupX (MkE ExMade Sup1 Sup2 SupC mk1 mk1k mk2 mk2k)

theorem st_m {e : Expr} : isSt e = false → ¬ ((match e with | .Starred .. => true | _ => false) = true) := by
  intro h z
  cases e <;> first | (cases z; done) | (cases h; done)
theorem noSt_cons {e : Expr} {es : List Expr} (h : noSt (e :: es) = true) : isSt e = false ∧ noSt es = true := by
  simpa [noSt] using h
theorem sw2 {x y : Str} {px py pt pt2 : Pos} {kt k2 : Nat} {a b : Expr} {env : Env} (hk : env.scope.kind = .function) (hx : env.scope.names.lookup x = some .local) (hy : env.scope.names.lookup y = some .local) (hl : (py.line == px.line) = true) (hxy : x ≠ y)
    (hs : noSt [a, b] = true) (hf : [a, b].all (foldedForSure 8) = false) (hc : [a, b].all (constantsAlone 8) = false) : swappedStores [.Tuple [.Name x px, .Name y py] kt pt] (.Tuple [a, b] k2 pt2) env = pure (some [x, y]) := by
  have kx : env.kindOf x = some .local := hx
  have ky : env.kindOf y = some .local := hy
  have hb : env.blockKind = .function := by unfold Env.blockKind; rw [hk]; rfl
  obtain ⟨a1, hs⟩ := noSt_cons hs
  obtain ⟨b1, _⟩ := noSt_cons hs
  have hd : [x, y].eraseDups.length = 2 := by
    have e2 : (y == x) = false := by simpa using (Ne.symm hxy)
    simp [List.eraseDups, List.eraseDupsBy, List.eraseDupsBy.loop, e2]
  unfold swappedStores
  simp only [hb, kx, ky, Expr.pos, hf, hc, List.filterMap_cons, List.filterMap_nil, hl, List.head?_cons, Option.map_some, Option.getD_some, List.length_cons, List.length_nil]
  simp [hd]
  intro h
  rcases h with h | h
  · exact absurd h (st_m a1)
  · exact absurd h (st_m b1)
theorem sw3 {x y z : Str} {px py pz pt pt2 : Pos} {kt k2 : Nat} {a b c : Expr} {env : Env} (hk : env.scope.kind = .function) (hx : env.scope.names.lookup x = some .local) (hy : env.scope.names.lookup y = some .local) (hz : env.scope.names.lookup z = some .local)
    (hl : (py.line == px.line) = true) (hl2 : (pz.line == px.line) = true) (hxy : x ≠ y) (hxz : x ≠ z) (hyz : y ≠ z)
    (hs : noSt [a, b, c] = true) (hf : [a, b, c].all (foldedForSure 8) = false) (hc : [a, b, c].all (constantsAlone 8) = false) : swappedStores [.Tuple [.Name x px, .Name y py, .Name z pz] kt pt] (.Tuple [a, b, c] k2 pt2) env = pure (some [x, y, z]) := by
  have kx : env.kindOf x = some .local := hx
  have ky : env.kindOf y = some .local := hy
  have kz : env.kindOf z = some .local := hz
  have hb : env.blockKind = .function := by unfold Env.blockKind; rw [hk]; rfl
  obtain ⟨a1, hs⟩ := noSt_cons hs
  obtain ⟨b1, hs⟩ := noSt_cons hs
  obtain ⟨c1, _⟩ := noSt_cons hs
  have hd : [x, y, z].eraseDups.length = 3 := by
    have e2 : (y == x) = false := by simpa using (Ne.symm hxy)
    have e3 : (z == x) = false := by simpa using (Ne.symm hxz)
    have e4 : (z == y) = false := by simpa using (Ne.symm hyz)
    simp [List.eraseDups, List.eraseDupsBy, List.eraseDupsBy.loop, e2, e3, e4]
  unfold swappedStores
  simp only [hb, kx, ky, kz, Expr.pos, hf, hc, List.filterMap_cons, List.filterMap_nil, hl, hl2, List.head?_cons, Option.map_some, Option.getD_some, List.length_cons, List.length_nil]
  simp [hd]
  intro h
  rcases h with h | h | h
  · exact absurd h (st_m a1)
  · exact absurd h (st_m b1)
  · exact absurd h (st_m c1)
section
variable {ρ : Type} [Ans ρ]
def negM (x : MV) (ms : MS) (k : K1 ρ) : ρ := match x with
  | .int i => k (.int (-i)) ms
  | _ => Ans.bot
def isBx : Bi → Option BT
  | .list => some .list
  | .tuple => some .tuple
  | .int => some .int
  | .str => some .str
  | .bool => some .bool
  | .dict => some .dict
  | .set => some .set
  | .ValueError => some .ValueError
  | _ => none
/-- l.append(x) -/
def eApp (f g : EV ρ) : EV ρ := fun kx env ms k => f kx env ms fun x ms1 => match x with
  | .loc n => match ms1.hp[n]? with
    | some (.lst _) => g kx env ms1 fun y ms2 => match ms2.hp[n]? with
      | some (.lst xs) => gd (decide (xs.length < 100000)) (k .non ⟨ms2.hp.set n (.lst (xs ++ [y])), ms2.n⟩)
      | _ => Ans.bot
    | _ => Ans.bot
  | _ => Ans.bot
def metM (r : Rec ρ) (c : CC) (o : Expr) (m : Str) (apos : Pos) (es : List Expr) (kws : List Keyword) (cpos : Pos) : EV ρ := match es, kws with
  | [e], [] => match abOk o && (apos.endLine == cpos.line) && !isSt e && decide (m = "append") with
    | true => eApp (r.E c o) (r.E c e)
    | false => eB
  | _, _ => eB
def stepE (tb : Tb) (call : CallM ρ) (r : Rec ρ) (c : CC) (e : Expr) : EV ρ := match e with
  | .Constant k _ _ => match k with
    | .int i => eC (.int i)
    | .bool b => eC (.bl b)
    | .none => eC .non
    | .str x => eC (.str x)
    | _ => eB
  | .Name x _ => match nres tb c x with
    | .loc i => eVar i
    | .gl (.cls k) => eC (.cls k)
    | .gl (.blt b) => match isBx b with
      | some t => eC (.ty t)
      | none => eB
    | _ => eB
  | .Tuple es _ _ => match noSt es with
    | true => eTup (argM r c es)
    | false => eB
  | .List es _ => match noSt es with
    | true => eLst (argM r c es)
    | false => eB
  | .BinOp a op b _ => match opM op with
    | some f => eOp f (r.E c a) (r.E c b)
    | none => eB
  | .Compare a [op] [b] _ => match behindInMarks op b, cmpM tb call op with
    | false, some f => eOpX f (r.E c a) (r.E c b)
    | _, _ => eB
  | .BoolOp _ [a] _ => r.E c a
  | .BoolOp .And (a :: b :: rest) pos => eAnd (r.E c a) (r.E c (.BoolOp .And (b :: rest) pos))
  | .BoolOp .Or (a :: b :: rest) pos => eOr (r.E c a) (r.E c (.BoolOp .Or (b :: rest) pos))
  | .UnaryOp .Not a _ => eNot (r.E c a)
  | .UnaryOp .USub a _ => eUn negM (r.E c a)
  | .IfExp t a b _ => eIf (r.T c t) (r.E c a) (r.E c b)
  | .Call (.Name x _) es kws _ => callE tb call r c x es kws
  | .Call (.Attribute o m apos) es kws cpos => metM r c o m apos es kws cpos
  | .Attribute o f _ => match abOk o with
    | true => eUn (fldM tb f) (r.E c o)
    | false => eB
  | .Subscript v (.Slice lo hi none _) _ => eSl (r.E c v) (poM r c lo) (poM r c hi)
  | .Subscript v i _ => match isSli i with
    | false => eOp ixM (r.E c v) (r.E c i)
    | true => eB
  | .ListComp elt gens scope _ => lcM tb r c elt gens scope
  | _ => eB
def plT : Expr → Bool
  | .UnaryOp .Not _ _ => false
  | .BoolOp .. => false
  | .IfExp .. => false
  | .Compare .. => false
  | _ => true
def stepT (tb : Tb) (call : CallM ρ) (r : Rec ρ) (c : CC) (e : Expr) : EB ρ := match e with
  | .UnaryOp .Not a _ => bNot (r.T c a)
  | .BoolOp _ [a] _ => r.T c a
  | .BoolOp .And (a :: b :: rest) pos => bAnd (r.T c a) (r.T c (.BoolOp .And (b :: rest) pos))
  | .BoolOp .Or (a :: b :: rest) pos => bOr (r.T c a) (r.T c (.BoolOp .Or (b :: rest) pos))
  | .Compare a [op] [b] _ => match behindInMarks op b, cmpM tb call op with
    | false, some f => bBl (eOpX f (r.E c a) (r.E c b))
    | _, _ => bB
  | e => match plT e with
    | true => bTru (r.E c e)
    | false => bB
def isComp : Expr → Bool
  | .ListComp .. => true
  | .SetComp .. => true
  | .DictComp .. => true
  | _ => false
/-- a, b = x, y -/
def parM (r : Rec ρ) (c : CC) (ts vs : List Expr) : ES ρ := match ts, vs with
  | [.Name x px, .Name y py], [a, b] => match ixOf c.N x, ixOf c.N y with
    | some i, some j => match decide (c.sc.names.lookup x = some .local) && decide (c.sc.names.lookup y = some .local) && (py.line == px.line) && decide (x ≠ y) && decide (i ≠ j) && noSt [a, b] && !([a, b].all (foldedForSure 8)) && !([a, b].all (constantsAlone 8)) with
      | true => sPar [i, j] (argM r c [a, b])
      | false => sB
    | _, _ => sB
  | [.Name x px, .Name y py, .Name z pz], [a, b, d] => match ixOf c.N x, ixOf c.N y, ixOf c.N z with
    | some i, some j, some l => match decide (c.sc.names.lookup x = some .local) && decide (c.sc.names.lookup y = some .local) && decide (c.sc.names.lookup z = some .local) && (py.line == px.line) && (pz.line == px.line) && decide (x ≠ y) && decide (x ≠ z) && decide (y ≠ z) && decide (i ≠ j) && decide (i ≠ l) && decide (j ≠ l) && noSt [a, b, d] && !([a, b, d].all (foldedForSure 8)) && !([a, b, d].all (constantsAlone 8)) with
      | true => sPar [i, j, l] (argM r c [a, b, d])
      | false => sB
    | _, _, _ => sB
  | _, _ => sB
def asgM (tb : Tb) (r : Rec ρ) (c : CC) (tg e : Expr) : ES ρ := match tg with
  | .Name x p => match gNm c tg with
    | some (_, g) => match e with
      | .ListComp elt gens scope lp => match (p.line == lp.line) && decide (c.sc.names.lookup x = some .local) && !(scope.names.any fun (n, k) => n == x && (k == .local || k == .cell)) with
        | true => sAsg (lcM tb r c elt gens scope) g
        | false => sB
      | e => match isComp e with
        | false => sAsg (r.E c e) g
        | true => sB
    | none => sB
  | .Tuple ts _ _ => match e with
    | .Tuple vs _ _ => parM r c ts vs
    | e => match gTg c tg with
      | some (_, g) => sAsg (r.E c e) g
      | none => sB
  | .Attribute o n _ => sFldM tb n (r.E c o) (r.E c e)
  | _ => sB
def stepS (tb : Tb) (r : Rec ρ) (c : CC) (s : Stmt) : ES ρ := match s with
  | .Return (some e) _ => sRet (r.E c e)
  | .Return none _ => sRetN
  | .Expr e _ => match isComp e with
    | false => sEx (r.E c e)
    | true => sB
  | .If t a b _ => sIf (r.T c t) (r.S c a) (r.S c b)
  | .For tg it body [] _ => match isSet it, gTg c tg with
    | false, some (_, g) => sFor (itrM tb r c tg it) g (r.S c body)
    | _, _ => sB
  | .Pass _ => sNext
  | .Break _ => sBk
  | .Continue _ => sCt
  | .Assign [tg] e _ => asgM tb r c tg e
  | _ => sB
def stepSs (tb : Tb) (r : Rec ρ) (c : CC) : List Stmt → ES ρ
  | [] => sNext
  | s :: ss => sSeq (stepS tb r c s) (r.S c ss)
def step (tb : Tb) (call : CallM ρ) (r : Rec ρ) : Rec ρ := ⟨stepE tb call r, stepT tb call r, stepSs tb r⟩
def recM (tb : Tb) (call : CallM ρ) : Nat → Rec ρ
  | 0 => ⟨fun _ _ => eB, fun _ _ => bB, fun _ _ => sB⟩
  | n + 1 => step tb call (recM tb call n)
/-! ### calls -/
def selM (xs zs : List MV) : List Nat → Option (List MV)
  | [] => some []
  | j :: r => match (xs ++ zs)[j]?, selM xs zs r with
    | some x, some l => some (x :: l)
    | _, _ => none
def bindM (fd : FD) (xs : List MV) (ks : List Str) (zs : List MV) : Option (List MV) := match fd.shapes.find? fun s => decide (s.1 = ks) && decide (s.2.1 = xs.length) && decide (s.2.1 ≤ 1000) with
  | some s => match fd.star with
    | false => selM xs zs s.2.2
    | true => match selM xs zs s.2.2 with
      | some l => some (l ++ [.tup (xs.drop s.2.2.length)])
      | none => none
  | none => none
def callAt (tb : Tb) (F : Nat) : Nat → CallM ρ
  | 0 => fun _ _ _ _ _ _ _ => Ans.bot
  | l + 1 => fun i xs ks zs ms kx k => opt tb.fns[i]? fun fd => opt (bindM fd xs ks zs) fun ps =>
      (recM tb (callAt tb F l) F).S ⟨fd.N, fd.sc, true⟩ fd.body kx (ps.map some ++ List.replicate (fd.N.length - ps.length) none) ms ⟨fun _ m => k .non m, k, fun _ _ => Ans.bot, fun _ _ => Ans.bot⟩
end
end Mi

/-! part MI9 -/
set_option Elab.async false
set_option linter.all false
set_option maxRecDepth 100000
set_option maxHeartbeats 4000000
namespace Mi
open PySem PySem.Spec PyProof.Rows L2 SC
open PySem.SupX (MkE ExMade Sup1 Sup2 SupC mk1 mk1k mk2 mk2k)

section
variable {ρ : Type} [Ans ρ] {CX : CXT} {cA : Nat → Addr} {tb : Tb} {call : CallM ρ} {L : Nat}
structure Snd (CX : CXT) (cA : Nat → Addr) (tb : Tb) (call : CallM ρ) (L : Nat) (r : Rec ρ) : Prop where
  hF : ∀ X' : Cx, Passes CX X' EF
  E : ∀ {X : Cx} {E : XK} {c : CC}, Okc X CX E cA tb call L c → ∀ e, PE X e (tE X.K cA E (r.E c e))
  T : ∀ {X : Cx} {E : XK} {c : CC}, Okc X CX E cA tb call L c → ∀ e, PT X e (tT X.K cA E (r.T c e))
  S : ∀ {X : Cx} {E : XK} {c : CC}, Okc X CX E cA tb call L c → ∀ ss, PSs X ss (tS X.K cA E (r.S c ss))
variable {X : Cx} {E : XK} {c : CC} {r : Rec ρ}
theorem Okc.units (o : Okc X CX E cA tb call L c) : X.A.units + 64 < cLine := o.rm.units
theorem Okc.dep (o : Okc X CX E cA tb call L c) : X.A.depth + 1 < recursionLimit := by have := o.rm.dp; omega
theorem Okc.blk (o : Okc X CX E cA tb call L c) (hF : ∀ X' : Cx, Passes CX X' EF) {scope : Scope} (hk : scope.kind = .function) (s : Shared) (H : Hp) (C : Addr) (cl : List (Str × Addr)) (fp : List Addr) :
    Okc (X.blk s H scope (compEnvC scope cl C X.env) fp) CX EF cA tb call L ⟨c.N, relS scope c.sc, false⟩ where
  hN := o.hN
  nd := o.nd
  sc := by
    show relabel scope X.env = _
    have e : relabel scope X.env = relS scope X.env.scope := rfl
    rw [e, o.sc]
  kd := hk
  calm := o.calm
  gds := o.gds
  rm := o.rm
  ps := hF _
  po := PassesOwn.never
  fn := fun h => by cases h
  cls := o.cls
  eqt := o.eqt
  gl := o.gl
theorem snd_arg (S : Snd CX cA tb call L r) (o : Okc X CX E cA tb call L c) : ∀ es : List Expr, noSt es = true → PA X es (tA X.K cA E (argM r c es))
  | [], _ => mA_nil
  | e :: es, h => mA_cons (S.E o e) (snd_arg S o es (noSt_cons h).2) (star_cons (noSt_cons h).1)
theorem snd_kw (S : Snd CX cA tb call L r) (o : Okc X CX E cA tb call L c) : ∀ ks : List Keyword, PK X ks (tA X.K cA E (kwM r c ks))
  | [] => mK_nil
  | ⟨_, e, _⟩ :: es => mK_cons (S.E o e) (snd_kw S o es)
theorem snd_op (X : Cx) (op : Operator) {f : MV → MV → MS → K1 ρ → ρ} (h : opM op = some f) : OpR X (binaryOp op) (R2M X.K cA f) := by
  cases op <;> first
    | (cases h; first | exact m_add | exact m_sub | exact m_mul | exact m_mod | exact m_fdiv)
    | cases h
theorem snd_cmp (o : Okc X CX E cA tb call L c) (op : CmpOp) {f : RX ρ} (h : cmpM tb call op = some f) : OpR X (compareOp op) (R2X X.K cA E f) := by
  obtain ⟨h1, h2⟩ := m_eqX o.eqt o.cls o.gds o.rm o.ps
  cases op <;> first
    | (cases h; first | exact h1 | exact h2 | exact m_noX (m_ord op_lt) | exact m_noX (m_ord op_le) | exact m_noX (m_ord op_gt) | exact m_noX (m_ord op_ge) | exact m_noX m_is | exact m_noX m_isnot)
    | cases h
theorem un_ri {f' : Value → Sem Value} {r : V → Hp → VK → Prop} (h : UnR X f' r) : ∀ (pins : List (Addr × Obj)) (s : Shared) (σ : L2.St) (H : Hp) (x : V) (v : Value) (Q : VK), Inv X pins σ H s → RelV x v → r x H Q → wpAny (model X.prog X.w) X.A (f' v) (EP X pins σ Q) X.xe s := h
theorem mE_neg {a : Expr} {f : EV ρ} {pos : Pos} (ha : PE X a (tE X.K cA E f)) : PE X (.UnaryOp .USub a pos) (tE X.K cA E (eUn negM f)) :=
  pe_w (pe_un un_neg ha) fun σ H Q ⟨φ, env, ms, kx, k, er, hr, o, kt, xt⟩ => ⟨φ, env, ms, kx, _, er, hr, o, fun φ1 ms1 H1 x v g1 hr1 vx o1 => by
    cases vx with
    | int i => exact ⟨i, rfl, kt φ1 ms1 H1 _ _ g1 hr1 (.int _) o1⟩
    | _ => exact absurd o1 Ans.bot_ok, xt⟩
theorem ab_of {o : Expr} {n : Str} {env : Env} {w : Sem Value} (h : abOk o = true) : attributeBase o n env w = w := by
  cases o <;> first | rfl | cases h
theorem ix_of {i : Expr} (h : isSli i = false) : PlainIx i := by
  cases i <;> first | (intro _ _; rfl) | cases h
theorem set_of {i : Expr} {env : Env} (h : isSet i = false) : ∀ x, foldedSetIterable i env x = pure x := by
  cases i <;> first | (intro _; rfl) | cases h
theorem snd_call (S : Snd CX cA tb call L r) (o : Okc X CX E cA tb call L c) {x : Str} {p pos : Pos} {es : List Expr} {kws : List Keyword} : PE X (.Call (.Name x p) es kws pos) (tE X.K cA E (callE tb call r c x es kws)) := by
  unfold callE
  split
  · exact mE_B
  · rename_i hs
    split
    · rename_i hn
      obtain ⟨g1, ⟨g2, g3⟩, g4, g5⟩ := o.glo hn
      split
      · rename_i e
        subst g2
        exact mE_bool o.eqt o.gds o.rm o.ps g1 g3 (S.E o e) (noSt_cons hs).1
      · exact mE_B
    · rename_i b hb0 hn
      obtain ⟨g1, ⟨g2, g3⟩, g4, g5⟩ := o.glo hn
      split
      · rename_i e es f hb
        have ha := snd_arg S o (e :: es) hs
        cases b <;> first
          | (cases hb; done)
          | (cases hb
             subst g2
             first
               | exact mE_blt c_len g1 g3 rfl ha g5 g4 hs
               | exact mE_blt (c_isi o.cls) g1 g3 rfl ha g5 g4 hs
               | exact mE_blt (c_repr o.gds o.units) g1 g3 rfl ha g5 g4 hs
               | exact mE_bty c_tuple g1 g3 rfl ha g5 g4 hs
               | exact mE_bty c_list g1 g3 rfl ha g5 g4 hs
               | exact mE_bty c_int g1 g3 rfl ha g5 g4 hs
               | exact mE_blt c_abs g1 g3 rfl ha g5 g4 hs)
      · exact mE_B
    · rename_i v hv0 hv hn
      obtain ⟨g1, g2, g4, g5⟩ := o.glo hn
      split
      · rename_i f ks hf hk
        have all : ∀ u, X.mg x = some u → PySem.W.keepIn X.K u = true → (∀ ks, CalM X cA E u ks f) → PE X (.Call (.Name x p) es kws pos) (tE X.K cA E (eCall f ks (argM r c es) (kwM r c kws))) := by
          intro u hm hkp hc
          cases es with
          | nil =>
            cases kws with
            | nil =>
              cases hk
              exact mE_callK0 (hc []) g1 hm hkp g4
            | cons kw kws => exact mE_callKW0 (hc ks) g1 hm hkp g4 (snd_kw S o _) hk
          | cons e es =>
            cases kws with
            | nil =>
              cases hk
              exact mE_callK (hc []) g1 hm hkp g4 (snd_arg S o _ hs) hs
            | cons kw kws => exact mE_callKW (hc ks) g1 hm hkp g4 (snd_arg S o _ hs) (snd_kw S o _) hs hk
        cases v with
        | blt b => exact absurd rfl (hv b)
        | fn i =>
          cases hf
          obtain ⟨a, m1, m2, m3⟩ := g2
          exact all _ m1 m2 fun ks => cal_fn (m3 X.A ks o.gds (o.rm.mono (by omega))) o.ps
        | draw =>
          cases hf
          obtain ⟨a, m1, m2, m3⟩ := g2
          have hd : ∀ ks, CalM X cA E (.ref a) ks (drM (ρ := ρ)) := fun ks => by
            cases ks with
            | nil => exact cal_dr (m3 X.A o.gds (o.rm.mono (by omega))) o.ps
            | cons k ks =>
              intro pins s σ H us ws vs zs Q I rr rz hl ⟨φ, ms, kx, kk, mvs, mks, hr, vx, vz, ok, kt, xt⟩
              unfold drM at ok
              split at ok
              · contradiction
              · exact absurd ok Ans.bot_ok
          exact all _ m1 m2 hd
        | cls k =>
          obtain ⟨m1, m2, m3, m4, m5⟩ := g2
          have hf : clsM tb call k = some f := hf
          unfold clsM at hf
          split at hf
          · rename_i q
            cases hf
            obtain ⟨fI, cc, cda, cn, T⟩ := m3 _ q
            exact all _ m1 m2 fun ks => cal_x1 T o.dep
          · rename_i q
            cases hf
            obtain ⟨fI, cc, cda, cn, T⟩ := m4 _ _ q
            exact all _ m1 m2 fun ks => cal_x2 T o.dep
          · rename_i q
            cases hf
            obtain ⟨a, M, F⟩ := m5 _ q
            exact all _ m1 m2 fun ks => cal_p M (fun A hA hR => F A ks hA hR) o.gds (o.rm.mono (by omega)) o.ps
          · cases hf
      · exact mE_B
    · exact mE_B
theorem mE_app {oe e : Expr} {f g : EV ρ} {apos cpos : Pos} (ho : PE X oe (tE X.K cA E f)) (he : PE X e (tE X.K cA E g)) (ha : abOk oe = true) (hl : (apos.endLine == cpos.line) = true) (hs : isSt e = false) :
    PE X (.Call (.Attribute oe "append" apos) [e] [] cpos) (tE X.K cA E (eApp f g)) :=
  pe_w (pe_bm PySem.F.plainAttrs_list PySem.F.slot_list_append PySem.F.type_list_append mt_append ho (pa_cons he pa_nil (star_cons hs)) (ab_of ha) (by rw [star_cons hs]; rfl) hl (star_cons hs) rfl) fun σ H Q ⟨φ, env, ms, kx, k, er, hr, o, kt, xt⟩ =>
    ⟨φ, env, ms, kx, _, er, hr, o, fun φ1 ms1 H1 x v g1 hr1 vx o1 => by
      cases vx with
      | @loc n a ea =>
        obtain ⟨oa, h1, h2⟩ := hr1.at' ea
        dsimp only at o1
        rw [h1] at o1
        cases oa with
        | lst xs0 =>
          obtain ⟨vs0, q1, q2⟩ := h2
          refine ⟨.inl ⟨rfl, vs0, SqL.of q1⟩, φ1, env, ms1, kx, _, er.gr g1, hr1, o1, fun φ2 ms2 H2 y w g2 hr2 vy o2 => ?_, xt.gr g1⟩
          have ea2 := g2.ls _ _ ea
          obtain ⟨ob, h3, h4⟩ := hr2.at' ea2
          dsimp only at o2
          rw [h3] at o2
          cases ob with
          | lst xs =>
            obtain ⟨vs, q3, q4⟩ := h4
            obtain ⟨z, o2⟩ := ok_gd o2
            have wr : Wr H2 a := .inl ⟨vs, q3⟩
            have gw : Gr X.K φ2 H2 φ2 (L2.upd H2 a (.lst (vs ++ [w]))) := Gr.wr wr
            refine ⟨a, vs, w, rfl, rfl, q3, by rw [← q4.len]; exact Evl.sz_lt (of_decide_eq_true z), ?_⟩
            exact kt φ2 _ _ .non .non (g1.trans (g2.trans gw)) (hr2.wr (mo := .lst (xs ++ [y])) ea2 wr ⟨vs ++ [w], upd_same, (q4.gr gw).app (.cons (vy.gr gw) .nil)⟩) .non o2
          | _ => exact absurd o2 Ans.bot_ok
        | _ => exact absurd o1 Ans.bot_ok
      | _ => exact absurd o1 Ans.bot_ok, xt⟩
end
end Mi

/-! part MI10 -/
set_option Elab.async false
set_option linter.all false
set_option maxRecDepth 100000
set_option maxHeartbeats 4000000
namespace Mi
open PySem PySem.Spec PyProof.Rows L2 SC
section
variable {ρ : Type} [Ans ρ] {CX : CXT} {cA : Nat → Addr} {tb : Tb} {call : CallM ρ} {L : Nat}
variable {X : Cx} {E : XK} {c : CC} {r : Rec ρ}
theorem nm_of {e : Expr} {i : Nat} {g : EG ρ} (o : Okc X CX E cA tb call L c) (h : gNm c e = some (i, g)) : PG X e (tG X.K cA [i] g) ∧ isSt e = false := by
  unfold gNm at h
  split at h
  · rename_i x p
    split at h
    · rename_i j hl hi
      cases h
      refine ⟨mG_nm (by rw [o.hN]; exact o.nd) (by rw [o.hN]; exact ixOf_get hi) (.inl ?_) (.inr ?_), rfl⟩
      · rw [o.sc]; exact hl
      · rw [o.sc]; exact hl
    · rename_i j hl hi
      split at h
      · rename_i ht
        cases h
        refine ⟨mG_nm (by rw [o.hN]; exact o.nd) (by rw [o.hN]; exact ixOf_get hi) (.inr ?_) (.inl (o.fn ht _)), rfl⟩
        rw [o.sc]; exact hl
      · cases h
    · cases h
  · cases h
theorem asg_cons {e : Expr} {es : List Expr} {env : Env} (h : isSt e = false) : assignEach (e :: es) env = (false, assign e env) :: assignEach es env := by
  cases e <;> first | rfl | cases h
theorem nms_of (o : Okc X CX E cA tb call L c) : ∀ {es : List Expr} {l : List Nat} {gs : EGs ρ}, gNms c es = some (l, gs) → PGs X es (tGs X.K cA l gs) ∧ (assignEach es X.env).length = es.length ∧ (assignEach es X.env).findIdx? (·.1) = none
  | [], l, gs, h => by
    cases h
    exact ⟨mGs_nil, rfl, rfl⟩
  | e :: es, l, gs, h => by
    unfold gNms at h
    split at h
    · rename_i i g l' gs' h1 h2
      cases h
      obtain ⟨p1, p2⟩ := nm_of o h1
      obtain ⟨q1, q2, q3⟩ := nms_of o h2
      rw [asg_cons p2]
      refine ⟨mGs_cons (L := [i]) p1 q1 (by rw [asg_cons p2]; rfl), by rw [List.length_cons, q2]; rfl, ?_⟩
      rw [List.findIdx?_cons]
      simp [q3]
    · cases h
theorem tg_of {e : Expr} {l : List Nat} {g : EG ρ} (o : Okc X CX E cA tb call L c) (h : gTg c e = some (l, g)) : PG X e (tG X.K cA l g) ∧ isSt e = false := by
  unfold gTg at h
  split at h
  · split at h
    · rename_i h1
      cases h
      obtain ⟨q1, q2, q3⟩ := nms_of o h1
      exact ⟨mG_tup o.calm q1 q2 q3, rfl⟩
    · cases h
  · split at h
    · rename_i h1
      cases h
      exact nm_of o h1
    · cases h
theorem snd_itr (S : Snd CX cA tb call L r) (o : Okc X CX E cA tb call L c) (tg it : Expr) : PI X tg it (tI X.K cA E (itrM tb r c tg it)) := by
  unfold itrM
  split
  · rename_i x p a pos
    split
    · rename_i hs hn
      obtain ⟨g1, ⟨g2, g3⟩, _⟩ := o.glo hn
      subst g2
      exact mI_r1 g1 g3 (S.E o _) hs
    · rename_i hs hn
      obtain ⟨g1, ⟨g2, g3⟩, _⟩ := o.glo hn
      subst g2
      split
      · rename_i ht
        cases tg <;> first
          | (cases ht; done)
          | exact mI_en g1 g3 (S.E o _) hs
      · exact mI_B
    · exact mI_any (S.E o _)
  · split
    · rename_i hs hs2 hn
      obtain ⟨g1, ⟨g2, g3⟩, _⟩ := o.glo hn
      subst g2
      exact mI_r2 g1 g3 (S.E o _) (S.E o _) hs hs2
    · exact mI_any (S.E o _)
  · exact mI_any (S.E o _)
theorem own_ix {N : List Str} {scope : Scope} : True := trivial
theorem pts_w {ifs : List Expr} {t t' : TT} (h : PTs X ifs t) (w : ∀ σ H Q, t' σ H Q → t σ H Q) : PTs X ifs t' := ⟨fun pins s σ H Q I q => h.run pins s σ H Q I (w σ H Q q)⟩
theorem snd_ifs (S : Snd CX cA tb call L r) (o : Okc X CX E cA tb call L c) {ifs : List Expr} {t : EB ρ} (h : ifsM r c ifs = some t) : PTs X ifs (tT X.K cA E t) := by
  unfold ifsM at h
  split at h
  · cases h
    exact pts_w pts_nil fun σ H Q ⟨φ, env, ms, kx, k, er, hr, o, kt, xt⟩ => kt φ ms H true Gr.refl hr o
  · cases h
    exact pts_one (S.T o _)
  · cases h
/-- what a comprehension's parts are -/
structure LcP (tb : Tb) (r : Rec ρ) (c : CC) (elt : Expr) (gens : List Comprehension) (scope : Scope) (f : EV ρ) : Prop where
  ex : ∃ tg it ifs l g t, gens = [⟨tg, it, ifs, 0⟩] ∧ isSet it = false ∧ blkC c.N c.sc scope (ownOf c.N scope) = true ∧ gTg (ρ := ρ) ⟨c.N, relS scope c.sc, false⟩ tg = some (l, g) ∧ ifsM r ⟨c.N, relS scope c.sc, false⟩ ifs = some t ∧
    (∀ i ∈ l, i ∈ (ownOf c.N scope).map (·.2)) ∧ f = eLc (itrM tb r c tg it) ((ownOf c.N scope).map (·.2)) g t (r.E ⟨c.N, relS scope c.sc, false⟩ elt)
theorem lc_parts {elt : Expr} {gens : List Comprehension} {scope : Scope} : lcM tb r c elt gens scope = eB ∨ LcP tb r c elt gens scope (lcM tb r c elt gens scope) := by
  unfold lcM
  split
  · rename_i tg it ifs
    split
    · rename_i h1 h2
      split
      · rename_i l g t h3 h4
        split
        · rename_i h5
          refine .inr ⟨tg, it, ifs, l, g, t, rfl, h1, h2, h3, h4, fun i hi => ?_, rfl⟩
          exact of_decide_eq_true (List.all_eq_true.mp h5 i hi)
        · exact .inl rfl
      · exact .inl rfl
    · exact .inl rfl
  · exact .inl rfl
theorem blk_kind {N : List Str} {sc scope : Scope} {own : List (Str × Nat)} (h : blkC N sc scope own = true) : scope.kind = .function := (blkOk_by h).kind
theorem snd_lc (S : Snd CX cA tb call L r) (o : Okc X CX E cA tb call L c) {elt : Expr} {gens : List Comprehension} {scope : Scope} {pos : Pos} : PE X (.ListComp elt gens scope pos) (tE X.K cA E (lcM tb r c elt gens scope)) := by
  rcases lc_parts (tb := tb) (r := r) (c := c) (elt := elt) (gens := gens) (scope := scope) with h | h
  · rw [h]
    exact mE_B
  · obtain ⟨tg, it, ifs, l, g, t, e1, h1, h2, h3, h4, h5, e2⟩ := h.ex
    rw [e2]
    subst e1
    have hk := blk_kind h2
    refine mE_lc o.calm (by rw [o.hN]; exact o.nd) (snd_itr S o tg it) (by rw [o.hN, o.sc]; exact blkOk_by h2) h5 (fun s H C cl fp => (tg_of (o.blk S.hF hk s H C cl fp) h3).1) (fun s H C cl fp => snd_ifs S (o.blk S.hF hk s H C cl fp) h4) (fun s H C cl fp => S.E (o.blk S.hF hk s H C cl fp) elt) (set_of h1)
theorem snd_po (S : Snd CX cA tb call L r) (o : Okc X CX E cA tb call L c) (e : Option Expr) : PO X e (tO X.K cA E (poM r c e)) := by
  cases e with
  | none => exact mO_none
  | some e => exact mO_some (S.E o e)
theorem snd_E (S : Snd CX cA tb call L r) (o : Okc X CX E cA tb call L c) (e : Expr) : PE X e (tE X.K cA E (stepE tb call r c e)) := by
  unfold stepE
  split
  · split
    · exact mE_C pe_int fun φ H => .int _
    · exact mE_C pe_bl fun φ H => .bl _
    · exact mE_C pe_non fun φ H => .non
    · exact mE_C pe_str fun φ H => .str _
    · exact mE_B
  · split
    · rename_i hn
      obtain ⟨h1, h2, h3, h4⟩ := o.loc hn
      exact mE_var (pe_var h1 h2 h3 h4)
    · rename_i hn
      obtain ⟨g1, g2, g4, g5⟩ := o.glo hn
      exact mE_C (w := .ref (cA _)) (pe_glob (v := .ref (cA _)) g1 g2.1 rfl g4) fun φ H => .cls _
    · rename_i b hn
      obtain ⟨g1, ⟨g2, g3⟩, g4, g5⟩ := o.glo hn
      split
      · rename_i t hb
        subst g2
        refine mE_C (v := .ty t) (w := .ty t.name) ?_ fun φ H => .ty _
        cases b <;> first
          | (cases hb; done)
          | (cases hb; exact pe_bltn g1 g3 (u := .type _) rfl rfl g5 g4)
      · exact mE_B
    · exact mE_B
  · split
    · rename_i hs
      exact mE_tup (snd_arg S o _ hs)
    · exact mE_B
  · split
    · rename_i hs
      exact mE_lst (snd_arg S o _ hs)
    · exact mE_B
  · split
    · rename_i h
      exact mE_op (snd_op X _ h) (S.E o _) (S.E o _)
    · exact mE_B
  · split
    · rename_i h1 h2
      exact mE_cmpX (snd_cmp o _ h2) (S.E o _) (S.E o _) h1
    · exact mE_B
  · exact pe_one (S.E o _)
  · exact mE_and (S.E o _) (S.E o _)
  · exact mE_or (S.E o _) (S.E o _)
  · exact mE_not (S.E o _)
  · exact mE_neg (S.E o _)
  · exact mE_if (S.T o _) (S.E o _) (S.E o _)
  · exact snd_call S o
  · unfold metM
    split
    · split
      · rename_i h
        simp only [Bool.and_eq_true, Bool.not_eq_true', decide_eq_true_eq] at h
        obtain ⟨⟨⟨h1, h2⟩, h3⟩, h4⟩ := h
        subst h4
        exact mE_app (S.E o _) (S.E o _) h1 h2 h3
      · exact mE_B
    · exact mE_B
  · split
    · rename_i h
      exact mE_fld o.cls (S.E o _) (ab_of h)
    · exact mE_B
  · exact mE_sl (S.E o _) (snd_po S o _) (snd_po S o _)
  · split
    · rename_i h
      exact mE_ix (S.E o _) (S.E o _) (ix_of h)
    · exact mE_B
  · exact snd_lc S o
  · exact mE_B
theorem pw_of {op : BoolOp} {es : List Expr} {pos : Pos} {t : TT} (h : PT X (.BoolOp op es pos) t) : PW X (.BoolOp op es pos) t := ⟨fun _ pins s σ H Q I q => h.run pins s σ H Q I q⟩
theorem pl_of {e : Expr} {env : Env} (h : plT e = true) : ∀ whole, isTrue e env whole = (do let v ← whole; standAt e.pos; holding [v] (truthy v)) := by
  intro whole
  cases e <;> first
    | rfl
    | (cases h; done)
    | (rename_i op _ _; cases op <;> first | rfl | (cases h; done))
theorem snd_T (S : Snd CX cA tb call L r) (o : Okc X CX E cA tb call L c) (e : Expr) : PT X e (tT X.K cA E (stepT tb call r c e)) := by
  unfold stepT
  split
  · exact mT_not (S.T o _)
  · rename_i op a pos
    cases op with
    | And => exact (mW_and1 (S.T o a)).pt
    | Or => exact (mW_or1 (S.T o a)).pt
  · exact (mW_and (S.T o _) (pw_of (S.T o _))).pt
  · exact (mW_or (S.T o _) (pw_of (S.T o _))).pt
  · split
    · rename_i h1 h2
      exact mT_cmpX (snd_cmp o _ h2) (S.E o _) (S.E o _) h1
    · exact mT_B
  · split
    · rename_i h
      exact mT_tru (S.E o _) (pl_of h)
    · exact mT_B
end
end Mi

/-! part MI11 -/
set_option Elab.async false
set_option linter.all false
set_option maxRecDepth 100000
set_option maxHeartbeats 4000000
namespace Mi
open PySem PySem.Spec PyProof.Rows L2 SC
section
variable {ρ : Type} [Ans ρ] {CX : CXT} {cA : Nat → Addr} {tb : Tb} {call : CallM ρ} {L : Nat}
variable {X : Cx} {E : XK} {c : CC} {r : Rec ρ}
theorem nm_inv {x : Str} {p : Pos} {i : Nat} {g : EG ρ} (h : gNm c (.Name x p) = some (i, g)) : g = gN i ∧ ixOf c.N x = some i ∧ (c.sc.names.lookup x = some .local ∨ (c.sc.names.lookup x = some .cell ∧ c.top = true)) := by
  unfold gNm at h
  dsimp only at h
  split at h
  · rename_i j hl hi
    cases h
    exact ⟨rfl, hi, .inl hl⟩
  · rename_i j hl hi
    split at h
    · rename_i ht
      cases h
      exact ⟨rfl, hi, .inr ⟨hl, ht⟩⟩
    · cases h
  · cases h
theorem sAsg_B {g : EG ρ} : sAsg (eB (ρ := ρ)) g = sB := rfl
theorem comp_no {e : Expr} {t : Option Expr} {l : Nat} {env : Env} (h : isComp e = false) : swapsWith e t l env = pure false := by
  cases e <;> first | rfl | cases h
theorem snd_par (S : Snd CX cA tb call L r) (o : Okc X CX E cA tb call L c) {ts vs : List Expr} {k0 k1 : Nat} {p0 p1 pos : Pos} : PS X (.Assign [.Tuple ts k0 p0] (.Tuple vs k1 p1) pos) (tS X.K cA E (parM r c ts vs)) := by
  unfold parM
  split
  · rename_i x px y py a b
    split
    · rename_i i j hi hj
      split
      · rename_i h
        simp only [Bool.and_eq_true, Bool.not_eq_true', decide_eq_true_eq] at h
        obtain ⟨⟨⟨⟨⟨⟨⟨h1, h2⟩, h3⟩, h4⟩, h5⟩, h6⟩, h7⟩, h8⟩ := h
        exact mS_par o.calm (by rw [o.hN]; exact o.nd) (by rw [o.hN]; exact ixOf_get hi) (by rw [o.hN]; exact ixOf_get hj) h5 (by rw [o.sc]; exact h1) (by rw [o.sc]; exact h2) (snd_arg S o _ h6)
          (sw2 (by rw [o.sc]; exact o.kd) (by rw [o.sc]; exact h1) (by rw [o.sc]; exact h2) h3 h4 h6 h7 h8)
      · exact mS_B
    · exact mS_B
  · rename_i x px y py z pz a b d
    split
    · rename_i i j l hi hj hl
      split
      · rename_i h
        simp only [Bool.and_eq_true, Bool.not_eq_true', decide_eq_true_eq] at h
        obtain ⟨⟨⟨⟨⟨⟨⟨⟨⟨⟨⟨⟨⟨h1, h2⟩, h3⟩, h4⟩, h5⟩, h6⟩, h7⟩, h8⟩, h9⟩, h10⟩, h11⟩, h12⟩, h13⟩, h14⟩ := h
        exact mS_par3 o.calm (by rw [o.hN]; exact o.nd) (by rw [o.hN]; exact ixOf_get hi) (by rw [o.hN]; exact ixOf_get hj) (by rw [o.hN]; exact ixOf_get hl) h9 h10 h11 (by rw [o.sc]; exact h1) (by rw [o.sc]; exact h2) (by rw [o.sc]; exact h3) (snd_arg S o _ h12)
          (sw3 (by rw [o.sc]; exact o.kd) (by rw [o.sc]; exact h1) (by rw [o.sc]; exact h2) (by rw [o.sc]; exact h3) h4 h5 h6 h7 h8 h12 h13 h14)
      · exact mS_B
    · exact mS_B
  · exact mS_B
theorem snd_asg (S : Snd CX cA tb call L r) (o : Okc X CX E cA tb call L c) {tg e : Expr} {pos : Pos} : PS X (.Assign [tg] e pos) (tS X.K cA E (asgM tb r c tg e)) := by
  unfold asgM
  split
  · rename_i x p
    split
    · rename_i i g hg
      obtain ⟨e1, e2, e3⟩ := nm_inv hg
      subst e1
      split
      · rename_i elt gens scope lp
        split
        · rename_i h
          simp only [Bool.and_eq_true, Bool.not_eq_true', decide_eq_true_eq] at h
          obtain ⟨⟨h1, h2⟩, h3⟩ := h
          rcases lc_parts (tb := tb) (r := r) (c := c) (elt := elt) (gens := gens) (scope := scope) with q | q
          · rw [q, sAsg_B]
            exact mS_B
          · obtain ⟨tg, it, ifs, l, g, t, f1, z1, z2, z3, z4, z5, f2⟩ := q.ex
            rw [f2]
            subst f1
            have hk := blk_kind z2
            exact mS_lc o.calm (by rw [o.hN]; exact o.nd) (by rw [o.hN]; exact ixOf_get e2) (by rw [o.sc]; exact h2) (sw_true (by rw [o.sc]; exact o.kd) (by rw [o.sc]; exact h2) h1 h3)
              (snd_itr S o tg it) (by rw [o.hN, o.sc]; exact blkOk_by z2) z5 (fun s H C cl fp => (tg_of (o.blk S.hF hk s H C cl fp) z3).1) (fun s H C cl fp => snd_ifs S (o.blk S.hF hk s H C cl fp) z4) (fun s H C cl fp => S.E (o.blk S.hF hk s H C cl fp) elt) (set_of z1)
        · exact mS_B
      · split
        · rename_i hc
          have hx : L2.Loc X.env.scope x := by
            unfold L2.Loc
            rw [o.sc]
            rcases e3 with h | ⟨h, _⟩
            · exact .inl h
            · exact .inr h
          have hf : X.fn x = true ∨ X.env.scope.names.lookup x = some .local := by
            rcases e3 with h | ⟨_, h⟩
            · exact .inr (by rw [o.sc]; exact h)
            · exact .inl (o.fn h x)
          exact mS_set (by rw [o.hN]; exact o.nd) (by rw [o.hN]; exact ixOf_get e2) hx (S.E o _) (comp_no hc) hf
        · exact mS_B
    · exact mS_B
  · split
    · exact snd_par S o
    · rename_i hnt
      split
      · rename_i l g hg
        obtain ⟨p1, p2⟩ := tg_of o hg
        refine mS_asg (S.E o _) p1 ?_ ?_ (by rw [asg_cons p2]; rfl)
        · cases e <;> rfl
        · cases e <;> first
            | rfl
            | exact absurd rfl (hnt _ _ _)
      · exact mS_B
  · exact mS_fld o.cls (S.E o _) (S.E o _) (by cases e <;> rfl)
  · exact mS_B
theorem snd_st (S : Snd CX cA tb call L r) (o : Okc X CX E cA tb call L c) (s : Stmt) : PS X s (tS X.K cA E (stepS tb r c s)) := by
  unfold stepS
  split
  · exact mS_ret (S.E o _)
  · exact mS_retN
  · split
    · rename_i h
      exact mS_ex (S.E o _) (comp_no h)
    · exact mS_B
  · exact mS_if (S.T o _) (S.S o _) (S.S o _)
  · split
    · rename_i h1 h2
      obtain ⟨p1, p2⟩ := tg_of o h2
      exact mS_for o.po o.calm (snd_itr S o _ _) p1 (S.S o _) (set_of h1)
    · exact mS_B
  · exact mS_pass
  · exact mS_bk
  · exact mS_ct
  · exact snd_asg S o
  · exact mS_B
theorem snd_step (S : Snd CX cA tb call L r) : Snd CX cA tb call L (step tb call r) where
  hF := S.hF
  E := fun o e => snd_E S o e
  T := fun o e => snd_T S o e
  S := fun o ss => by
    cases ss with
    | nil => exact mS_nil
    | cons s ss =>
      rename_i X E c
      show PSs X (s :: ss) (tS X.K cA E (sSeq (stepS tb r c s) (r.S c ss)))
      exact mS_cons (snd_st S o s) (S.S o ss)
theorem snd_rec (hF : ∀ X' : Cx, Passes CX X' EF) : ∀ n : Nat, Snd CX cA tb call L (recM tb call n)
  | 0 => ⟨hF, fun _ _ => mE_B, fun _ _ => mT_B, fun _ _ => ⟨fun _ _ _ _ _ _ ⟨_, _, _, _, _, _, _, o, _⟩ => absurd o Ans.bot_ok⟩⟩
  | n + 1 => snd_step (snd_rec hF n)
end
end Mi

/-! part MI12 -/
set_option Elab.async false
set_option linter.all false
set_option maxRecDepth 100000
set_option maxHeartbeats 4000000
namespace Mi
open PySem PySem.Spec PyProof.Rows L2 SC
open PySem.SupX (MkE ExMade Sup1 Sup2 SupC mk1 mk1k mk2 mk2k)
open StX (CXUp run_bnd Bnd env0_laid un_laid)
def selV (us ws : List Value) : List Nat → Option (List Value)
  | [] => some []
  | j :: r => match (us ++ ws)[j]?, selV us ws r with
    | some x, some l => some (x :: l)
    | _, _ => none
def selW (us ws : List V) : List Nat → Option (List V)
  | [] => some []
  | j :: r => match (us ++ ws)[j]?, selW us ws r with
    | some x, some l => some (x :: l)
    | _, _ => none
theorem sel_w {K : PySem.W.Frag} {cA : Nat → Addr} {φ : Ph} {H : Hp} {xs zs : List MV} {vs ws : List V} (r : VRs K cA φ H xs vs) (q : VRs K cA φ H zs ws) : ∀ {js : List Nat} {l : List MV}, selM xs zs js = some l → ∃ m, selW vs ws js = some m ∧ VRs K cA φ H l m
  | [], l, h => by
    cases h
    exact ⟨[], rfl, .nil⟩
  | j :: js, l, h => by
    unfold selM at h
    split at h
    · rename_i x l' h1 h2
      cases h
      obtain ⟨v, e1, e2⟩ := (r.app q).get h1
      obtain ⟨m, e3, e4⟩ := sel_w r q h2
      refine ⟨v :: m, ?_, .cons e2 e4⟩
      unfold selW
      rw [e1, e3]
    · cases h
theorem sel_v {vs ws : List V} {us zs : List Value} (r : Vals vs us) (q : Vals ws zs) : ∀ {js : List Nat} {l : List V}, selW vs ws js = some l → ∃ m, selV us zs js = some m ∧ Vals l m
  | [], l, h => by
    cases h
    exact ⟨[], rfl, .nil⟩
  | j :: js, l, h => by
    unfold selW at h
    split at h
    · rename_i x l' h1 h2
      cases h
      obtain ⟨v, e1, e2⟩ := (r.append q).get h1
      obtain ⟨m, e3, e4⟩ := sel_v r q h2
      refine ⟨v :: m, ?_, .cons e2 e4⟩
      unfold selV
      rw [e1, e3]
    · cases h
/-- how a def binds, for the shapes of its calls -/
def BndF (fd : FD) (f : FuncData) (ps : List Str) (pv : Str) : Prop := ∀ s ∈ fd.shapes, ∀ us ws l : List Value, us.length = s.2.1 → ws.length = s.1.length → selV us ws s.2.2 = some l →
  l.length = ps.length ∧ bindArgs f ⟨us, s.1.zip ws⟩ = match fd.star with
    | false => pure (ps.zip l)
    | true => (newTuple (us.drop s.2.2.length) >>= fun t => pure (ps.zip l ++ [(pv, t)]))
/-- a def as it stands behind the top -/
def FnK (K : PySem.W.Frag) (a : Addr) (fd : FD) : Prop := ∃ (name qual : Str) (params : Arguments) (ps : List Str) (pv : Str) (oc : Value) (od : Option Addr) (dV kV doc pm : Value) (an : Option Addr) (cdv ct : Value) (osl : Array (Option Value)),
  K.lookup a = some ⟨oc, od, .func (PySem.W.fnOf name qual params fd.body fd.sc dV kV doc pm an cdv ct), osl⟩ ∧ PySem.W.codeIn K cdv qual = true ∧ FnScope fd.N (match fd.star with | false => ps | true => ps ++ [pv]) fd.sc ∧
    BndF fd (PySem.W.fnOf name qual params fd.body fd.sc dV kV doc pm an cdv ct) ps pv
def FnB (K : PySem.W.Frag) (tb : Tb) (i : Nat) (a : Addr) : Prop := ∃ fd, tb.fns[i]? = some fd ∧ FnK K a fd
section
variable {ρ : Type} [Ans ρ] {CX : CXT} {P : Program} {w : World} {K : PySem.W.Frag} {mg : Str → Option Value} {base : Heap} {cA : Nat → Addr} {tb : Tb} {F : Nat}
theorem find_mem {α : Type} {p : α → Bool} {l : List α} {x : α} (h : l.find? p = some x) : x ∈ l ∧ p x = true := ⟨List.mem_of_find?_eq_some h, List.find?_some h⟩
/-- what makes a def's context: rooms, the tables' facts one level lower -/
structure Low (CX : CXT) (P : Program) (w : World) (K : PySem.W.Frag) (mg : Str → Option Value) (base : Heap) (cA : Nat → Addr) (tb : Tb) (call : CallM ρ) (L : Nat) : Prop where
  hF : ∀ X' : Cx, Passes CX X' EF
  hP : ∀ (N : List Str) (qual : Str) (scope : Scope) (f : Addr) (cd : Value) (A : Around) (outer : List Env) (s : Shared) (H : Hp) (E : XK), Passes CX (cxOf CX P w K mg base N qual scope f cd A outer s H E) E
  hU : CXUp CX
  cls : ClsF K cA tb
  eqt : EqT P w K mg base CX cA tb call L
  gl : ∀ x v, lkG tb.G x = some v → GRel P w K mg base CX cA tb call L x v
theorem Low.okc {call : CallM ρ} {L : Nat} (l : Low CX P w K mg base cA tb call L) {fd : FD} {ps : List Str} (S : FnScope fd.N ps fd.sc) {qual : Str} {f : Addr} {cd : Value} {A : Around} {outer : List Env} {s : Shared} {H : Hp} {E : XK} (hg : A.guards = some []) (hr : Room (L + 3) (A.deeper (envOfC qual fd.sc s.heap.objs.size f cd))) :
    Okc (cxOf CX P w K mg base fd.N qual fd.sc f cd A outer s H E) CX E cA tb call L ⟨fd.N, fd.sc, true⟩ where
  hN := rfl
  nd := S.nd
  sc := rfl
  kd := S.kind
  calm := rfl
  gds := hg
  rm := hr
  ps := l.hP _ _ _ _ _ _ _ _ _ _
  po := PassesOwn.leaving
  fn := fun _ _ => rfl
  cls := l.cls
  eqt := l.eqt
  gl := l.gl
theorem fnV_at {L n : Nat} (l : Low CX P w K mg base cA tb (callAt (ρ := ρ) tb F n) L) {i : Nat} {a : Addr} (B : FnB K tb i a) (A : Around) (ks : List Str) (hg : A.guards = some []) (hr : Room (L + 4) A) :
    FnV A P w K mg base CX a ks (SpM K cA ks (callAt (ρ := ρ) tb F (n + 1) i)) := by
  intro outer s H us ws vs zs Q E e0 rv rz hl ⟨φ, ms, kx, k, mvs, mks, hr', vx, vz, o, kt, xt⟩
  obtain ⟨fd, hfd, name, qual, params, ps, pv, oc, od, dV, kV, doc, pm, an, cdv, ct, osl, lk, hcd, S, bn⟩ := B
  unfold callAt at o
  obtain ⟨fd', e1, o⟩ := ok_opt o
  rw [hfd] at e1
  cases e1
  obtain ⟨pl, e2, o⟩ := ok_opt o
  unfold bindM at e2
  split at e2
  · rename_i sh hsh
    obtain ⟨m1, m2⟩ := find_mem hsh
    obtain ⟨m2, m5⟩ := Bool.and_eq_true_iff.mp m2
    obtain ⟨m3, m4⟩ := Bool.and_eq_true_iff.mp m2
    have m5 := of_decide_eq_true m5
    have m3 := of_decide_eq_true m3
    have m4 := of_decide_eq_true m4
    have run : ∀ (outer : List Env) (s : Shared) (H2 : Hp) (φ2 : Ph) (ms2 : MS) (pvs : List V), HR K cA φ2 ms2 H2 → VRs K cA φ2 H2 pl pvs → ms2.hp = ms.hp → ms2.n = ms.n → KT K cA φ2 H2 k Q → XT K cA φ2 H2 kx E → (hrm : Room (L + 3) (A.deeper (envOfC qual fd.sc s.heap.objs.size a cdv))) →
        ∃ t, PSs (cxOf CX P w K mg base fd.N qual fd.sc a cdv A outer s H2 E) fd.body t ∧ t { nx := fun _ H' => Q .non H', rt := Q } (L2.start fd.N pvs) H2 := by
      intro outer s H2 φ2 ms2 pvs h1 h2 h3 h4 h5 h6 hrm
      refine ⟨_, (snd_rec (L := L) (call := callAt (ρ := ρ) tb F n) l.hF F).S (l.okc S hg hrm) fd.body, φ2, _, ms, kx, _, EnR.start (N := fd.N) h2, ?_, o, ⟨?_, h5, ?_, ?_⟩, h6⟩
      · have e : ms2 = ms := by
          cases ms2
          cases ms
          cases h3
          cases h4
          rfl
        rw [← e]
        exact h1
      · exact fun φ' ms' H' e σ g hr q ok => h5 φ' ms' H' .non .non g hr .non ok
      · exact fun φ' ms' H' e σ g hr q ok => absurd ok Ans.bot_ok
      · exact fun φ' ms' H' e σ g hr q ok => absurd ok Ans.bot_ok
    have lu : us.length = sh.2.1 := by rw [m4, ← rv.length, vx.len]
    have lw : ws.length = sh.1.length := by rw [m3]; exact hl
    cases hst : fd.star with
    | false =>
      rw [hst] at e2 S
      dsimp only at e2 S
      obtain ⟨pvs, q1, q2⟩ := sel_w vx vz e2
      obtain ⟨pus, q3, q4⟩ := sel_v rv rz q1
      obtain ⟨b1, b2⟩ := bn sh m1 us ws pus lu lw q3
      rw [hst] at b2
      dsimp only at b2
      rw [m3] at b2
      exact LamX.run_ofS (k := L + 3) lk hcd S hr e0 (BindsTo.of_eq b2) q4 (q4.length.trans b1) fun hrm => run outer s H φ ms pvs hr' q2 rfl rfl kt xt hrm
    | true =>
      rw [hst] at e2 S
      dsimp only at e2 S
      split at e2
      · rename_i l0 hsel
        cases e2
        obtain ⟨pvs, q1, q2⟩ := sel_w vx vz hsel
        obtain ⟨pus, q3, q4⟩ := sel_v rv rz q1
        obtain ⟨b1, b2⟩ := bn sh m1 us ws pus lu lw q3
        rw [hst] at b2
        dsimp only at b2
        rw [m3] at b2
        have hn : H s.heap.objs.size = Option.none := e0.hok.fresh (Nat.le_refl _)
        have hle : us.length - sh.2.2.length ≤ sizeLine := by
          have : (1000 : Nat) < sizeLine := small1000 (Nat.le_refl _)
          omega
        refine run_bnd (k := L + 3) lk hcd S hr e0 (G := fun xs H2 => ∃ p, H p = Option.none ∧ xs = pvs ++ [V.ref p] ∧ H2 = L2.upd H p (.tup (vs.drop sh.2.2.length))) (fun A' Ex Q' h => ?_) fun s2 H2 xs ⟨p, hp, ex, eH⟩ hrm => ?_
        · rw [b2]
          have r2 : Vals (vs.drop sh.2.2.length) (us.drop sh.2.2.length) := rv.drop _
          have hz : (vs.drop sh.2.2.length).length ≤ sizeLine := by rw [r2.length, List.length_drop]; exact hle
          refine wpAny_bind (wpAny_newTuple (wpAny_pure ?_) (by rw [← r2.length]; exact hz))
          have new : ObjOk P w (L2.upd H s.heap.objs.size (.tup (vs.drop sh.2.2.length))) (s.heap.push ({ cls := .type "tuple", data := .seq (us.drop sh.2.2.length).toArray } : Obj)) s.heap.objs.size (.tup (vs.drop sh.2.2.length)) := ⟨hz, _, r2, ⟨_, Heap.get?_push_size _ rfl, rfl, _, rfl⟩⟩
          have un := un_laid (fs := frs outer) (s := s) (o := ({ cls := .type "tuple", data := .seq (us.drop sh.2.2.length).toArray } : Obj)) (u := .tup (vs.drop sh.2.2.length)) hn
          have z := h _ _ (pvs ++ [V.ref s.heap.objs.size]) (pus ++ [Value.ref s.heap.objs.size]) (env0_laid e0 new) un rfl (fun e s' => l.hU outer s H _ _ E e s' un (fun b o q => Heap.get?_push_of_some _ q) rfl) (q4.append (.cons rfl .nil))
            (by rw [List.length_append, List.length_append, ← b1, q4.length] <;> rfl) ⟨_, hn, rfl, rfl⟩
          rw [List.zip_append b1.symm] at z
          exact z
        · subst ex eH
          have sm := Same.newS (o := HO.tup (vs.drop sh.2.2.length)) hp
          exact run outer s2 _ φ ms _ (hr'.same sm) ((q2.gr (Gr.same sm)).app (.cons (.tup (.inl (.inl upd_same)) ((vx.drop _).gr (Gr.same sm))) .nil)) rfl rfl (kt.gr (Gr.same sm)) (xt.gr (Gr.same sm)) hrm
      · cases e2
  · cases e2
end
end Mi

/-! part MI13 -/
set_option Elab.async false
set_option linter.all false
set_option maxRecDepth 100000
set_option maxHeartbeats 4000000
namespace Mi
open PySem PySem.Spec PyProof.Rows L2 SC
open PySem.SupX (MkE ExMade Sup1 Sup2 SupC mk1 mk1k mk2 mk2k)
open StX (CXUp)
section
variable {ρ : Type} [Ans ρ] {CX : CXT} {P : Program} {w : World} {K : PySem.W.Frag} {mg : Str → Option Value} {base : Heap} {cA : Nat → Addr} {tb : Tb} {F : Nat}
/-- what stands behind the top, for the tables -/
def GBas (P : Program) (w : World) (K : PySem.W.Frag) (mg : Str → Option Value) (base : Heap) (CX : CXT) (cA : Nat → Addr) (tb : Tb) (x : Str) : GV → Prop
  | .blt b => x = b.name ∧ mg x = none
  | .fn i => ∃ f, mg x = some (.ref f) ∧ PySem.W.keepIn K (.ref f) = true ∧ FnB K tb i f
  | .cls c => mg x = some (.ref (cA c)) ∧ PySem.W.keepIn K (.ref (cA c)) = true ∧ (∀ f, tb.ck[c]? = some (.ex1 f) → ∃ fI cc cda cn, Sup1 P K (cA c) fI cc cda cn f) ∧ (∀ f k, tb.ck[c]? = some (.ex2 f k) → ∃ fI cc cda cn, Sup2 P K (cA c) fI cc cda cn f k) ∧
      ∀ i, tb.ck[c]? = some (.pl i) → ∃ f, Mk K (cA c) f ∧ FnB K tb i f
  | .draw => ∃ f, mg x = some (.ref f) ∧ PySem.W.keepIn K (.ref f) = true ∧ ∀ A, A.guards = some [] → Room 1 A → FnV A P w K mg base CX f [] spDr
structure Bas (P : Program) (w : World) (K : PySem.W.Frag) (mg : Str → Option Value) (base : Heap) (CX : CXT) (cA : Nat → Addr) (tb : Tb) : Prop where
  hF : ∀ X' : Cx, Passes CX X' EF
  hP : ∀ (N : List Str) (qual : Str) (scope : Scope) (f : Addr) (cd : Value) (A : Around) (outer : List Env) (s : Shared) (H : Hp) (E : XK), Passes CX (cxOf CX P w K mg base N qual scope f cd A outer s H E) E
  hU : CXUp CX
  cls : ClsF K cA tb
  eq : ∀ p ∈ tb.eq, ∃ a, EqF K (cA p.1) a ∧ FnB K tb p.2 a
  bo : ∀ p ∈ tb.bo, ∃ a, BoF K (cA p.1) a ∧ FnB K tb p.2 a
  sb : ∀ p ∈ tb.sb, (tv cA p.1.1 == tv cA p.1.2) = false ∧ PySem.W.subIn K (tv cA p.1.1) (tv cA p.1.2) = some p.2
  gl : ∀ x v, lkG tb.G x = some v → GBas P w K mg base CX cA tb x v
theorem Bas.fnV (B : Bas P w K mg base CX cA tb) : ∀ n : Nat, Low CX P w K mg base cA tb (callAt (ρ := ρ) tb F n) (4 * n + 1) ∧ ∀ i a, FnB K tb i a → ∀ A ks, A.guards = some [] → Room (4 * n + 1) A → FnV A P w K mg base CX a ks (SpM K cA ks (callAt (ρ := ρ) tb F n i)) := by
  have low : ∀ n : Nat, (∀ i a, FnB K tb i a → ∀ A ks, A.guards = some [] → Room (4 * n + 1) A → FnV A P w K mg base CX a ks (SpM K cA ks (callAt (ρ := ρ) tb F n i))) → Low CX P w K mg base cA tb (callAt (ρ := ρ) tb F n) (4 * n + 1) := by
    intro n h
    refine ⟨B.hF, B.hP, B.hU, B.cls, ⟨fun p hp => ?_, fun p hp => ?_, B.sb⟩, fun x v hx => ?_⟩
    · obtain ⟨a, q1, q2⟩ := B.eq p hp
      exact ⟨a, q1, fun A ks hA hR => h _ _ q2 A ks hA hR⟩
    · obtain ⟨a, q1, q2⟩ := B.bo p hp
      exact ⟨a, q1, fun A ks hA hR => h _ _ q2 A ks hA hR⟩
    · have g := B.gl x v hx
      cases v with
      | blt b => exact g
      | fn i =>
        obtain ⟨f, q1, q2, q3⟩ := g
        exact ⟨f, q1, q2, fun A ks hA hR => h _ _ q3 A ks hA hR⟩
      | cls c =>
        obtain ⟨q1, q2, q3, q4, q5⟩ := g
        refine ⟨q1, q2, q3, q4, fun i hi => ?_⟩
        obtain ⟨f, q6, q7⟩ := q5 i hi
        exact ⟨f, q6, fun A ks hA hR => h _ _ q7 A ks hA hR⟩
      | draw =>
        obtain ⟨f, q1, q2, q3⟩ := g
        exact ⟨f, q1, q2, fun A hA hR => q3 A hA (hR.mono (by omega))⟩
  have all : ∀ n : Nat, ∀ i a, FnB K tb i a → ∀ A ks, A.guards = some [] → Room (4 * n + 1) A → FnV A P w K mg base CX a ks (SpM K cA ks (callAt (ρ := ρ) tb F n i)) := by
    intro n
    induction n with
    | zero => exact fun i a _ A ks _ _ outer s H us ws vs zs Q E e0 rv rz hl ⟨φ, ms, kx, k, mvs, mks, hr, vx, vz, o, kt, xt⟩ => absurd o Ans.bot_ok
    | succ n ih =>
      intro i a hb A ks hA hR
      exact fnV_at (low n ih) hb A ks hA hR
  exact fun n => ⟨low n (all n), all n⟩
end
end Mi

/-! part MI14 -/
set_option Elab.async false
set_option linter.all false
set_option maxRecDepth 100000
set_option maxHeartbeats 4000000
namespace Mi
open PySem PySem.Spec PyProof.Rows L2 SC
open PySem.SupX PySem.W PySem.HandSPX
/-! ### what stands behind the top: packs, one by one -/
/-- a def -/
structure FnP (K : Frag) (st : Stmt) (fd : FD) (a : Addr) : Prop where
  kp : keepIn K (.ref a) = true
  fn : FnK K a fd
theorem fn_mk {K : Frag} {name qual : Str} {st : Stmt} {fd : FD} {ps : List Str} {pv : Str} {a : Addr} {oc : Value} {od an : Option Addr} {osl : Array (Option Value)} {kV doc pm cdv ct : Value}
    (S : FnScope fd.N (match fd.star with | false => ps | true => ps ++ [pv]) fd.sc) (hb : ∀ (kV doc pm : Value) (an : Option Addr) (cdv ct : Value), BndF fd (fnOf name qual (defArgs st) fd.body fd.sc .none kV doc pm an cdv ct) ps pv) (e1 : fd.body = defBody st) (e2 : fd.sc = defScope st)
    (l : K.lookup a = some ⟨oc, od, .func (fnOf name qual (defArgs st) (defBody st) (defScope st) .none kV doc pm an cdv ct), osl⟩) (c : codeIn K cdv qual = true) (k : keepIn K (.ref a) = true) : FnP K st fd a := by
  refine ⟨k, name, qual, defArgs st, ps, pv, oc, od, .none, kV, doc, pm, an, cdv, ct, osl, ?_, c, S, hb _ _ _ _ _ _⟩
  rw [e1, e2]
  exact l
/-- an exception's class with one field -/
structure ExP1 (P : Program) (K : Frag) (mg : Str → Option Value) (cn f : Str) (C : Addr) : Prop where
  mgC : mg cn = some (.ref C)
  kp : keepIn K (.ref C) = true
  sup : ∃ fI cc cda, Sup1 P K C fI cc cda cn f
  ex : ExF K C
  na : findIn K (.ref C) f = some none
structure ExP2 (P : Program) (K : Frag) (mg : Str → Option Value) (cn f k : Str) (C : Addr) : Prop where
  mgC : mg cn = some (.ref C)
  kp : keepIn K (.ref C) = true
  sup : ∃ fI cc cda, Sup2 P K C fI cc cda cn f k
  ex : ExF K C
  na : findIn K (.ref C) f = some none
  na2 : findIn K (.ref C) k = some none
theorem ex1_mk {P : Program} {K : Frag} {h : Heap} {mg : Str → Option Value} {cn f : Str} (X : K.In h) (G : h.Ns mainGlobals mg) {C fI cc cda N : Addr} {nm q : Str} {bs bm : List Value} {sn : List Str} {sub : List Value} {ab : Bool} {col : Option Bool} {dd : Option Addr} {k0 k1 k2 k3 k5 : Option Value}
    {cl : Value} {cld : Option Addr} {csl : Array (Option Value)} {ccl : Value} {cdd : Option Addr} {vs : Array Value} {ccs : Array (Option Value)} {file : Str} {tf : Tok} {oc : Value} {od : Option Addr} {doc pm : Value} {an : Option Addr} {ct : Value} {osl : Array (Option Value)} {p0 p1 a b c d1 d e q1 q2 q3 q4 : Pos} {cd : ClassData}
    (nf : f = "part" ∨ f = "word" ∨ f = "name")
    (aC : nsIn K mainGlobals cn = some (some (.ref C))) (kC : keepIn K (.ref C) = true)
    (hC : K.lookup C = some (excClassObj nm q C N bs bm true sn sub ab col dd k0 k1 k2 k3 k5 "ValueError.__new__")) (hbm : refsVE bm = true)
    (sa : findIn K (.ref C) "__setattr__" = some (some (.builtin "object.__setattr__"))) (iC : findIn K (.ref C) "__init__" = some (some (.ref fI))) (tC : typeIn K (.ref fI) = some (.type "function"))
    (lF : K.lookup fI = some ⟨oc, od, .func (ksFn "__init__" (cn ++ ".__init__") (argsOf [("self", p0), (f, p1)]) (body1 f a b c d1 d e q1 q2 q3 q4) (scopeOf ["self", f]) .none .none doc pm an (.ref cda) ct cc), osl⟩)
    (lc : K.lookup cc = some ⟨cl, cld, .cell (some (.ref C)), csl⟩) (ld : K.lookup cda = some ⟨ccl, cdd, .fields vs, ccs⟩) (v2 : vs[2]? = some (.str file tf)) (hf : ((P.main.file : Str) == file) = true)
    (sup : ks_superIn K C C "__init__" = some (some (.builtin "ValueError.__init__"))) (sVE : subIn K (.ref C) (.type "ValueError") = some true) (own : mroIn K C (.ref C) = some true) (opq : nsIn K cStatics "thirdparty.any" = some none) (noS : nsIn K mainGlobals "super" = some none)
    (top : (P.main.scope.names.lookup ("super" : Str)).isSome = false) (noF : findIn K (.ref C) f = some none) (cod : codeIn K (.ref cda) (cn ++ ".__init__") = true) (lin : (c.endLine == d.line) = true)
    (xcl : clsIn K C = some cd) (ga : findIn K (.ref C) "__getattribute__" = some (some (.builtin "BaseException.__getattribute__"))) (gg : findIn K (.ref C) "__getattr__" = some none) (exC : subIn K (.ref C) (.type "BaseException") = some true) (hd : hasDictIn K C = true)
    (ca : findIn K (.ref C) "__class__" = some (some (.builtin "object.__class__"))) (sp : specialIn K (.builtin "object.__class__") "__get__" = some (some (.builtin "getset_descriptor.__get__"))) (tk : takesIn K (.builtin "object.__class__") = some true) (mo : mroIn K C (.type "object") = some true) :
    ExP1 P K mg cn f C :=
  ⟨mg_of X G aC, kC, ⟨fI, cc, cda, ⟨⟨⟨_, _, _, _, _, _, _, _, _, _, _, _, _, _, _, hC, hbm⟩, sa, iC, tC, ⟨_, _, _, lc⟩, ⟨_, _, _, _, _, _, ld, v2, hf⟩, sup, sVE, own, opq, noS, top⟩, noF, nf, ⟨_, _, _, _, _, _, _, _, _, _, _, _, _, _, _, _, _, _, _, lF, cod, lin⟩⟩⟩,
    ⟨by rw [xcl]; rfl, ga, gg, exC, hd, ca, sp, tk, mo⟩, noF⟩
theorem ex2_mk {P : Program} {K : Frag} {h : Heap} {mg : Str → Option Value} {cn f k : Str} (X : K.In h) (G : h.Ns mainGlobals mg) {C fI cc cda N : Addr} {nm q : Str} {bs bm : List Value} {sn : List Str} {sub : List Value} {ab : Bool} {col : Option Bool} {dd : Option Addr} {k0 k1 k2 k3 k5 : Option Value}
    {cl : Value} {cld : Option Addr} {csl : Array (Option Value)} {ccl : Value} {cdd : Option Addr} {vs : Array Value} {ccs : Array (Option Value)} {file : Str} {tf : Tok} {oc : Value} {od : Option Addr} {doc pm : Value} {an : Option Addr} {ct : Value} {osl : Array (Option Value)} {p0 p1 p2 a b c d1 d2 d e q1 q2 q3 q4 r1 r2 r3 r4 : Pos} {cd : ClassData}
    (nf : (f = "line" ∧ k = "word") ∨ (f = "what" ∧ k = "most"))
    (aC : nsIn K mainGlobals cn = some (some (.ref C))) (kC : keepIn K (.ref C) = true)
    (hC : K.lookup C = some (excClassObj nm q C N bs bm true sn sub ab col dd k0 k1 k2 k3 k5 "ValueError.__new__")) (hbm : refsVE bm = true)
    (sa : findIn K (.ref C) "__setattr__" = some (some (.builtin "object.__setattr__"))) (iC : findIn K (.ref C) "__init__" = some (some (.ref fI))) (tC : typeIn K (.ref fI) = some (.type "function"))
    (lF : K.lookup fI = some ⟨oc, od, .func (ksFn "__init__" (cn ++ ".__init__") (argsOf [("self", p0), (f, p1), (k, p2)]) (body2 f k a b c d1 d2 d e q1 q2 q3 q4 r1 r2 r3 r4) (scopeOf ["self", f, k]) .none .none doc pm an (.ref cda) ct cc), osl⟩)
    (lc : K.lookup cc = some ⟨cl, cld, .cell (some (.ref C)), csl⟩) (ld : K.lookup cda = some ⟨ccl, cdd, .fields vs, ccs⟩) (v2 : vs[2]? = some (.str file tf)) (hf : ((P.main.file : Str) == file) = true)
    (sup : ks_superIn K C C "__init__" = some (some (.builtin "ValueError.__init__"))) (sVE : subIn K (.ref C) (.type "ValueError") = some true) (own : mroIn K C (.ref C) = some true) (opq : nsIn K cStatics "thirdparty.any" = some none) (noS : nsIn K mainGlobals "super" = some none)
    (top : (P.main.scope.names.lookup ("super" : Str)).isSome = false) (noF : findIn K (.ref C) f = some none) (noK : findIn K (.ref C) k = some none) (cod : codeIn K (.ref cda) (cn ++ ".__init__") = true) (lin : (c.endLine == d.line) = true)
    (xcl : clsIn K C = some cd) (ga : findIn K (.ref C) "__getattribute__" = some (some (.builtin "BaseException.__getattribute__"))) (gg : findIn K (.ref C) "__getattr__" = some none) (exC : subIn K (.ref C) (.type "BaseException") = some true) (hd : hasDictIn K C = true)
    (ca : findIn K (.ref C) "__class__" = some (some (.builtin "object.__class__"))) (sp : specialIn K (.builtin "object.__class__") "__get__" = some (some (.builtin "getset_descriptor.__get__"))) (tk : takesIn K (.builtin "object.__class__") = some true) (mo : mroIn K C (.type "object") = some true) :
    ExP2 P K mg cn f k C :=
  ⟨mg_of X G aC, kC, ⟨fI, cc, cda, ⟨⟨⟨_, _, _, _, _, _, _, _, _, _, _, _, _, _, _, hC, hbm⟩, sa, iC, tC, ⟨_, _, _, lc⟩, ⟨_, _, _, _, _, _, ld, v2, hf⟩, sup, sVE, own, opq, noS, top⟩, noF, noK, nf, ⟨_, _, _, _, _, _, _, _, _, _, _, _, _, _, _, _, _, _, _, _, _, _, _, _, _, lF, cod, lin⟩⟩⟩,
    ⟨by rw [xcl]; rfl, ga, gg, exC, hd, ca, sp, tk, mo⟩, noF, noK⟩
/-- a plain class -/
structure PlP (K : Frag) (mg : Str → Option Value) (cn : Str) (C : Addr) : Prop where
  mgC : mg cn = some (.ref C)
  kp : keepIn K (.ref C) = true
  ins : InsF K C
theorem pl_mk {K : Frag} {h : Heap} {mg : Str → Option Value} {cn : Str} (X : K.In h) (G : h.Ns mainGlobals mg) {C : Addr} (aC : nsIn K mainGlobals cn = some (some (.ref C))) (kC : keepIn K (.ref C) = true) (pg : plainGet K C Str.empty = true) (hd : hasDictIn K C = true) (po : plainOver K C = true)
    (sa : findIn K (.ref C) "__setattr__" = some (some (.builtin "object.__setattr__"))) (ha : findIn K (.ref C) "__class__" = some (some (.builtin "object.__class__"))) (hn : specialIn K (.builtin "object.__class__") "__get__" = some (some (.builtin "getset_descriptor.__get__"))) (htk : takesIn K (.builtin "object.__class__") = some true)
    (hm : mroIn K C (.type "object") = some true) : PlP K mg cn C := ⟨mg_of X G aC, kC, ⟨⟨pg, hd, po, sa⟩, ha, hn, htk, hm⟩⟩
/-! ### the law's end, where no repr is under way -/
theorem law_callG {P : Program} {w : World} {K : Frag} {mg mb : Str → Option Value} {CX : CXT} {fa a : Addr} {fd : FuncData} {x : Str} {sp : Sp} {s₁ : Shared} {vs : List Value} {ns : List Int}
    (KX : K.In s₁.heap) (hns : s₁.heap.Ns mainGlobals mg) (hb : s₁.heap.Ns builtinsNs mb) (hbb : ∀ x : Str, x ≠ "__name__" → mb x = bootBuiltins x) (hlim : s₁.heap.NoLimit) (hg : s₁.gens = #[])
    (ha : s₁.heap.get? a = some { cls := .type "list", data := .seq vs.toArray }) (hi : IntsAre vs ns) (hl : ns.length ≤ sizeLine)
    (F : ∀ base : Heap, K.In base → base.Ns mainGlobals mg → FnAt callerA P w K mg base CX fa fd [x] sp) (hbind : ∀ (s : Shared) (u : Value), BindsTo s fd ⟨[u], []⟩ [(x, u)])
    (hsp : ∀ H : Hp, Only H → SqL K H a (ns.map V.int) → sp [.ref a] H (fun v _ => v = .bl true) fun _ _ _ => False)
    (hCX : ∀ H e s', CX [] H s₁ (fun _ _ _ => False) e s' → False) :
    codeAny (model P w) callerA (.call (.ref fa) ⟨[.ref a], []⟩) (fun r s' => r = .ok (.ret (.bool true)) ∧ OldK s₁.heap s'.heap ∧ s'.os = s₁.os ∧ AllBare s'.gens) s₁ := by
  have rv := vals_ints hi
  -- nothing but the script is tracked, and that only where the written part has it not
  obtain ⟨H, hO, hS, hok, hA, hK⟩ : ∃ H : Hp, Only H ∧ SqL K H a (ns.map V.int) ∧ HOk P w H s₁.heap ∧ (∀ b, H b ≠ none → b = a) ∧ (H a ≠ none → K.lookup a = none) := by
    cases hk : K.lookup a with
    | some o =>
      have e := KX a o hk
      rw [ha] at e
      cases e
      exact ⟨fun _ => none, fun _ => .inl rfl, .inr ⟨_, vs.toArray, _, hk, rfl, rfl, rfl, by rw [List.size_toArray, hi.length]; exact hl, by simpa using rv⟩, fun b u z => absurd z (by simp), fun b z => absurd rfl z, fun z => absurd rfl z⟩
    | none =>
      refine ⟨fun b => if b = a then some (.frz { cls := .type "list", data := .seq vs.toArray } (.lst (ns.map V.int))) else none, fun b => ?_, .inl (.inr ⟨{ cls := .type "list", data := .seq vs.toArray }, if_pos rfl⟩), fun b u z => ?_, fun b z => ?_, fun _ => rfl⟩
      · by_cases e : b = a
        · exact .inr ⟨_, _, if_pos e⟩
        · exact .inl (if_neg e)
      · by_cases e : b = a
        · have z' := (if_pos e).symm.trans z
          cases z'
          subst e
          exact ⟨ha, by rw [List.length_map]; exact hl, vs, _, rv, ha⟩
        · exact absurd ((if_neg e).symm.trans z) (by simp)
      · by_cases e : b = a
        · exact e
        · exact absurd (if_neg e) z
  have nsK : ∀ {b : Addr} {m : Str → Option Value}, s₁.heap.Ns b m → (hidT s₁.heap H).Ns b m := fun {b m} ⟨o, es, ep, e, d, r⟩ => ⟨o, es, ep, hidT_get e (by
    cases q : H b with
    | none => rfl
    | some u =>
      obtain rfl := hA b (by rw [q]; simp)
      rw [ha] at e
      cases e
      cases d), d, r⟩
  have hKb : K.In (hidT s₁.heap H) := fun b o e => hidT_get (KX b o e) (by
    cases q : H b with
    | none => rfl
    | some u =>
      obtain rfl := hA b (by rw [q]; simp)
      rw [hK (by rw [q]; simp)] at e
      cases e)
  have e0 : Env0 P w K mg (hidT s₁.heap H) callerA [] s₁ H := ⟨rfl, ⟨hKb, nsK hns, ⟨mb, nsK hb, hbb⟩, let ⟨mc, h1, h2⟩ := hlim; ⟨mc, nsK h1, h2⟩⟩, fun b o e => of_hidT e, Nat.le_of_eq (hidT_size _ _), trivial, fun b hb => absurd (show b ∈ ([] : List Addr) from hb) (by simp), hok, .of_eq hg⟩
  refine codeAny_mono ((F _ hKb (nsK hns)).run [] s₁ H ⟨[.ref a], []⟩ [.ref a] [.ref a] _ _ e0 (hbind s₁ (.ref a)) (.cons rfl .nil) (hsp H hO hS)) fun r s' h => ?_
  match r, h with
  | .error e, h => exact (hCX H e s' h).elim
  | .ok (.ret u), h =>
    obtain ⟨v, H', os, bare, un, hok', r', q⟩ := h
    obtain rfl : v = .bl true := q
    obtain rfl : u = Value.bool true := r'
    refine ⟨rfl, OldK.of_keep fun b o e => ?_, os, bare⟩
    cases q : H b with
    | none => exact un.keep b o e q (fun z => absurd (show b ∈ ([] : List Addr) from z) (by simp)) (by simp)
    | some u =>
      rcases hO b with z | ⟨ob, xs, z⟩
      · rw [q] at z; cases z
      · obtain ⟨e1, _⟩ := hok b _ z
        obtain ⟨e2, _⟩ := hok' b _ (un.frzs b ob _ z)
        rw [e] at e1
        cases e1
        exact e2
theorem walkG {l : OpenLaw} {n : Nat} {q : Program} {loose : List Str} {XP : (Str → Option Value) → Heap → Prop} {YP : World → Heap → Prop} {d : DefRec} {K : Params → Frag} {CX : CXT} {sp : Frag → Sp} {x : Str}
    (hn : l.most = some n) (hn2 : n ≤ sizeLine) (hdf : d.params.defaults = []) (hY : ∀ (w : World) (h : Heap), YP w h → (K w.params).In h)
    (F : ∀ (w : World) (mg : Str → Option Value) (fa : Addr) (h : Heap), (K w.params).In h → h.Ns mainGlobals mg → mg d.name = some (.ref fa) →
      ∃ fd : FuncData, (∀ (s : Shared) (u : Value), BindsTo s fd ⟨[u], []⟩ [(x, u)]) ∧ ∀ base : Heap, (K w.params).In base → base.Ns mainGlobals mg → FnAt callerA l.prog w (K w.params) mg base CX fa fd [x] (sp (K w.params)))
    (hsp : ∀ (K : Frag) (H : Hp) (a : Addr) (ns : List Int), ns.length ≤ n → Only H → SqL K H a (ns.map V.int) → sp K [.ref a] H (fun v _ => v = .bl true) fun _ _ _ => False)
    (hCX : ∀ (H : Hp) (s : Shared) (e : Value) (s' : Shared), CX [] H s (fun _ _ _ => False) e s' → False) :
    WalkO q loose XP YP l.row.toRowW d [] (fun f vs => PySem.call f vs) := by
  refine Att.attach_call hn hdf fun w s₀ s₁ mg mb fa o pm cd doc a vs ns G Y ho hd hcd hmg hobj hints hlen hg => ?_
  have KX := hY w _ Y
  obtain ⟨fd, hb, hF⟩ := F w mg fa _ KX G.T.g hmg
  exact law_callG KX G.T.g G.T.b G.T.builtins G.T.nolimit hg hobj hints (Nat.le_trans hlen hn2) hF hb (fun H hO hS => hsp _ H a ns hlen hO hS) fun H e s' => hCX H s₁ e s'
end Mi

/-! part MI15 -/
set_option Elab.async false
set_option linter.all false
set_option maxRecDepth 100000
set_option maxHeartbeats 4000000
namespace Mi
open PySem PySem.Spec PyProof.Rows L2 SC
open PySem.SupX PySem.W
end Mi
namespace SC
open PySem PySem.Spec PyProof.Rows L2
def spPen (K : PySem.W.Frag) : Sp := fun vs H Q _ => ∃ (a : Addr) (ns : List Int), vs = [.ref a] ∧ SqL K H a (ns.map V.int) ∧ ns.length ≤ 63 ∧ ∀ (p c : Addr) (H' : Hp), Same H H' → H p = none → H c = none → Mi.PenC H' p c 0 → Q (.ref p) H'
def spDraw (K : PySem.W.Frag) : Sp := fun vs H Q _ => ∃ (p c : Addr) (many : Int) (n : Nat), vs = [.ref p, .int many] ∧ Mi.PenC H p c n ∧ n ≤ 100000 ∧ 0 < many ∧ many.natAbs < 2 ^ 1000 ∧
  ∀ (i : Int) (H' : Hp), 0 ≤ i → i < many → But p H H' → Mi.PenC H' p c (n + 1) → Q (.int i) H'
end SC
namespace Mi
open PySem PySem.Spec PyProof.Rows L2 SC
open PySem.SupX PySem.W
theorem fa_nil {α : Type} {p : α → Prop} : ∀ x ∈ ([] : List α), p x := fun _ h => by cases h
theorem fa_cons {α : Type} {p : α → Prop} {a : α} {l : List α} (h : p a) (t : ∀ x ∈ l, p x) : ∀ x ∈ a :: l, p x := fun x hx => by
  rcases List.mem_cons.mp hx with e | e
  · rw [e]; exact h
  · exact t x e
section
variable {CX : CXT} {P : Program} {w : World} {K : Frag} {mg : Str → Option Value} {base : Heap} {cA : Nat → Addr} {tb : Tb}
theorem gl_nil {GB : Str → GV → Prop} : ∀ x v, lkG [] x = some v → GB x v := fun _ _ h => by cases h
theorem gl_cons {GB : Str → GV → Prop} {y : Str} {u : GV} {r : List (Str × GV)} (h : GB y u) (t : ∀ x v, lkG r x = some v → GB x v) : ∀ x v, lkG ((y, u) :: r) x = some v → GB x v := fun x v e => by
  unfold lkG at e
  split at e
  · rename_i q
    cases e
    rw [← q]
    exact h
  · exact t x v e
theorem gb_ex1 {c : Nat} {cn f : Str} {C : Addr} (e : ExP1 P K mg cn f C) (hc : cA c = C) (hk : tb.ck[c]? = some (.ex1 f)) : GBas P w K mg base CX cA tb cn (.cls c) := by
  subst hc
  refine ⟨e.mgC, e.kp, fun g q => ?_, fun g k q => ?_, fun i q => ?_⟩
  · rw [hk] at q
    cases q
    obtain ⟨fI, cc, cda, T⟩ := e.sup
    exact ⟨fI, cc, cda, cn, T⟩
  · rw [hk] at q; cases q
  · rw [hk] at q; cases q
theorem gb_ex2 {c : Nat} {cn f k : Str} {C : Addr} (e : ExP2 P K mg cn f k C) (hc : cA c = C) (hk : tb.ck[c]? = some (.ex2 f k)) : GBas P w K mg base CX cA tb cn (.cls c) := by
  subst hc
  refine ⟨e.mgC, e.kp, fun g q => ?_, fun g k q => ?_, fun i q => ?_⟩
  · rw [hk] at q; cases q
  · rw [hk] at q
    cases q
    obtain ⟨fI, cc, cda, T⟩ := e.sup
    exact ⟨fI, cc, cda, cn, T⟩
  · rw [hk] at q; cases q
theorem gb_no {c : Nat} {cn : Str} {C : Addr} (h1 : mg cn = some (.ref C)) (h2 : keepIn K (.ref C) = true) (hc : cA c = C) (hk : tb.ck[c]? = some .no) : GBas P w K mg base CX cA tb cn (.cls c) := by
  subst hc
  refine ⟨h1, h2, fun g q => ?_, fun g k q => ?_, fun i q => ?_⟩ <;> (rw [hk] at q; cases q)
theorem gb_pl {c i : Nat} {cn : Str} {C a : Addr} {st : Stmt} {fd : FD} (e : PlP K mg cn C) (hm : makesIn K C = true) (hi : findIn K (.ref C) "__init__" = some (some (.ref a))) (hf : isFn K (.ref a) = true) (fn : FnP K st fd a) (hfd : tb.fns[i]? = some fd) (hc : cA c = C) (hk : tb.ck[c]? = some (.pl i)) :
    GBas P w K mg base CX cA tb cn (.cls c) := by
  subst hc
  refine ⟨e.mgC, e.kp, fun g q => ?_, fun g k q => ?_, fun j q => ?_⟩
  · rw [hk] at q; cases q
  · rw [hk] at q; cases q
  · rw [hk] at q
    cases q
    exact ⟨a, ⟨hm, hi, hf, e.kp⟩, fd, hfd, fn.fn⟩
theorem gb_fn {x : Str} {i : Nat} {a : Addr} {st : Stmt} {fd : FD} (h : mg x = some (.ref a)) (fn : FnP K st fd a) (hfd : tb.fns[i]? = some fd) : GBas P w K mg base CX cA tb x (.fn i) := ⟨a, h, fn.kp, fd, hfd, fn.fn⟩
/-- the draw, from its promise -/
theorem draw_fnV {f : Addr} {fd : FuncData} (F : FnOk P w K mg base CX0 1 f fd ["pen", "many"] (spDraw K)) (hb : Binds K fd ["pen", "many"] []) (A : Around) (hr : Room 1 A) : FnV A P w K mg base CX0 f [] spDr := by
  intro outer s H us ws vs zs Q E e0 r rz hl h
  obtain ⟨p, c, many, n, e1, e2, h1, h2, h3, h4, h5⟩ := h
  have hz : ws = [] := List.eq_nil_of_length_eq_zero hl
  subst hz
  have hl2 : us.length = 2 := by rw [← r.length, e1]; rfl
  have z := F.run A outer s H ⟨us, []⟩ us vs Q E hr e0 (by
    have q := hb s us (e0.mod.kin.keeps fun b o e => (e0.bs b o e).1) (by simpa using hl2)
    simpa using q) r ⟨p, c, many, n, e1, h1, h2, h3, h4, h5⟩
  exact z
theorem all_isi {l : List ((MTy × MTy) × Bool)} (h : (l.all fun p => decide (kitOne K (tv cA p.1.1) (tv cA p.1.2) = some p.2)) = true) : ∀ p ∈ l, kitOne K (tv cA p.1.1) (tv cA p.1.2) = some p.2 := fun p hp => of_decide_eq_true (List.all_eq_true.mp h p hp)
theorem all_sb {l : List ((MTy × MTy) × Bool)} (h : (l.all fun p => !(tv cA p.1.1 == tv cA p.1.2) && decide (subIn K (tv cA p.1.1) (tv cA p.1.2) = some p.2)) = true) : ∀ p ∈ l, (tv cA p.1.1 == tv cA p.1.2) = false ∧ subIn K (tv cA p.1.1) (tv cA p.1.2) = some p.2 := fun p hp => by
  have q := List.all_eq_true.mp h p hp
  simp only [Bool.and_eq_true, Bool.not_eq_true', decide_eq_true_eq] at q
  exact q
theorem cxOf_p0 {N : List Str} {qual : Str} {scope : Scope} {f : Addr} {cd : Value} {A : Around} {outer : List Env} {s : Shared} {H : Hp} {E : XK} : Passes CX0 (cxOf CX0 P w K mg base N qual scope f cd A outer s H E) E := fun _ _ _ _ _ _ _ h => h.elim
end
end Mi

/-! part PN -/
set_option Elab.async false
set_option linter.all false
set_option maxRecDepth 100000
set_option maxHeartbeats 4000000
namespace SC
open PySem PySem.Spec PyProof.Rows L2

/-! ### the pen: a list of the cells, how many were begun, what is left of a great one -/
def Small (z : Int) : Prop := z.natAbs < 2 ^ 1048600
theorem dp_ints {K : PySem.W.Frag} {H : Hp} : ∀ ns : List Int, DpAll K H (ns.map V.int) (ns.map PyData.int)
  | [] => .nil
  | n :: r => .cons (.int n) (dp_ints r)
theorem canLay_ints : ∀ ns : List Int, PyData.canLayAll0 (ns.map PyData.int) = true
  | [] => rfl
  | n :: r => by
    show (PyData.canLay0 (.int n) && PyData.canLayAll0 (r.map PyData.int)) = true
    rw [canLay_ints r]
    rfl
theorem depth_ints : ∀ ns : List Int, PyData.depthAll (ns.map PyData.int) ≤ 1
  | [] => by simp [PyData.depthAll]
  | n :: r => by
    have := depth_ints r
    simp only [List.map_cons, PyData.depthAll, PyData.depth]
    omega
theorem shaped_ints (ns : List Int) : SeqAt.shaped (.list (ns.map PyData.int)) = true := by
  unfold SeqAt.shaped
  have := depth_ints ns
  rw [Bool.and_eq_true]
  refine ⟨by simpa [PyData.canLay0] using canLay_ints ns, decide_eq_true ?_⟩
  simp only [PyData.depth]
  omega
theorem atI_int {ns : List Int} {i : Int} (h0 : 0 ≤ i) (h1 : i < ns.length) : ∃ z, atI (ns.map V.int) i = some (.int z) := by
  obtain ⟨j, rfl⟩ : ∃ j : Nat, i = j := ⟨i.toNat, by omega⟩
  have hj : j < ns.length := by omega
  exact ⟨ns[j], atI_nat (by simp [hj])⟩
namespace k00
def top (i : Nat) : Stmt := PySem.Challenge.pw_samecloth_k00_errors_and_papers.main.body.getD i (.Pass ⟨0, 0, 0, 0⟩)
abbrev sPen : Stmt := top 18
abbrev sDraw : Stmt := top 19
abbrev sPick : Stmt := top 20
/-- the built-ins that the pen needs -/
structure Blt (mg : Str → Option Value) : Prop where
  int : mg "int" = none
  len : mg "len" = none
  abs : mg "abs" = none
section
variable {P : Program} {w : World} {K : PySem.W.Frag} {mg : Str → Option Value} {base : Heap}
theorem scPen : FnScope ["script", "cell"] ["script"] (defScope sPen) := ⟨rfl, rfl, rfl, by decide +kernel, rfl, by decide +kernel, by decide +kernel⟩
theorem ok_pen {f : Addr} {fd : FuncData} (F : Fun K "_law_pen" "_law_pen" sPen f fd) (T : Blt mg) : FnOk P w K mg base CX0 1 f fd ["script"] (spPen K) := by
  refine F.ok scPen (fun vs H Q E h => ?_) (fun cdv A outer s H vs Q E hr h => ?_)
  · obtain ⟨a, ns, rfl, _⟩ := h
    rfl
  · obtain ⟨a, ns, rfl, hS, hl, k⟩ := h
    refine ⟨_, pss_one (ps_ret (pe_lst (pa_cons (pe_lc (own := [("cell", 1)]) (g := gName 1) (tt := tYes) rfl scPen.nd (pi_list (pe_slice sl_list (pv 0) po_none (po_some pe_int))) (blkOk_by (own := [("cell", 1)]) (N := ["script", "cell"]) (sc := defScope sPen) (by decide +kernel))
      (fun _ _ _ _ _ => pg_name (i := 1) scPen.nd rfl (Or.inl rfl)) (fun _ _ _ _ _ => pts_nil) (fun _ _ _ _ _ => pe_callTy call_int1 (by rfl) T.int (by decide +kernel) (pa_cons (pv 1) pa_nil))) (pa_cons pe_int (pa_cons pe_int pa_nil))))), ?_⟩
    have sl63 : cutV (ns.map V.int) none (some 63) = ns.map V.int := by
      unfold cutV
      have e0 : HT.sIx (ns.map V.int).length 0 none = 0 := rfl
      have e1 : HT.sIx (ns.map V.int).length (ns.map V.int).length (some 63) = (ns.map V.int).length := (HT.sIx_nat _ _ 63).trans (by rw [List.length_map]; omega)
      rw [e0, e1, List.drop_zero]
      exact List.take_of_length_le (Nat.le_refl _)
    refine ⟨_, rfl, _, rfl, a, _, rfl, hS, fun q hq => ⟨q, rfl, ⟨_, SqL.of upd_same⟩, ?_⟩⟩
    rw [sl63]
    intro D hD
    have s1 : Same H (upd H q (.lst (ns.map V.int))) := Same.newS hq
    refine lc_list (xs := ns.map V.int) (fun i H2 => Same (upd H q (.lst (ns.map V.int))) H2 ∧ H2 D = some (.lst ((ns.take i).map V.int))) ⟨Same.newS hD, upd_same⟩ (fun i H2 _ p => p.1.seq (K := K) (SqL.of upd_same)) ?_ ?_
    · rintro i x H2 hi ⟨p1, p2⟩
      obtain ⟨z, hz, rfl⟩ : ∃ z, ns[i]? = some z ∧ x = V.int z := by
        rw [List.getElem?_map] at hi
        cases e : ns[i]? with
        | none => rw [e] at hi; cases hi
        | some z => rw [e] at hi; exact ⟨z, rfl, (Option.some.inj hi).symm⟩
      have hil : i < ns.length := (List.getElem?_eq_some_iff.mp hz).1
      refine ⟨rfl, ?_⟩
      unfold tYes
      dsimp only
      rw [if_pos rfl]
      refine ⟨_, rfl, .inl ⟨z, rfl, _, p2, ?_, ?_, ?_⟩⟩
      · rw [List.length_map, List.length_take]
        exact small1000 (by omega)
      · exact fun b o e => by
          rw [upd_ne (fun zz => by rw [zz, hD] at e; cases e)]
          exact p1 b o e
      · rw [upd_same, List.take_succ, hz]
        simp
    · rintro H2 ⟨p1, p2⟩
      rw [List.length_map, List.take_length] at p2
      refine ⟨by show 3 ≤ sizeLine; decide, fun p hp => ?_⟩
      have hcp : D ≠ p := ne_of_none p2 hp
      refine k p D _ ((s1.trans p1).trans (Same.newS hp)) ((s1.trans p1).free hp) (s1.free hD) ⟨0, 0, ns, upd_same, by rw [upd_ne hcp]; exact p2, hcp, hl, Int.le_refl 0, Int.le_refl 0, Int.le_refl 0⟩
theorem scDraw : FnScope ["pen", "many", "rest", "at", "cell", "mixed"] ["pen", "many"] (defScope sDraw) := ⟨rfl, rfl, rfl, by decide +kernel, rfl, by decide +kernel, by decide +kernel⟩
theorem ok_draw {f : Addr} {fd : FuncData} (F : Fun K "_law_draw" "_law_draw" sDraw f fd) (T : Blt mg) : FnOk P w K mg base CX0 1 f fd ["pen", "many"] (spDraw K) := by
  refine F.ok scDraw (fun vs H Q E h => ?_) (fun cdv A outer s H vs Q E hr h => ?_)
  · obtain ⟨p, c, many, n, rfl, _⟩ := h
    rfl
  · obtain ⟨p, c, many, n, rfl, pen, hn, h0, hm, k⟩ := h
    have hu := hr.units
    refine ⟨_, pss_cons (ps_if (pt_cmpR op_gt (pe_ix ix_list (pv 0) pe_int (fun _ _ => rfl)) pe_int (nomark _))
        (pss_cons (ps_set (i := 2) scDraw.nd rfl (Or.inl rfl) (pe_callTy call_int1 (by rfl) T.int (by decide +kernel) (pa_cons (pe_ix ix_list (pv 0) pe_int (fun _ _ => rfl)) pa_nil)))
        (pss_cons (ps_asg (pe_op op_fdivW (pv 2) (pv 1)) (pg_sub (pv 0) pe_int set_list))
        (pss_one (ps_ret (pe_op op_mod (pe_callTy call_int1 (by rfl) T.int (by decide +kernel) (pa_cons (pv 2) pa_nil)) (pv 1)))))) pss_nil)
      (pss_cons (ps_set (i := 3) scDraw.nd rfl (Or.inl rfl) (pe_ix ix_list (pv 0) pe_int (fun _ _ => rfl)))
      (pss_cons (ps_asg (pe_op op_add (pv 3) pe_int) (pg_sub (pv 0) pe_int set_list))
      (pss_cons (ps_set (i := 4) scDraw.nd rfl (Or.inl rfl) (pe_op op_add (pe_op op_mul pe_int (pv 3)) pe_int))
      (Evl.pss_cut (ps_if (pt_cmpR (op_neD hu) (pe_ix ix_list (pv 0) pe_int (fun _ _ => rfl)) (pe_lst pa_nil) (nomark _))
        (pss_one (ps_set (i := 4) scDraw.nd rfl (Or.inl rfl) (pe_ix ix_list (pe_ix ix_list (pv 0) pe_int (fun _ _ => rfl)) (pe_op op_mod (pe_callTy call_int1 (by rfl) T.int (by decide +kernel) (pa_cons (pv 3) pa_nil)) (pe_callB call_len (by rfl) T.len (by decide +kernel) (pa_cons (pe_ix ix_list (pv 0) pe_int (fun _ _ => rfl)) pa_nil))) (fun _ _ => rfl)))) pss_nil)
      (pss_cons (ps_if (PW.pt (pw_and (pt_cmpR op_lt (pv 3) (pe_callB call_len (by rfl) T.len (by decide +kernel) (pa_cons (pe_ix ix_list (pv 0) pe_int (fun _ _ => rfl)) pa_nil)) (nomark _))
          (pw_and1 (pt_cmpR op_ge (pe_callB call_abs (by rfl) T.abs (by decide +kernel) (pa_cons (pv 4) pa_nil)) (pe_op op_pow pe_int pe_int) (nomark _)))))
        (pss_cons (ps_set (i := 2) scDraw.nd rfl (Or.inl rfl) (pe_op op_add (pe_op op_mul pe_int (pe_op op_sub (pe_callB call_abs (by rfl) T.abs (by decide +kernel) (pa_cons (pv 4) pa_nil)) (pe_op op_pow pe_int pe_int)))
            (pe_callTy call_int1 (by rfl) T.int (by decide +kernel) (pa_cons (pe_cmpR op_lt (pv 4) pe_int (nomark _)) pa_nil))))
        (pss_cons (ps_asg (pe_op op_fdivW (pe_callTy call_int1 (by rfl) T.int (by decide +kernel) (pa_cons (pv 2) pa_nil)) (pv 1)) (pg_sub (pv 0) pe_int set_list))
        (pss_one (ps_ret (pe_op op_mod (pe_callTy call_int1 (by rfl) T.int (by decide +kernel) (pa_cons (pv 2) pa_nil)) (pv 1)))))) pss_nil)
      (pss_cons (ps_set (i := 5) scDraw.nd rfl (Or.inl rfl) (pe_op op_mod (pe_callTy call_int1 (by rfl) T.int (by decide +kernel) (pa_cons (pe_op op_pow (pe_op op_add (pe_op op_add (pe_op op_mod (pe_callTy call_int1 (by rfl) T.int (by decide +kernel) (pa_cons (pv 4) pa_nil)) pe_int) (pe_op op_mul pe_int (pv 3))) pe_int) pe_int) pa_nil)) pe_int))
      (pss_cons (ps_set (i := 5) scDraw.nd rfl (Or.inl rfl) (pe_op op_mod (pe_callTy call_int1 (by rfl) T.int (by decide +kernel) (pa_cons (pe_op op_pow (pe_op op_add (pe_op op_add (pe_op op_mul (pv 5) (pe_op op_add (pe_op op_mul pe_int (pv 3)) pe_int)) (pe_op op_mul (pe_op op_mul pe_int (pv 3)) (pv 3))) pe_int) pe_int) pa_nil)) pe_int))
      (pss_one (ps_ret (pe_op op_mod (pe_callTy call_int1 (by rfl) T.int (by decide +kernel) (pa_cons (pe_op op_fdiv (pv 5) pe_int) pa_nil)) (pv 1))))))))))), ?_⟩
    obtain ⟨at0, rest, ns, hp, hcE, hcp, hl, ha0, han, hr0⟩ := pen
    have hc : SqL K H c (ns.map V.int) := SqL.of hcE
    have hdiv : ∀ i : Int, CDivW i many := fun i => wide_div h0 hm (by decide) (by decide)
    have hmod : ∀ i : Int, 0 ≤ i % many ∧ i % many < many := fun i => ⟨Int.emod_nonneg _ (by omega), Int.emod_lt_of_pos _ h0⟩
    refine ⟨_, rfl, p, _, 2, .int rest, rfl, rfl, SqL.of hp, rfl, rest, 0, rfl, rfl, _, rfl, ?_⟩
    refine ite2 (fun hb => ?_) (fun hb => ?_)
    · refine ⟨_, rfl, p, _, 2, .int rest, rfl, rfl, SqL.of hp, rfl, .inl ⟨rest, rfl, ?_⟩⟩
      refine ⟨_, rfl, _, rfl, rest, many, rfl, rfl, hdiv _, _, rfl, p, _, 2, 2, rfl, rfl, hp, rfl, ?_⟩
      refine ⟨_, rfl, .inl ⟨rest, rfl, _, rfl, rest, many, rfl, rfl, h0, ?_⟩⟩
      exact k _ _ (hmod rest).1 (hmod rest).2 But.upd ⟨at0, rest / many, ns, upd_same, (But.upd : But p H _) _ _ hcp hcE, hcp, hl, ha0, by omega, Int.ediv_nonneg hr0 (Int.le_of_lt h0)⟩
    · refine ⟨_, rfl, p, _, 1, .int at0, rfl, rfl, SqL.of hp, rfl, ?_⟩
      refine ⟨_, rfl, at0, 1, rfl, rfl, _, rfl, p, _, 1, 1, rfl, rfl, hp, rfl, ?_⟩
      obtain ⟨H1, eH1⟩ : ∃ H1, H1 = upd H p (.lst (([V.ref c, V.int at0, V.int rest] : List V).set 1 (V.int (at0 + 1)))) := ⟨_, rfl⟩
      have b1 : But p H H1 := by rw [eH1]; exact But.upd
      have hp1 : H1 p = some (.lst [V.ref c, V.int (at0 + 1), V.int rest]) := by rw [eH1]; exact upd_same
      rw [← eH1]
      have hc1 := sql_but b1 hcp hc
      refine ⟨_, rfl, 83417, at0, rfl, rfl, .inl ⟨by decide, by decide⟩, _, 25219, rfl, rfl, ?_⟩
      -- if pen[0] != []
      refine ⟨fun σ' H' => ∃ cell : Int, σ' = [some (.ref p), some (.int many), none, some (.int at0), some (.int cell), none] ∧ Same H1 H', ?_, ?_⟩
      refine ⟨_, rfl, p, _, 0, .ref c, rfl, rfl, SqL.of hp1, rfl, by show 0 ≤ sizeLine; omega, fun l hlf => ?_⟩
      obtain ⟨H2, eH2⟩ : ∃ H2, H2 = upd H1 l (.lst []) := ⟨_, rfl⟩
      have s2 : Same H1 H2 := by rw [eH2]; exact Same.newS hlf
      have hl2 : H2 l = some (.lst []) := by rw [eH2]; exact upd_same
      rw [← eH2]
      have hp2 := s2 _ _ hp1
      have hc2 := s2.seq (K := K) hc1
      have b2 : But p H H2 := b1.trans (But.of s2)
      refine ⟨.list (ns.map PyData.int), .list [], .lst hc2 (dp_ints ns), .lst (SqL.of hl2) .nil, shaped_ints ns, by decide, _, rfl, ?_⟩
      · refine ite2 (fun hk => ?_) (fun hk => ?_)
        · have hn0 : ns ≠ [] := fun z => by rw [z] at hk; exact absurd hk (by decide)
          have hpos : (0 : Int) < ns.length := by
            have := List.length_pos_iff.mpr hn0
            omega
          obtain ⟨z, hz⟩ := atI_int (ns := ns) (i := at0 % (ns.length : Int)) (Int.emod_nonneg _ (by omega)) (Int.emod_lt_of_pos _ hpos)
          refine ⟨_, rfl, p, _, 0, .ref c, rfl, rfl, SqL.of hp2, rfl, _, rfl, .inl ⟨at0, rfl, ?_⟩⟩
          refine ⟨_, rfl, p, _, 0, .ref c, rfl, rfl, SqL.of hp2, rfl, _, ns.length, rfl, .inl ⟨_, hc2, by rw [List.length_map]⟩, ?_⟩
          refine ⟨at0, (ns.length : Int), rfl, rfl, hpos, c, _, _, .int z, rfl, rfl, hc2, hz, ?_⟩
          exact ⟨z, rfl, s2⟩
        · exact ⟨83417 * at0 + 25219, rfl, s2⟩
      · rintro σ' H3 ⟨cell, rfl, s3⟩
        have hp3 := s3 _ _ hp1
        have hc3 := s3.seq (K := K) hc1
        have b3 : But p H H3 := b1.trans (But.of s3)
        have e18 : (10 : Int) ^ (18 : Int).toNat = 1000000000000000000 := by decide
        have fin : ∀ (i : Int) (H4 : Hp), 0 ≤ i → i < many → But p H3 H4 → (∃ r : Int, 0 ≤ r ∧ H4 p = some (.lst [V.ref c, V.int (at0 + 1), V.int r])) → Q (.int i) H4 := fun i H4 i0 i1 b4 ⟨r, r0, h4⟩ =>
          k i H4 i0 i1 (b3.trans b4) ⟨at0 + 1, r, ns, h4, (b3.trans b4) _ _ hcp hcE, hcp, hl, by omega, by omega, r0⟩
        -- if at < len(pen[0]) and abs(cell) >= 10 ** 18
        refine ⟨_, rfl, _, rfl, p, _, 0, .ref c, rfl, rfl, SqL.of hp3, rfl, _, ns.length, rfl, .inl ⟨_, hc3, by rw [List.length_map]⟩, at0, (ns.length : Int), rfl, rfl, _, rfl, ?_⟩
        have mixed : (tSeq (tAsg (tOp (rI (fun _ j => 0 < j) fun i j => V.int (i % j)) (tCB (fun xs H Q => (∃ i, xs = [V.int i] ∧ Q (V.int i) H) ∨ ∃ k, xs = [V.bl k] ∧ Q (V.int (if k = true then 1 else 0)) H) (tCons (tOp (rI CPow fun i j => V.int (i ^ j.toNat)) (tOp (rI0 fun i j => V.int (i + j)) (tOp (rI0 fun i j => V.int (i + j)) (tOp (rI (fun _ j => 0 < j) fun i j => V.int (i % j)) (tCB (fun xs H Q => (∃ i, xs = [V.int i] ∧ Q (V.int i) H) ∨ ∃ k, xs = [V.bl k] ∧ Q (V.int (if k = true then 1 else 0)) H) (tCons (tVar 4) tNil)) (tC (.int 2147483549))) (tOp (rI CMul fun i j => V.int (i * j)) (tC (.int 71429)) (tVar 3))) (tC (.int 2521))) (tC (.int 5))) tNil)) (tC (.int 2147483563))) (gName 5)) (tSeq (tAsg (tOp (rI (fun _ j => 0 < j) fun i j => V.int (i % j)) (tCB (fun xs H Q => (∃ i, xs = [V.int i] ∧ Q (V.int i) H) ∨ ∃ k, xs = [V.bl k] ∧ Q (V.int (if k = true then 1 else 0)) H) (tCons (tOp (rI CPow fun i j => V.int (i ^ j.toNat)) (tOp (rI0 fun i j => V.int (i + j)) (tOp (rI0 fun i j => V.int (i + j)) (tOp (rI CMul fun i j => V.int (i * j)) (tVar 5) (tOp (rI0 fun i j => V.int (i + j)) (tOp (rI CMul fun i j => V.int (i * j)) (tC (.int 2)) (tVar 3)) (tC (.int 2521)))) (tOp (rI CMul fun i j => V.int (i * j)) (tOp (rI CMul fun i j => V.int (i * j)) (tC (.int 83417)) (tVar 3)) (tVar 3))) (tC (.int 71429))) (tC (.int 3))) tNil)) (tC (.int 2147483587))) (gName 5)) (tRet (tOp (rI (fun _ j => 0 < j) fun i j => V.int (i % j)) (tCB (fun xs H Q => (∃ i, xs = [V.int i] ∧ Q (V.int i) H) ∨ ∃ k, xs = [V.bl k] ∧ Q (V.int (if k = true then 1 else 0)) H) (tCons (tOp (rI CDiv fun i j => V.int (i / j)) (tVar 5) (tC (.int 64))) tNil)) (tVar 1)))) : TS)
            { nx := fun _ H' => Q .non H', rt := Q } [some (.ref p), some (.int many), none, some (.int at0), some (.int cell), none] H3 := by
          have c0 : 0 ≤ cell % 2147483549 := Int.emod_nonneg _ (by decide)
          have c1 : cell % 2147483549 < 2147483549 := Int.emod_lt_of_pos _ (by decide)
          obtain ⟨m1, hm1⟩ : ∃ m1 : Int, m1 = (cell % 2147483549 + 71429 * at0 + 2521) ^ (5 : Int).toNat % 2147483563 := ⟨_, rfl⟩
          have m0 : 0 ≤ m1 := by rw [hm1]; exact Int.emod_nonneg _ (by decide)
          have m2 : m1 < 2147483563 := by rw [hm1]; exact Int.emod_lt_of_pos _ (by decide)
          have hq : m1 * (2 * at0 + 2521) ≤ 2147483563 * 202521 := Int.mul_le_mul (by omega) (by omega) (by omega) (by omega)
          have hq0 : 0 ≤ m1 * (2 * at0 + 2521) := Int.mul_nonneg m0 (by omega)
          have hr1 : 83417 * at0 * at0 ≤ 8341700000 * 100000 := Int.mul_le_mul (by omega) (by omega) ha0 (by omega)
          have hr2 : 0 ≤ 83417 * at0 * at0 := Int.mul_nonneg (by omega) ha0
          refine ⟨_, rfl, .inl ⟨cell, rfl, cell, 2147483549, rfl, rfl, (by decide : (0 : Int) < 2147483549), _, rfl, 71429, at0, rfl, rfl, .inl ⟨by decide, by decide⟩, _, _, rfl, rfl, _, 2521, rfl, rfl, _, 5, rfl, rfl, ⟨by decide, by decide, by omega⟩, ?_⟩⟩
          refine .inl ⟨_, rfl, _, 2147483563, rfl, rfl, (by decide : (0 : Int) < 2147483563), ?_⟩
          dsimp only
          rw [← hm1]
          refine ⟨_, rfl, _, rfl, 2, at0, rfl, rfl, .inl ⟨by decide, by decide⟩, _, 2521, rfl, rfl, m1, _, rfl, rfl, .inl ⟨by omega, by omega⟩, ?_⟩
          refine ⟨_, rfl, 83417, at0, rfl, rfl, .inl ⟨by decide, by decide⟩, _, rfl, _, at0, rfl, rfl, .inl ⟨by omega, by omega⟩, _, _, rfl, rfl, _, 71429, rfl, rfl, _, 3, rfl, rfl, ⟨by decide, by decide, by omega⟩, ?_⟩
          refine .inl ⟨_, rfl, _, 2147483587, rfl, rfl, (by decide : (0 : Int) < 2147483587), ?_⟩
          refine ⟨_, rfl, _, 64, rfl, rfl, ⟨by decide, by decide⟩, .inl ⟨_, rfl, _, rfl, _, many, rfl, rfl, h0, ?_⟩⟩
          exact fin _ _ (hmod _).1 (hmod _).2 (But.refl _ _) ⟨rest, hr0, hp3⟩
        refine ite2 (fun hk => ?_) (fun hk => ?_)
        · refine ⟨_, rfl, cell, rfl, 10, 18, rfl, rfl, ⟨by decide, by decide, by decide⟩, _, _, rfl, rfl, _, rfl, ?_⟩
          refine ite2 (fun hk2 => ?_) (fun hk2 => ?_)
          · have big : (1000000000000000000 : Int) ≤ (if cell < 0 then -cell else cell) := by
              have := of_decide_eq_true hk2
              rw [e18] at this
              exact this
            obtain ⟨kb, hkb⟩ : ∃ kb : Int, kb = (if decide (cell < 0) = true then 1 else 0) := ⟨_, rfl⟩
            have kb0 : 0 ≤ kb := by rw [hkb]; split <;> decide
            refine ⟨_, rfl, cell, rfl, 10, 18, rfl, rfl, ⟨by decide, by decide, by decide⟩, _, _, rfl, rfl, 2, _, rfl, rfl, .inl ⟨by decide, by decide⟩, ?_⟩
            refine ⟨_, rfl, cell, 0, rfl, rfl, .inr ⟨_, rfl, _, _, rfl, rfl, ?_⟩⟩
            rw [← hkb, e18]
            have r0 : 0 ≤ 2 * ((if cell < 0 then -cell else cell) - 1000000000000000000) + kb := by omega
            refine ⟨_, rfl, .inl ⟨_, rfl, _, rfl, _, many, rfl, rfl, hdiv _, _, rfl, p, _, 2, 2, rfl, rfl, hp3, rfl, ?_⟩⟩
            refine ⟨_, rfl, .inl ⟨_, rfl, _, rfl, _, many, rfl, rfl, h0, ?_⟩⟩
            exact fin _ _ (hmod _).1 (hmod _).2 But.upd ⟨_, Int.ediv_nonneg r0 (Int.le_of_lt h0), upd_same⟩
          · exact mixed
        · exact mixed
end
end k00
end SC

/-! part KB -/
set_option Elab.async false
set_option linter.all false
set_option maxRecDepth 100000
set_option maxHeartbeats 4000000
namespace Mi.k00
open PySem PySem.Spec PyProof.Rows L2 SC Mi
open PySem.W (Frag keepIn makesIn findIn isFn kitOne subIn)
abbrev top := SC.k00.top
def clsBody : Stmt → List Stmt
  | .ClassDef _ _ _ body _ _ _ _ _ _ _ => body
  | _ => []
def meth (i j : Nat) : Stmt := (clsBody (top i)).getD j (.Pass ⟨0, 0, 0, 0⟩)
-- tables of the law, printed by gen2.py
def fd0 : FD := ⟨["value", "one"], 1, false, [([], 1, [0])], defScope (top 1), defBody (top 1)⟩ -- copied
def fd1 : FD := ⟨["self", "word", "parts"], 2, true, [([], 2, [0, 1]), ([], 3, [0, 1]), ([], 4, [0, 1]), (["word"], 1, [0, 1])], defScope (meth 2 0), defBody (meth 2 0)⟩ -- Paper.__init__
def fd2 : FD := ⟨["self", "other"], 2, false, [([], 2, [0, 1])], defScope (meth 2 1), defBody (meth 2 1)⟩ -- Paper.__eq__
def fd3 : FD := ⟨["self"], 1, false, [([], 1, [0])], defScope (meth 2 2), defBody (meth 2 2)⟩ -- Paper.__bool__
def fd4 : FD := ⟨["self"], 1, false, [([], 1, [0])], defScope (meth 3 0), defBody (meth 3 0)⟩ -- Denial.__bool__
def fd5 : FD := ⟨["pen", "some"], 2, false, [([], 2, [0, 1])], defScope (top 20), defBody (top 20)⟩ -- _law_pick
def fd6 : FD := ⟨["error", "found"], 1, false, [([], 1, [0])], defScope (top 21), defBody (top 21)⟩ -- _law_kinds_of
def fd7 : FD := ⟨["pen", "at", "error", "named", "rest", "some", "told", "value", "spot"], 1, false, [([], 1, [0])], defScope (top 22), defBody (top 22)⟩ -- _law_errors_right
def fd8 : FD := ⟨["value", "one"], 1, false, [([], 1, [0])], defScope (top 23), defBody (top 23)⟩ -- _law_tuples
def fd9 : FD := ⟨["script", "bare", "denial", "kept", "none", "one", "other", "paper", "pen", "some", "turn", "word", "lap"], 1, false, [([], 1, [0])], defScope (top 24), defBody (top 24)⟩ -- law
def tb : Tb where
  G := [("copied", .fn 0), ("_law_pick", .fn 5), ("_law_kinds_of", .fn 6), ("_law_errors_right", .fn 7), ("_law_tuples", .fn 8), ("_law_draw", .draw), ("Paper", .cls 0), ("Denial", .cls 1), ("ClothError", .cls 2), ("BadGarment", .cls 3), ("BadNumber", .cls 4), ("BadValue", .cls 5), ("BadPlace", .cls 6), ("BadPaper", .cls 7), ("Misfit", .cls 8), ("Nothing", .cls 9), ("BadCommand", .cls 10), ("NoName", .cls 11), ("BadText", .cls 12), ("TooMany", .cls 13), ("len", .blt .len), ("isinstance", .blt .isinstance), ("repr", .blt .repr), ("tuple", .blt .tuple), ("list", .blt .list), ("int", .blt .int), ("abs", .blt .abs), ("bool", .blt .bool), ("range", .blt .range), ("enumerate", .blt .enumerate), ("ValueError", .blt .ValueError)]
  ck := [.pl 1, .pl 1, .no, .ex1 "part", .ex1 "part", .ex1 "part", .ex1 "part", .ex1 "part", .ex1 "part", .ex1 "part", .ex1 "word", .ex1 "name", .ex2 "line" "word", .ex2 "what" "most"]
  na := [(0, "word"), (0, "parts"), (1, "word"), (1, "parts"), (3, "part"), (4, "part"), (5, "part"), (6, "part"), (7, "part"), (8, "part"), (9, "part"), (10, "word"), (11, "name"), (12, "line"), (12, "word"), (13, "what"), (13, "most")]
  isi := [((.ty .NoneType, .ty .list), false), ((.ty .NoneType, .ty .tuple), false), ((.ty .NoneType, .cls 3), false), ((.ty .NoneType, .cls 4), false), ((.ty .NoneType, .cls 5), false), ((.ty .NoneType, .cls 6), false), ((.ty .NoneType, .cls 7), false), ((.ty .NoneType, .cls 0), false), ((.ty .NoneType, .cls 8), false), ((.ty .NoneType, .cls 9), false), ((.ty .NoneType, .cls 10), false), ((.ty .NoneType, .cls 11), false), ((.ty .NoneType, .cls 12), false), ((.ty .NoneType, .cls 13), false), ((.ty .NoneType, .cls 2), false), ((.ty .NoneType, .ty .ValueError), false), ((.ty .bool, .ty .list), false), ((.ty .bool, .ty .tuple), false), ((.ty .bool, .cls 3), false), ((.ty .bool, .cls 4), false), ((.ty .bool, .cls 5), false), ((.ty .bool, .cls 6), false), ((.ty .bool, .cls 7), false), ((.ty .bool, .cls 0), false), ((.ty .bool, .cls 8), false), ((.ty .bool, .cls 9), false), ((.ty .bool, .cls 10), false), ((.ty .bool, .cls 11), false), ((.ty .bool, .cls 12), false), ((.ty .bool, .cls 13), false), ((.ty .bool, .cls 2), false), ((.ty .bool, .ty .ValueError), false), ((.ty .int, .ty .list), false), ((.ty .int, .ty .tuple), false), ((.ty .int, .cls 3), false), ((.ty .int, .cls 4), false), ((.ty .int, .cls 5), false), ((.ty .int, .cls 6), false), ((.ty .int, .cls 7), false), ((.ty .int, .cls 0), false), ((.ty .int, .cls 8), false), ((.ty .int, .cls 9), false), ((.ty .int, .cls 10), false), ((.ty .int, .cls 11), false), ((.ty .int, .cls 12), false), ((.ty .int, .cls 13), false), ((.ty .int, .cls 2), false), ((.ty .int, .ty .ValueError), false), ((.ty .str, .ty .list), false), ((.ty .str, .ty .tuple), false), ((.ty .str, .cls 3), false), ((.ty .str, .cls 4), false), ((.ty .str, .cls 5), false), ((.ty .str, .cls 6), false), ((.ty .str, .cls 7), false), ((.ty .str, .cls 0), false), ((.ty .str, .cls 8), false), ((.ty .str, .cls 9), false), ((.ty .str, .cls 10), false), ((.ty .str, .cls 11), false), ((.ty .str, .cls 12), false), ((.ty .str, .cls 13), false), ((.ty .str, .cls 2), false), ((.ty .str, .ty .ValueError), false), ((.ty .tuple, .ty .list), false), ((.ty .tuple, .ty .tuple), true), ((.ty .tuple, .cls 3), false), ((.ty .tuple, .cls 4), false), ((.ty .tuple, .cls 5), false), ((.ty .tuple, .cls 6), false), ((.ty .tuple, .cls 7), false), ((.ty .tuple, .cls 0), false), ((.ty .tuple, .cls 8), false), ((.ty .tuple, .cls 9), false), ((.ty .tuple, .cls 10), false), ((.ty .tuple, .cls 11), false), ((.ty .tuple, .cls 12), false), ((.ty .tuple, .cls 13), false), ((.ty .tuple, .cls 2), false), ((.ty .tuple, .ty .ValueError), false), ((.ty .list, .ty .list), true), ((.ty .list, .ty .tuple), false), ((.ty .list, .cls 3), false), ((.ty .list, .cls 4), false), ((.ty .list, .cls 5), false), ((.ty .list, .cls 6), false), ((.ty .list, .cls 7), false), ((.ty .list, .cls 0), false), ((.ty .list, .cls 8), false), ((.ty .list, .cls 9), false), ((.ty .list, .cls 10), false), ((.ty .list, .cls 11), false), ((.ty .list, .cls 12), false), ((.ty .list, .cls 13), false), ((.ty .list, .cls 2), false), ((.ty .list, .ty .ValueError), false), ((.cls 0, .ty .list), false), ((.cls 0, .ty .tuple), false), ((.cls 0, .cls 3), false), ((.cls 0, .cls 4), false), ((.cls 0, .cls 5), false), ((.cls 0, .cls 6), false), ((.cls 0, .cls 7), false), ((.cls 0, .cls 0), true), ((.cls 0, .cls 8), false), ((.cls 0, .cls 9), false), ((.cls 0, .cls 10), false), ((.cls 0, .cls 11), false), ((.cls 0, .cls 12), false), ((.cls 0, .cls 13), false), ((.cls 0, .cls 2), false), ((.cls 0, .ty .ValueError), false), ((.cls 1, .ty .list), false), ((.cls 1, .ty .tuple), false), ((.cls 1, .cls 3), false), ((.cls 1, .cls 4), false), ((.cls 1, .cls 5), false), ((.cls 1, .cls 6), false), ((.cls 1, .cls 7), false), ((.cls 1, .cls 0), true), ((.cls 1, .cls 8), false), ((.cls 1, .cls 9), false), ((.cls 1, .cls 10), false), ((.cls 1, .cls 11), false), ((.cls 1, .cls 12), false), ((.cls 1, .cls 13), false), ((.cls 1, .cls 2), false), ((.cls 1, .ty .ValueError), false), ((.cls 2, .ty .list), false), ((.cls 2, .ty .tuple), false), ((.cls 2, .cls 3), false), ((.cls 2, .cls 4), false), ((.cls 2, .cls 5), false), ((.cls 2, .cls 6), false), ((.cls 2, .cls 7), false), ((.cls 2, .cls 0), false), ((.cls 2, .cls 8), false), ((.cls 2, .cls 9), false), ((.cls 2, .cls 10), false), ((.cls 2, .cls 11), false), ((.cls 2, .cls 12), false), ((.cls 2, .cls 13), false), ((.cls 2, .cls 2), true), ((.cls 2, .ty .ValueError), true), ((.cls 3, .ty .list), false), ((.cls 3, .ty .tuple), false), ((.cls 3, .cls 3), true), ((.cls 3, .cls 4), false), ((.cls 3, .cls 5), false), ((.cls 3, .cls 6), false), ((.cls 3, .cls 7), false), ((.cls 3, .cls 0), false), ((.cls 3, .cls 8), false), ((.cls 3, .cls 9), false), ((.cls 3, .cls 10), false), ((.cls 3, .cls 11), false), ((.cls 3, .cls 12), false), ((.cls 3, .cls 13), false), ((.cls 3, .cls 2), true), ((.cls 3, .ty .ValueError), true), ((.cls 4, .ty .list), false), ((.cls 4, .ty .tuple), false), ((.cls 4, .cls 3), false), ((.cls 4, .cls 4), true), ((.cls 4, .cls 5), false), ((.cls 4, .cls 6), false), ((.cls 4, .cls 7), false), ((.cls 4, .cls 0), false), ((.cls 4, .cls 8), false), ((.cls 4, .cls 9), false), ((.cls 4, .cls 10), false), ((.cls 4, .cls 11), false), ((.cls 4, .cls 12), false), ((.cls 4, .cls 13), false), ((.cls 4, .cls 2), true), ((.cls 4, .ty .ValueError), true), ((.cls 5, .ty .list), false), ((.cls 5, .ty .tuple), false), ((.cls 5, .cls 3), false), ((.cls 5, .cls 4), false), ((.cls 5, .cls 5), true), ((.cls 5, .cls 6), false), ((.cls 5, .cls 7), false), ((.cls 5, .cls 0), false), ((.cls 5, .cls 8), false), ((.cls 5, .cls 9), false), ((.cls 5, .cls 10), false), ((.cls 5, .cls 11), false), ((.cls 5, .cls 12), false), ((.cls 5, .cls 13), false), ((.cls 5, .cls 2), true), ((.cls 5, .ty .ValueError), true), ((.cls 6, .ty .list), false), ((.cls 6, .ty .tuple), false), ((.cls 6, .cls 3), false), ((.cls 6, .cls 4), false), ((.cls 6, .cls 5), false), ((.cls 6, .cls 6), true), ((.cls 6, .cls 7), false), ((.cls 6, .cls 0), false), ((.cls 6, .cls 8), false), ((.cls 6, .cls 9), false), ((.cls 6, .cls 10), false), ((.cls 6, .cls 11), false), ((.cls 6, .cls 12), false), ((.cls 6, .cls 13), false), ((.cls 6, .cls 2), true), ((.cls 6, .ty .ValueError), true), ((.cls 7, .ty .list), false), ((.cls 7, .ty .tuple), false), ((.cls 7, .cls 3), false), ((.cls 7, .cls 4), false), ((.cls 7, .cls 5), false), ((.cls 7, .cls 6), false), ((.cls 7, .cls 7), true), ((.cls 7, .cls 0), false), ((.cls 7, .cls 8), false), ((.cls 7, .cls 9), false), ((.cls 7, .cls 10), false), ((.cls 7, .cls 11), false), ((.cls 7, .cls 12), false), ((.cls 7, .cls 13), false), ((.cls 7, .cls 2), true), ((.cls 7, .ty .ValueError), true), ((.cls 8, .ty .list), false), ((.cls 8, .ty .tuple), false), ((.cls 8, .cls 3), false), ((.cls 8, .cls 4), false), ((.cls 8, .cls 5), false), ((.cls 8, .cls 6), false), ((.cls 8, .cls 7), false), ((.cls 8, .cls 0), false), ((.cls 8, .cls 8), true), ((.cls 8, .cls 9), false), ((.cls 8, .cls 10), false), ((.cls 8, .cls 11), false), ((.cls 8, .cls 12), false), ((.cls 8, .cls 13), false), ((.cls 8, .cls 2), true), ((.cls 8, .ty .ValueError), true), ((.cls 9, .ty .list), false), ((.cls 9, .ty .tuple), false), ((.cls 9, .cls 3), false), ((.cls 9, .cls 4), false), ((.cls 9, .cls 5), false), ((.cls 9, .cls 6), false), ((.cls 9, .cls 7), false), ((.cls 9, .cls 0), false), ((.cls 9, .cls 8), false), ((.cls 9, .cls 9), true), ((.cls 9, .cls 10), false), ((.cls 9, .cls 11), false), ((.cls 9, .cls 12), false), ((.cls 9, .cls 13), false), ((.cls 9, .cls 2), true), ((.cls 9, .ty .ValueError), true), ((.cls 10, .ty .list), false), ((.cls 10, .ty .tuple), false), ((.cls 10, .cls 3), false), ((.cls 10, .cls 4), false), ((.cls 10, .cls 5), false), ((.cls 10, .cls 6), false), ((.cls 10, .cls 7), false), ((.cls 10, .cls 0), false), ((.cls 10, .cls 8), false), ((.cls 10, .cls 9), false), ((.cls 10, .cls 10), true), ((.cls 10, .cls 11), false), ((.cls 10, .cls 12), false), ((.cls 10, .cls 13), false), ((.cls 10, .cls 2), true), ((.cls 10, .ty .ValueError), true), ((.cls 11, .ty .list), false), ((.cls 11, .ty .tuple), false), ((.cls 11, .cls 3), false), ((.cls 11, .cls 4), false), ((.cls 11, .cls 5), false), ((.cls 11, .cls 6), false), ((.cls 11, .cls 7), false), ((.cls 11, .cls 0), false), ((.cls 11, .cls 8), false), ((.cls 11, .cls 9), false), ((.cls 11, .cls 10), false), ((.cls 11, .cls 11), true), ((.cls 11, .cls 12), false), ((.cls 11, .cls 13), false), ((.cls 11, .cls 2), true), ((.cls 11, .ty .ValueError), true), ((.cls 12, .ty .list), false), ((.cls 12, .ty .tuple), false), ((.cls 12, .cls 3), false), ((.cls 12, .cls 4), false), ((.cls 12, .cls 5), false), ((.cls 12, .cls 6), false), ((.cls 12, .cls 7), false), ((.cls 12, .cls 0), false), ((.cls 12, .cls 8), false), ((.cls 12, .cls 9), false), ((.cls 12, .cls 10), false), ((.cls 12, .cls 11), false), ((.cls 12, .cls 12), true), ((.cls 12, .cls 13), false), ((.cls 12, .cls 2), true), ((.cls 12, .ty .ValueError), true), ((.cls 13, .ty .list), false), ((.cls 13, .ty .tuple), false), ((.cls 13, .cls 3), false), ((.cls 13, .cls 4), false), ((.cls 13, .cls 5), false), ((.cls 13, .cls 6), false), ((.cls 13, .cls 7), false), ((.cls 13, .cls 0), false), ((.cls 13, .cls 8), false), ((.cls 13, .cls 9), false), ((.cls 13, .cls 10), false), ((.cls 13, .cls 11), false), ((.cls 13, .cls 12), false), ((.cls 13, .cls 13), true), ((.cls 13, .cls 2), true), ((.cls 13, .ty .ValueError), true)]
  sb := [((.ty .NoneType, .cls 0), false), ((.ty .NoneType, .cls 1), false), ((.ty .bool, .cls 0), false), ((.ty .bool, .cls 1), false), ((.ty .int, .cls 0), false), ((.ty .int, .cls 1), false), ((.ty .str, .cls 0), false), ((.ty .str, .cls 1), false), ((.ty .tuple, .cls 0), false), ((.ty .tuple, .cls 1), false), ((.ty .list, .cls 0), false), ((.ty .list, .cls 1), false), ((.cls 0, .cls 1), false), ((.cls 1, .cls 0), true)]
  eq := [(0, 2), (1, 2)]
  bo := [(0, 3), (1, 4)]
  fns := [fd0, fd1, fd2, fd3, fd4, fd5, fd6, fd7, fd8, fd9]
theorem S0 : FnScope fd0.N ["value"] fd0.sc := ⟨rfl, rfl, rfl, by decide +kernel, rfl, by decide +kernel, by decide +kernel⟩
theorem B0 (kV doc pm : Value) (an : Option Addr) (cdv ct : Value) : BndF fd0 (PySem.W.fnOf "copied" "copied" (defArgs (top 1)) fd0.body fd0.sc .none kV doc pm an cdv ct) ["value"] "" := by
  intro s hs us ws l h1 h2 h3
  rcases List.mem_cons.mp hs with e | hs
  · subst e
    match us, h1 with
    | [a0], _ => match ws, h2 with
      | [], _ =>
        obtain rfl : l = [a0] := (Option.some.inj h3).symm
        exact ⟨rfl, rfl⟩
  cases hs
theorem S1 : FnScope fd1.N ["self", "word", "parts"] fd1.sc := ⟨rfl, rfl, rfl, by decide +kernel, rfl, by decide +kernel, by decide +kernel⟩
theorem B1 (kV doc pm : Value) (an : Option Addr) (cdv ct : Value) : BndF fd1 (PySem.W.fnOf "__init__" "Paper.__init__" (defArgs (meth 2 0)) fd1.body fd1.sc .none kV doc pm an cdv ct) ["self", "word"] "parts" := by
  intro s hs us ws l h1 h2 h3
  rcases List.mem_cons.mp hs with e | hs
  · subst e
    match us, h1 with
    | [a0, a1], _ => match ws, h2 with
      | [], _ =>
        obtain rfl : l = [a0, a1] := (Option.some.inj h3).symm
        exact ⟨rfl, rfl⟩
  rcases List.mem_cons.mp hs with e | hs
  · subst e
    match us, h1 with
    | [a0, a1, a2], _ => match ws, h2 with
      | [], _ =>
        obtain rfl : l = [a0, a1] := (Option.some.inj h3).symm
        exact ⟨rfl, rfl⟩
  rcases List.mem_cons.mp hs with e | hs
  · subst e
    match us, h1 with
    | [a0, a1, a2, a3], _ => match ws, h2 with
      | [], _ =>
        obtain rfl : l = [a0, a1] := (Option.some.inj h3).symm
        exact ⟨rfl, rfl⟩
  rcases List.mem_cons.mp hs with e | hs
  · subst e
    match us, h1 with
    | [a0], _ => match ws, h2 with
      | [b0], _ =>
        obtain rfl : l = [a0, b0] := (Option.some.inj h3).symm
        exact ⟨rfl, rfl⟩
  cases hs
theorem S2 : FnScope fd2.N ["self", "other"] fd2.sc := ⟨rfl, rfl, rfl, by decide +kernel, rfl, by decide +kernel, by decide +kernel⟩
theorem B2 (kV doc pm : Value) (an : Option Addr) (cdv ct : Value) : BndF fd2 (PySem.W.fnOf "__eq__" "Paper.__eq__" (defArgs (meth 2 1)) fd2.body fd2.sc .none kV doc pm an cdv ct) ["self", "other"] "" := by
  intro s hs us ws l h1 h2 h3
  rcases List.mem_cons.mp hs with e | hs
  · subst e
    match us, h1 with
    | [a0, a1], _ => match ws, h2 with
      | [], _ =>
        obtain rfl : l = [a0, a1] := (Option.some.inj h3).symm
        exact ⟨rfl, rfl⟩
  cases hs
theorem S3 : FnScope fd3.N ["self"] fd3.sc := ⟨rfl, rfl, rfl, by decide +kernel, rfl, by decide +kernel, by decide +kernel⟩
theorem B3 (kV doc pm : Value) (an : Option Addr) (cdv ct : Value) : BndF fd3 (PySem.W.fnOf "__bool__" "Paper.__bool__" (defArgs (meth 2 2)) fd3.body fd3.sc .none kV doc pm an cdv ct) ["self"] "" := by
  intro s hs us ws l h1 h2 h3
  rcases List.mem_cons.mp hs with e | hs
  · subst e
    match us, h1 with
    | [a0], _ => match ws, h2 with
      | [], _ =>
        obtain rfl : l = [a0] := (Option.some.inj h3).symm
        exact ⟨rfl, rfl⟩
  cases hs
theorem S4 : FnScope fd4.N ["self"] fd4.sc := ⟨rfl, rfl, rfl, by decide +kernel, rfl, by decide +kernel, by decide +kernel⟩
theorem B4 (kV doc pm : Value) (an : Option Addr) (cdv ct : Value) : BndF fd4 (PySem.W.fnOf "__bool__" "Denial.__bool__" (defArgs (meth 3 0)) fd4.body fd4.sc .none kV doc pm an cdv ct) ["self"] "" := by
  intro s hs us ws l h1 h2 h3
  rcases List.mem_cons.mp hs with e | hs
  · subst e
    match us, h1 with
    | [a0], _ => match ws, h2 with
      | [], _ =>
        obtain rfl : l = [a0] := (Option.some.inj h3).symm
        exact ⟨rfl, rfl⟩
  cases hs
theorem S5 : FnScope fd5.N ["pen", "some"] fd5.sc := ⟨rfl, rfl, rfl, by decide +kernel, rfl, by decide +kernel, by decide +kernel⟩
theorem B5 (kV doc pm : Value) (an : Option Addr) (cdv ct : Value) : BndF fd5 (PySem.W.fnOf "_law_pick" "_law_pick" (defArgs (top 20)) fd5.body fd5.sc .none kV doc pm an cdv ct) ["pen", "some"] "" := by
  intro s hs us ws l h1 h2 h3
  rcases List.mem_cons.mp hs with e | hs
  · subst e
    match us, h1 with
    | [a0, a1], _ => match ws, h2 with
      | [], _ =>
        obtain rfl : l = [a0, a1] := (Option.some.inj h3).symm
        exact ⟨rfl, rfl⟩
  cases hs
theorem S6 : FnScope fd6.N ["error"] fd6.sc := ⟨rfl, rfl, rfl, by decide +kernel, rfl, by decide +kernel, by decide +kernel⟩
theorem B6 (kV doc pm : Value) (an : Option Addr) (cdv ct : Value) : BndF fd6 (PySem.W.fnOf "_law_kinds_of" "_law_kinds_of" (defArgs (top 21)) fd6.body fd6.sc .none kV doc pm an cdv ct) ["error"] "" := by
  intro s hs us ws l h1 h2 h3
  rcases List.mem_cons.mp hs with e | hs
  · subst e
    match us, h1 with
    | [a0], _ => match ws, h2 with
      | [], _ =>
        obtain rfl : l = [a0] := (Option.some.inj h3).symm
        exact ⟨rfl, rfl⟩
  cases hs
theorem S7 : FnScope fd7.N ["pen"] fd7.sc := ⟨rfl, rfl, rfl, by decide +kernel, rfl, by decide +kernel, by decide +kernel⟩
theorem B7 (kV doc pm : Value) (an : Option Addr) (cdv ct : Value) : BndF fd7 (PySem.W.fnOf "_law_errors_right" "_law_errors_right" (defArgs (top 22)) fd7.body fd7.sc .none kV doc pm an cdv ct) ["pen"] "" := by
  intro s hs us ws l h1 h2 h3
  rcases List.mem_cons.mp hs with e | hs
  · subst e
    match us, h1 with
    | [a0], _ => match ws, h2 with
      | [], _ =>
        obtain rfl : l = [a0] := (Option.some.inj h3).symm
        exact ⟨rfl, rfl⟩
  cases hs
theorem S8 : FnScope fd8.N ["value"] fd8.sc := ⟨rfl, rfl, rfl, by decide +kernel, rfl, by decide +kernel, by decide +kernel⟩
theorem B8 (kV doc pm : Value) (an : Option Addr) (cdv ct : Value) : BndF fd8 (PySem.W.fnOf "_law_tuples" "_law_tuples" (defArgs (top 23)) fd8.body fd8.sc .none kV doc pm an cdv ct) ["value"] "" := by
  intro s hs us ws l h1 h2 h3
  rcases List.mem_cons.mp hs with e | hs
  · subst e
    match us, h1 with
    | [a0], _ => match ws, h2 with
      | [], _ =>
        obtain rfl : l = [a0] := (Option.some.inj h3).symm
        exact ⟨rfl, rfl⟩
  cases hs
theorem bas {P : Program} {w : World} {K : Frag} {mg : Str → Option Value} {base : Heap} {C0 : Addr}
    {C1 : Addr}
    {C2 : Addr}
    {C3 : Addr}
    {C4 : Addr}
    {C5 : Addr}
    {C6 : Addr}
    {C7 : Addr}
    {C8 : Addr}
    {C9 : Addr}
    {C10 : Addr}
    {C11 : Addr}
    {C12 : Addr}
    {C13 : Addr}
    {a0 : Addr}
    {a1 : Addr}
    {a2 : Addr}
    {a3 : Addr}
    {a4 : Addr}
    {a5 : Addr}
    {a6 : Addr}
    {a7 : Addr}
    {a8 : Addr}
    {aD : Addr} {fdD : FuncData}
    (f0 : FnP K (top 1) fd0 a0)
    (f1 : FnP K (meth 2 0) fd1 a1)
    (f2 : FnP K (meth 2 1) fd2 a2)
    (f3 : FnP K (meth 2 2) fd3 a3)
    (f4 : FnP K (meth 3 0) fd4 a4)
    (f5 : FnP K (top 20) fd5 a5)
    (f6 : FnP K (top 21) fd6 a6)
    (f7 : FnP K (top 22) fd7 a7)
    (f8 : FnP K (top 23) fd8 a8)
    (m0 : mg "copied" = some (.ref a0))
    (m5 : mg "_law_pick" = some (.ref a5))
    (m6 : mg "_law_kinds_of" = some (.ref a6))
    (m7 : mg "_law_errors_right" = some (.ref a7))
    (m8 : mg "_law_tuples" = some (.ref a8))
    (c0 : PlP K mg "Paper" C0) (mk0 : makesIn K C0 = true) (in0 : findIn K (.ref C0) "__init__" = some (some (.ref a1))) (fn0 : isFn K (.ref a1) = true)
    (na0_word : findIn K (.ref C0) "word" = some none)
    (na0_parts : findIn K (.ref C0) "parts" = some none)
    (c1 : PlP K mg "Denial" C1) (mk1 : makesIn K C1 = true) (in1 : findIn K (.ref C1) "__init__" = some (some (.ref a1))) (fn1 : isFn K (.ref a1) = true)
    (na1_word : findIn K (.ref C1) "word" = some none)
    (na1_parts : findIn K (.ref C1) "parts" = some none)
    (g2 : mg "ClothError" = some (.ref C2)) (k2 : keepIn K (.ref C2) = true)
    (c3 : ExP1 P K mg "BadGarment" "part" C3)
    (c4 : ExP1 P K mg "BadNumber" "part" C4)
    (c5 : ExP1 P K mg "BadValue" "part" C5)
    (c6 : ExP1 P K mg "BadPlace" "part" C6)
    (c7 : ExP1 P K mg "BadPaper" "part" C7)
    (c8 : ExP1 P K mg "Misfit" "part" C8)
    (c9 : ExP1 P K mg "Nothing" "part" C9)
    (c10 : ExP1 P K mg "BadCommand" "word" C10)
    (c11 : ExP1 P K mg "NoName" "name" C11)
    (c12 : ExP2 P K mg "BadText" "line" "word" C12)
    (c13 : ExP2 P K mg "TooMany" "what" "most" C13)
    (eq0 : EqF K C0 a2)
    (eq1 : EqF K C1 a2)
    (bo0 : BoF K C0 a3)
    (bo1 : BoF K C1 a4)
    (z_len : mg "len" = none)
    (z_isinstance : mg "isinstance" = none)
    (z_repr : mg "repr" = none)
    (z_tuple : mg "tuple" = none)
    (z_list : mg "list" = none)
    (z_int : mg "int" = none)
    (z_abs : mg "abs" = none)
    (z_bool : mg "bool" = none)
    (z_range : mg "range" = none)
    (z_enumerate : mg "enumerate" = none)
    (z_ValueError : mg "ValueError" = none)
    (hisi : (tb.isi.all fun p => decide (kitOne K (tv (fun n => [C0, C1, C2, C3, C4, C5, C6, C7, C8, C9, C10, C11, C12, C13].getD n 0) p.1.1) (tv (fun n => [C0, C1, C2, C3, C4, C5, C6, C7, C8, C9, C10, C11, C12, C13].getD n 0) p.1.2) = some p.2)) = true)
    (hsb : (tb.sb.all fun p => !(tv (fun n => [C0, C1, C2, C3, C4, C5, C6, C7, C8, C9, C10, C11, C12, C13].getD n 0) p.1.1 == tv (fun n => [C0, C1, C2, C3, C4, C5, C6, C7, C8, C9, C10, C11, C12, C13].getD n 0) p.1.2) && decide (subIn K (tv (fun n => [C0, C1, C2, C3, C4, C5, C6, C7, C8, C9, C10, C11, C12, C13].getD n 0) p.1.1) (tv (fun n => [C0, C1, C2, C3, C4, C5, C6, C7, C8, C9, C10, C11, C12, C13].getD n 0) p.1.2) = some p.2)) = true)
    (FD : FnOk P w K mg base CX0 1 aD fdD ["pen", "many"] (spDraw K)) (bD : Binds K fdD ["pen", "many"] []) (mD : mg "_law_draw" = some (.ref aD)) (kD : keepIn K (.ref aD) = true)
    : Bas P w K mg base CX0 (fun n => [C0, C1, C2, C3, C4, C5, C6, C7, C8, C9, C10, C11, C12, C13].getD n 0) tb where
  hF := fun _ _ _ _ _ _ _ _ h => h.elim
  hP := fun _ _ _ _ _ _ _ _ _ _ => cxOf_p0
  hU := StX.cxUp_none
  cls := {
    ins := fun c i h => by
      match c, h with
      | 0, _ => exact c0.ins
      | 1, _ => exact c1.ins
      | 2, h => exact absurd (show (some (CK.no : CK)) = some (.pl i) from h) (by intro z; cases z)
      | 3, h => exact absurd (show (some (CK.ex1 "part" : CK)) = some (.pl i) from h) (by intro z; cases z)
      | 4, h => exact absurd (show (some (CK.ex1 "part" : CK)) = some (.pl i) from h) (by intro z; cases z)
      | 5, h => exact absurd (show (some (CK.ex1 "part" : CK)) = some (.pl i) from h) (by intro z; cases z)
      | 6, h => exact absurd (show (some (CK.ex1 "part" : CK)) = some (.pl i) from h) (by intro z; cases z)
      | 7, h => exact absurd (show (some (CK.ex1 "part" : CK)) = some (.pl i) from h) (by intro z; cases z)
      | 8, h => exact absurd (show (some (CK.ex1 "part" : CK)) = some (.pl i) from h) (by intro z; cases z)
      | 9, h => exact absurd (show (some (CK.ex1 "part" : CK)) = some (.pl i) from h) (by intro z; cases z)
      | 10, h => exact absurd (show (some (CK.ex1 "word" : CK)) = some (.pl i) from h) (by intro z; cases z)
      | 11, h => exact absurd (show (some (CK.ex1 "name" : CK)) = some (.pl i) from h) (by intro z; cases z)
      | 12, h => exact absurd (show (some (CK.ex2 "line" "word" : CK)) = some (.pl i) from h) (by intro z; cases z)
      | 13, h => exact absurd (show (some (CK.ex2 "what" "most" : CK)) = some (.pl i) from h) (by intro z; cases z)
      | n + 14, h => exact absurd (show (none : Option CK) = some (.pl i) from h) (by intro z; cases z)
    ex := fun c h => by
      match c, h with
      | 0, h => exact h.elim (fun ⟨f, h⟩ => absurd (show (some (CK.pl 1 : CK)) = some (.ex1 f) from h) (by intro z; cases z)) (fun ⟨f, k, h⟩ => absurd (show (some (CK.pl 1 : CK)) = some (.ex2 f k) from h) (by intro z; cases z))
      | 1, h => exact h.elim (fun ⟨f, h⟩ => absurd (show (some (CK.pl 1 : CK)) = some (.ex1 f) from h) (by intro z; cases z)) (fun ⟨f, k, h⟩ => absurd (show (some (CK.pl 1 : CK)) = some (.ex2 f k) from h) (by intro z; cases z))
      | 2, h => exact h.elim (fun ⟨f, h⟩ => absurd (show (some (CK.no : CK)) = some (.ex1 f) from h) (by intro z; cases z)) (fun ⟨f, k, h⟩ => absurd (show (some (CK.no : CK)) = some (.ex2 f k) from h) (by intro z; cases z))
      | 3, _ => exact c3.ex
      | 4, _ => exact c4.ex
      | 5, _ => exact c5.ex
      | 6, _ => exact c6.ex
      | 7, _ => exact c7.ex
      | 8, _ => exact c8.ex
      | 9, _ => exact c9.ex
      | 10, _ => exact c10.ex
      | 11, _ => exact c11.ex
      | 12, _ => exact c12.ex
      | 13, _ => exact c13.ex
      | n + 14, h => exact h.elim (fun ⟨f, h⟩ => absurd (show (none : Option CK) = some (.ex1 f) from h) (by intro z; cases z)) (fun ⟨f, k, h⟩ => absurd (show (none : Option CK) = some (.ex2 f k) from h) (by intro z; cases z))
    na := fa_cons na0_word (fa_cons na0_parts (fa_cons na1_word (fa_cons na1_parts (fa_cons c3.na (fa_cons c4.na (fa_cons c5.na (fa_cons c6.na (fa_cons c7.na (fa_cons c8.na (fa_cons c9.na (fa_cons c10.na (fa_cons c11.na (fa_cons c12.na (fa_cons c12.na2 (fa_cons c13.na (fa_cons c13.na2 (fa_nil)))))))))))))))))
    isi := all_isi hisi }
  eq := fa_cons ⟨a2, eq0, fd2, rfl, f2.fn⟩ (fa_cons ⟨a2, eq1, fd2, rfl, f2.fn⟩ (fa_nil))
  bo := fa_cons ⟨a3, bo0, fd3, rfl, f3.fn⟩ (fa_cons ⟨a4, bo1, fd4, rfl, f4.fn⟩ (fa_nil))
  sb := all_sb hsb
  gl := gl_cons (gb_fn m0 f0 rfl) (gl_cons (gb_fn m5 f5 rfl) (gl_cons (gb_fn m6 f6 rfl) (gl_cons (gb_fn m7 f7 rfl) (gl_cons (gb_fn m8 f8 rfl) (gl_cons (⟨aD, mD, kD, fun A hA hR => draw_fnV FD bD A hR⟩) (gl_cons (gb_pl c0 mk0 in0 fn0 f1 rfl rfl rfl) (gl_cons (gb_pl c1 mk1 in1 fn1 f1 rfl rfl rfl) (gl_cons (gb_no g2 k2 rfl rfl) (gl_cons (gb_ex1 c3 rfl rfl) (gl_cons (gb_ex1 c4 rfl rfl) (gl_cons (gb_ex1 c5 rfl rfl) (gl_cons (gb_ex1 c6 rfl rfl) (gl_cons (gb_ex1 c7 rfl rfl) (gl_cons (gb_ex1 c8 rfl rfl) (gl_cons (gb_ex1 c9 rfl rfl) (gl_cons (gb_ex1 c10 rfl rfl) (gl_cons (gb_ex1 c11 rfl rfl) (gl_cons (gb_ex2 c12 rfl rfl) (gl_cons (gb_ex2 c13 rfl rfl) (gl_cons (⟨rfl, z_len⟩) (gl_cons (⟨rfl, z_isinstance⟩) (gl_cons (⟨rfl, z_repr⟩) (gl_cons (⟨rfl, z_tuple⟩) (gl_cons (⟨rfl, z_list⟩) (gl_cons (⟨rfl, z_int⟩) (gl_cons (⟨rfl, z_abs⟩) (gl_cons (⟨rfl, z_bool⟩) (gl_cons (⟨rfl, z_range⟩) (gl_cons (⟨rfl, z_enumerate⟩) (gl_cons (⟨rfl, z_ValueError⟩) (gl_nil)))))))))))))))))))))))))))))))
end Mi.k00

/-! part KC -/
set_option Elab.async false
set_option linter.all false
set_option maxRecDepth 100000
set_option maxHeartbeats 4000000
namespace Mi.k00
open PySem PySem.Spec PyProof.Rows L2 SC Mi
abbrev sLaw : Stmt := top 24
def lawN : List Str := ["script", "bare", "denial", "kept", "none", "one", "other", "paper", "pen", "some", "turn", "word", "lap"]
theorem scLaw : FnScope lawN ["script"] (defScope sLaw) := ⟨rfl, rfl, rfl, by decide +kernel, rfl, by decide +kernel, by decide +kernel⟩
def cLaw : CC := ⟨lawN, defScope sLaw, true⟩
def lawFd : FD := ⟨lawN, 1, false, [([], 1, [0])], defScope sLaw, defBody sLaw⟩
def forBody : Stmt → List Stmt
  | .For _ _ b _ _ => b
  | _ => []
def rr : Rec Bool := recM tb (callAt tb 60 10) 60
def turnB : List Stmt := forBody ((defBody sLaw).getD 1 (.Pass ⟨0, 0, 0, 0⟩))
def turn0 : Stmt := turnB.getD 0 (.Pass ⟨0, 0, 0, 0⟩)
def turnR : List Stmt := turnB.drop 1
def tailB : List Stmt := (defBody sLaw).drop 2
def isPen (e : ME) : Bool := match e[8]? with
  | some (some MV.pen) => decide (e.length = 13)
  | _ => false
def env0 : ME := [none, none, none, none, none, none, none, none, some MV.pen, none, none, none, none]
def dPen : MD Bool := ⟨fun e _ => isPen e, fun _ _ => false, fun _ _ => false, fun _ _ => false⟩
def dEnd : MD Bool := ⟨fun _ _ => false, fun v _ => match v with | .bl true => true | _ => false, fun _ _ => false, fun _ _ => false⟩
theorem run0 : stepS tb rr cLaw turn0 kx0 env0 ⟨[], 20⟩ dPen = true := by decide +kernel
theorem runT : rr.S cLaw tailB kx0 env0 ⟨[], 20⟩ dEnd = true := by decide +kernel
end Mi.k00

/-! part MIQ -/
set_option Elab.async false
set_option linter.all false
set_option maxRecDepth 100000
set_option maxHeartbeats 4000000
namespace Mi
/-! ### answers that hear the draws; states compared -/
/-- an answer by the draws that came, the last one first -/
def AnsH : Type := List Nat → Bool
instance : Ans AnsH where
  bot := fun _ => false
  ok f := ∃ h : List Nat, f h = true
  dr m k := fun h => allB m fun i => k i (i :: h)
  bot_ok := fun ⟨_, e⟩ => Bool.false_ne_true e
  dr_ok := fun ⟨h, e⟩ i hi => ⟨i :: h, allB_ok e i hi⟩
def eqL {α : Type} (f : α → α → Bool) : List α → List α → Bool
  | [], [] => true
  | x :: xs, y :: ys => f x y && eqL f xs ys
  | _, _ => false
theorem eqL_ok {α : Type} {f : α → α → Bool} (hf : ∀ x y, f x y = true → x = y) : ∀ {xs ys : List α}, eqL f xs ys = true → xs = ys
  | [], [], _ => rfl
  | x :: xs, y :: ys, h => by
    simp only [eqL, Bool.and_eq_true] at h
    rw [hf x y h.1, eqL_ok hf h.2]
  | [], _ :: _, h => by cases h
  | _ :: _, [], h => by cases h
def eqV : Nat → MV → MV → Bool
  | 0, _, _ => false
  | n + 1, x, y => match x, y with
    | .non, .non => true
    | .bl a, .bl b => decide (a = b)
    | .int a, .int b => decide (a = b)
    | .str a, .str b => decide (a = b)
    | .tup a, .tup b => eqL (eqV n) a b
    | .loc a, .loc b => decide (a = b)
    | .pen, .pen => true
    | _, _ => false
theorem eqV_ok : ∀ (n : Nat) (x y : MV), eqV n x y = true → x = y
  | 0, _, _, h => by cases h
  | n + 1, x, y, h => by
    unfold eqV at h
    split at h
    · rfl
    · rw [of_decide_eq_true h]
    · rw [of_decide_eq_true h]
    · rw [of_decide_eq_true h]
    · rw [eqL_ok (eqV_ok n) h]
    · rw [of_decide_eq_true h]
    · rfl
    · cases h
def eqO (x y : MO) : Bool := match x, y with
  | .lst a, .lst b => eqL (eqV 9) a b
  | _, _ => false
theorem eqO_ok : ∀ x y : MO, eqO x y = true → x = y := fun x y h => by
  unfold eqO at h
  split at h
  · rw [eqL_ok (eqV_ok 9) h]
  · cases h
def eqM (x y : Option MV) : Bool := match x, y with
  | none, none => true
  | some a, some b => eqV 9 a b
  | _, _ => false
theorem eqM_ok : ∀ x y : Option MV, eqM x y = true → x = y := fun x y h => by
  unfold eqM at h
  split at h
  · rfl
  · rw [eqV_ok 9 _ _ h]
  · cases h
end Mi

/-! part KP -/
set_option Elab.async false
set_option linter.all false
set_option maxRecDepth 100000
set_option maxHeartbeats 4000000
namespace Mi.k00
open PySem PySem.Spec PyProof.Rows L2 SC Mi
def turn1 : Stmt := turnB.getD 1 (.Pass ⟨0, 0, 0, 0⟩)
def turn2 : List Stmt := turnB.drop 2
def items (o : Nat) : List MV := [.non, .int 5, .str "a", .loc (o + 2), .tup [.loc (o + 3)], .bl true, .loc (o + 4)]
def objs (o : Nat) : List MO := [.lst [.int 2, .tup [.int 3]], .lst [.int 1, .loc (o + 1)], .lst [.int 4], .lst [], .lst (items o)]
def pk (o i : Nat) : MV := (items o).getD i .non
def heap1 (i j : Nat) : List MO := .lst [pk 0 i, pk 5 j] :: (objs 0 ++ objs 5)
def env1 (i j : Nat) : ME := [none, none, none, none, none, some (pk 0 i), some (pk 5 j), none, some .pen, none, none, none, none]
def rH : Rec AnsH := recM tb (callAt tb 60 10) 60
def dPick : MD AnsH := ⟨fun e m => (fun h => match h with
  | [j, i] => eqL eqM e (env1 i j) && eqL eqO m.hp (heap1 i j) && decide (m.n = 38) && decide (i < 7) && decide (j < 7)
  | _ => false : AnsH), fun _ _ => (fun _ => false : AnsH), fun _ _ => (fun _ => false : AnsH), fun _ _ => (fun _ => false : AnsH)⟩
theorem run1 : (stepS tb rH cLaw turn1 kx0 env0 ⟨[], 40⟩ dPick : AnsH) [] = true := by decide +kernel
end Mi.k00

/-! part KQ -/
set_option Elab.async false
set_option linter.all false
set_option maxRecDepth 100000
set_option maxHeartbeats 4000000
namespace Mi.k00
open PySem PySem.Spec PyProof.Rows L2 SC Mi
theorem run2_0_0 : rr.S cLaw turn2 kx0 (env1 0 0) ⟨heap1 0 0, 38⟩ dPen = true := by decide +kernel
theorem run2_0_1 : rr.S cLaw turn2 kx0 (env1 0 1) ⟨heap1 0 1, 38⟩ dPen = true := by decide +kernel
theorem run2_0_2 : rr.S cLaw turn2 kx0 (env1 0 2) ⟨heap1 0 2, 38⟩ dPen = true := by decide +kernel
theorem run2_0_3 : rr.S cLaw turn2 kx0 (env1 0 3) ⟨heap1 0 3, 38⟩ dPen = true := by decide +kernel
theorem run2_0_4 : rr.S cLaw turn2 kx0 (env1 0 4) ⟨heap1 0 4, 38⟩ dPen = true := by decide +kernel
theorem run2_0_5 : rr.S cLaw turn2 kx0 (env1 0 5) ⟨heap1 0 5, 38⟩ dPen = true := by decide +kernel
theorem run2_0_6 : rr.S cLaw turn2 kx0 (env1 0 6) ⟨heap1 0 6, 38⟩ dPen = true := by decide +kernel
theorem run2_1_0 : rr.S cLaw turn2 kx0 (env1 1 0) ⟨heap1 1 0, 38⟩ dPen = true := by decide +kernel
theorem run2_1_1 : rr.S cLaw turn2 kx0 (env1 1 1) ⟨heap1 1 1, 38⟩ dPen = true := by decide +kernel
theorem run2_1_2 : rr.S cLaw turn2 kx0 (env1 1 2) ⟨heap1 1 2, 38⟩ dPen = true := by decide +kernel
theorem run2_1_3 : rr.S cLaw turn2 kx0 (env1 1 3) ⟨heap1 1 3, 38⟩ dPen = true := by decide +kernel
theorem run2_1_4 : rr.S cLaw turn2 kx0 (env1 1 4) ⟨heap1 1 4, 38⟩ dPen = true := by decide +kernel
theorem run2_1_5 : rr.S cLaw turn2 kx0 (env1 1 5) ⟨heap1 1 5, 38⟩ dPen = true := by decide +kernel
theorem run2_1_6 : rr.S cLaw turn2 kx0 (env1 1 6) ⟨heap1 1 6, 38⟩ dPen = true := by decide +kernel
theorem run2_2_0 : rr.S cLaw turn2 kx0 (env1 2 0) ⟨heap1 2 0, 38⟩ dPen = true := by decide +kernel
theorem run2_2_1 : rr.S cLaw turn2 kx0 (env1 2 1) ⟨heap1 2 1, 38⟩ dPen = true := by decide +kernel
theorem run2_2_2 : rr.S cLaw turn2 kx0 (env1 2 2) ⟨heap1 2 2, 38⟩ dPen = true := by decide +kernel
theorem run2_2_3 : rr.S cLaw turn2 kx0 (env1 2 3) ⟨heap1 2 3, 38⟩ dPen = true := by decide +kernel
theorem run2_2_4 : rr.S cLaw turn2 kx0 (env1 2 4) ⟨heap1 2 4, 38⟩ dPen = true := by decide +kernel
theorem run2_2_5 : rr.S cLaw turn2 kx0 (env1 2 5) ⟨heap1 2 5, 38⟩ dPen = true := by decide +kernel
theorem run2_2_6 : rr.S cLaw turn2 kx0 (env1 2 6) ⟨heap1 2 6, 38⟩ dPen = true := by decide +kernel
theorem run2_3_0 : rr.S cLaw turn2 kx0 (env1 3 0) ⟨heap1 3 0, 38⟩ dPen = true := by decide +kernel
theorem run2_3_1 : rr.S cLaw turn2 kx0 (env1 3 1) ⟨heap1 3 1, 38⟩ dPen = true := by decide +kernel
theorem run2_3_2 : rr.S cLaw turn2 kx0 (env1 3 2) ⟨heap1 3 2, 38⟩ dPen = true := by decide +kernel
theorem run2_3_3 : rr.S cLaw turn2 kx0 (env1 3 3) ⟨heap1 3 3, 38⟩ dPen = true := by decide +kernel
theorem run2_3_4 : rr.S cLaw turn2 kx0 (env1 3 4) ⟨heap1 3 4, 38⟩ dPen = true := by decide +kernel
theorem run2_3_5 : rr.S cLaw turn2 kx0 (env1 3 5) ⟨heap1 3 5, 38⟩ dPen = true := by decide +kernel
theorem run2_3_6 : rr.S cLaw turn2 kx0 (env1 3 6) ⟨heap1 3 6, 38⟩ dPen = true := by decide +kernel
theorem run2_4_0 : rr.S cLaw turn2 kx0 (env1 4 0) ⟨heap1 4 0, 38⟩ dPen = true := by decide +kernel
theorem run2_4_1 : rr.S cLaw turn2 kx0 (env1 4 1) ⟨heap1 4 1, 38⟩ dPen = true := by decide +kernel
theorem run2_4_2 : rr.S cLaw turn2 kx0 (env1 4 2) ⟨heap1 4 2, 38⟩ dPen = true := by decide +kernel
theorem run2_4_3 : rr.S cLaw turn2 kx0 (env1 4 3) ⟨heap1 4 3, 38⟩ dPen = true := by decide +kernel
theorem run2_4_4 : rr.S cLaw turn2 kx0 (env1 4 4) ⟨heap1 4 4, 38⟩ dPen = true := by decide +kernel
theorem run2_4_5 : rr.S cLaw turn2 kx0 (env1 4 5) ⟨heap1 4 5, 38⟩ dPen = true := by decide +kernel
theorem run2_4_6 : rr.S cLaw turn2 kx0 (env1 4 6) ⟨heap1 4 6, 38⟩ dPen = true := by decide +kernel
theorem run2_5_0 : rr.S cLaw turn2 kx0 (env1 5 0) ⟨heap1 5 0, 38⟩ dPen = true := by decide +kernel
theorem run2_5_1 : rr.S cLaw turn2 kx0 (env1 5 1) ⟨heap1 5 1, 38⟩ dPen = true := by decide +kernel
theorem run2_5_2 : rr.S cLaw turn2 kx0 (env1 5 2) ⟨heap1 5 2, 38⟩ dPen = true := by decide +kernel
theorem run2_5_3 : rr.S cLaw turn2 kx0 (env1 5 3) ⟨heap1 5 3, 38⟩ dPen = true := by decide +kernel
theorem run2_5_4 : rr.S cLaw turn2 kx0 (env1 5 4) ⟨heap1 5 4, 38⟩ dPen = true := by decide +kernel
theorem run2_5_5 : rr.S cLaw turn2 kx0 (env1 5 5) ⟨heap1 5 5, 38⟩ dPen = true := by decide +kernel
theorem run2_5_6 : rr.S cLaw turn2 kx0 (env1 5 6) ⟨heap1 5 6, 38⟩ dPen = true := by decide +kernel
theorem run2_6_0 : rr.S cLaw turn2 kx0 (env1 6 0) ⟨heap1 6 0, 38⟩ dPen = true := by decide +kernel
theorem run2_6_1 : rr.S cLaw turn2 kx0 (env1 6 1) ⟨heap1 6 1, 38⟩ dPen = true := by decide +kernel
theorem run2_6_2 : rr.S cLaw turn2 kx0 (env1 6 2) ⟨heap1 6 2, 38⟩ dPen = true := by decide +kernel
theorem run2_6_3 : rr.S cLaw turn2 kx0 (env1 6 3) ⟨heap1 6 3, 38⟩ dPen = true := by decide +kernel
theorem run2_6_4 : rr.S cLaw turn2 kx0 (env1 6 4) ⟨heap1 6 4, 38⟩ dPen = true := by decide +kernel
theorem run2_6_5 : rr.S cLaw turn2 kx0 (env1 6 5) ⟨heap1 6 5, 38⟩ dPen = true := by decide +kernel
theorem run2_6_6 : rr.S cLaw turn2 kx0 (env1 6 6) ⟨heap1 6 6, 38⟩ dPen = true := by decide +kernel
theorem run2 : ∀ i j : Nat, i < 7 → j < 7 → rr.S cLaw turn2 kx0 (env1 i j) ⟨heap1 i j, 38⟩ dPen = true
  | 0, 0, _, _ => run2_0_0
  | 0, 1, _, _ => run2_0_1
  | 0, 2, _, _ => run2_0_2
  | 0, 3, _, _ => run2_0_3
  | 0, 4, _, _ => run2_0_4
  | 0, 5, _, _ => run2_0_5
  | 0, 6, _, _ => run2_0_6
  | 0, n + 7, _, h => absurd h (by omega)
  | 1, 0, _, _ => run2_1_0
  | 1, 1, _, _ => run2_1_1
  | 1, 2, _, _ => run2_1_2
  | 1, 3, _, _ => run2_1_3
  | 1, 4, _, _ => run2_1_4
  | 1, 5, _, _ => run2_1_5
  | 1, 6, _, _ => run2_1_6
  | 1, n + 7, _, h => absurd h (by omega)
  | 2, 0, _, _ => run2_2_0
  | 2, 1, _, _ => run2_2_1
  | 2, 2, _, _ => run2_2_2
  | 2, 3, _, _ => run2_2_3
  | 2, 4, _, _ => run2_2_4
  | 2, 5, _, _ => run2_2_5
  | 2, 6, _, _ => run2_2_6
  | 2, n + 7, _, h => absurd h (by omega)
  | 3, 0, _, _ => run2_3_0
  | 3, 1, _, _ => run2_3_1
  | 3, 2, _, _ => run2_3_2
  | 3, 3, _, _ => run2_3_3
  | 3, 4, _, _ => run2_3_4
  | 3, 5, _, _ => run2_3_5
  | 3, 6, _, _ => run2_3_6
  | 3, n + 7, _, h => absurd h (by omega)
  | 4, 0, _, _ => run2_4_0
  | 4, 1, _, _ => run2_4_1
  | 4, 2, _, _ => run2_4_2
  | 4, 3, _, _ => run2_4_3
  | 4, 4, _, _ => run2_4_4
  | 4, 5, _, _ => run2_4_5
  | 4, 6, _, _ => run2_4_6
  | 4, n + 7, _, h => absurd h (by omega)
  | 5, 0, _, _ => run2_5_0
  | 5, 1, _, _ => run2_5_1
  | 5, 2, _, _ => run2_5_2
  | 5, 3, _, _ => run2_5_3
  | 5, 4, _, _ => run2_5_4
  | 5, 5, _, _ => run2_5_5
  | 5, 6, _, _ => run2_5_6
  | 5, n + 7, _, h => absurd h (by omega)
  | 6, 0, _, _ => run2_6_0
  | 6, 1, _, _ => run2_6_1
  | 6, 2, _, _ => run2_6_2
  | 6, 3, _, _ => run2_6_3
  | 6, 4, _, _ => run2_6_4
  | 6, 5, _, _ => run2_6_5
  | 6, 6, _, _ => run2_6_6
  | 6, n + 7, _, h => absurd h (by omega)
  | n + 7, _, h, _ => absurd h (by omega)
end Mi.k00

/-! part KD -/
set_option Elab.async false
set_option linter.all false
set_option maxRecDepth 100000
set_option maxHeartbeats 4000000
namespace Mi.k00
open PySem PySem.Spec PyProof.Rows L2 SC Mi
def spLaw (K : PySem.W.Frag) : Sp := fun vs H Q _ => ∃ (a : Addr) (ns : List Int), vs = [.ref a] ∧ SqL K H a (ns.map V.int) ∧ ns.length ≤ 63 ∧ ∀ H', Q (.bl true) H'
section
variable {P : Program} {w : World} {K : PySem.W.Frag} {mg : Str → Option Value} {base : Heap} {cA : Nat → Addr}
/-- the pen as the mirror's state of nothing else -/
theorem hr0 {H : Hp} {p c : Addr} {n m : Nat} (h : PenC H p c n) (hm : n + m ≤ 100000) : HR K cA ⟨[], p, n + m⟩ ⟨[], m⟩ H := by
  obtain ⟨at', rest, ns, h1, h2, h3, h4, h5, h6, h7⟩ := h
  exact ⟨rfl, List.nodup_nil, (fun i a o e => by cases e), ⟨c, at', rest, ns, n, h1, h2, h3, h4, h5, h6, h7, ⟨Nat.le_refl _, hm⟩, (fun z => by cases z), (fun z => by cases z)⟩⟩
theorem pen_out {φ : Ph} {ms : MS} {H : Hp} (h : HR K cA φ ms H) : ∃ c n, PenC H φ.pen c n ∧ n ≤ φ.B := by
  obtain ⟨c, at', rest, ns, n, h1, h2, h3, h4, h5, h6, h7, h8, _⟩ := h.pen
  exact ⟨c, n, ⟨at', rest, ns, h1, h2, h3, h4, h5, h6, h7⟩, by omega⟩
theorem enr0 {φ : Ph} {H : Hp} {σ : L2.St} (hl : σ.length = 13) (hp : σ[8]? = some (some (.ref φ.pen))) : EnR K cA φ H env0 σ := by
  match σ, hl, hp with
  | [a, b, c, d, e, f, g, h, i, j, k, l, m], _, hp =>
    have e : i = some (.ref φ.pen) := by simpa using hp
    subst e
    exact .skip (.skip (.skip (.skip (.skip (.skip (.skip (.skip (.cons .pen (.skip (.skip (.skip (.skip .nil))))))))))))
theorem pen_in {φ : Ph} {H : Hp} {e : ME} {σ : L2.St} (er : EnR K cA φ H e σ) (h : isPen e = true) : σ[8]? = some (some (.ref φ.pen)) ∧ σ.length = 13 := by
  unfold isPen at h
  split at h
  · rename_i q
    obtain ⟨v, q1, q2⟩ := er.get q
    cases q2
    exact ⟨q1, er.len.symm.trans (of_decide_eq_true h)⟩
  · cases h
theorem end_of {mv : MV} {ms : MS} (h : dEnd.rt mv ms = true) : mv = .bl true := by
  unfold dEnd at h
  dsimp only at h
  split at h
  · rfl
  · cases h
theorem pick_out {e : ME} {ms : MS} (h : Ans.ok (dPick.nx e ms)) : ∃ i j, i < 7 ∧ j < 7 ∧ e = env1 i j ∧ ms = ⟨heap1 i j, 38⟩ := by
  obtain ⟨l, h⟩ := h
  unfold dPick at h
  dsimp only at h
  split at h
  · rename_i j i
    simp only [Bool.and_eq_true, decide_eq_true_eq] at h
    refine ⟨i, j, h.1.2, h.2, eqL_ok eqM_ok h.1.1.1.1, ?_⟩
    have e1 := eqL_ok eqO_ok h.1.1.1.2
    have e2 := h.1.1.2
    cases ms
    cases e1
    cases e2
    rfl
  · cases h
theorem ok_law (B : Bas P w K mg base CX0 cA tb) {f fp : Addr} {fd fdp : FuncData} (F : Fun K "law" "law" sLaw f fd) (FP : FnOk P w K mg base CX0 1 fp fdp ["script"] (spPen K)) (bP : Binds K fdp ["script"] []) (mP : mg "_law_pen" = some (.ref fp)) (kP : PySem.W.keepIn K (.ref fp) = true) (zr : mg "range" = none) :
    FnG P w K mg base CX0 50 f fd ["script"] (spLaw K) := by
  refine fnG_of F scLaw (fun vs H Q E h => ?_) (fun cdv A outer s H vs Q E hg hr h => ?_)
  · obtain ⟨a, ns, rfl, _⟩ := h
    rfl
  · obtain ⟨a, ns, rfl, hS, hl, k⟩ := h
    obtain ⟨low, _⟩ := B.fnV (ρ := Bool) (F := 60) 10
    have o : Okc (cxOf CX0 P w K mg base lawN "law" (defScope sLaw) f cdv A outer s H E) CX0 E cA tb (callAt (ρ := Bool) tb 60 10) (4 * 10 + 1) cLaw := low.okc (fd := lawFd) scLaw hg (hr.mono (by decide))
    obtain ⟨lowH, _⟩ := B.fnV (ρ := AnsH) (F := 60) 10
    have oH : Okc (cxOf CX0 P w K mg base lawN "law" (defScope sLaw) f cdv A outer s H E) CX0 E cA tb (callAt (ρ := AnsH) tb 60 10) (4 * 10 + 1) cLaw := lowH.okc (fd := lawFd) scLaw hg (hr.mono (by decide))
    have snH := snd_rec (CX := CX0) (cA := cA) (tb := tb) (L := 4 * 10 + 1) (call := callAt (ρ := AnsH) tb 60 10) lowH.hF 60
    have sn := snd_rec (CX := CX0) (cA := cA) (tb := tb) (L := 4 * 10 + 1) (call := callAt (ρ := Bool) tb 60 10) low.hF 60
    refine ⟨_, pss_cons (ps_set (i := 8) scLaw.nd rfl (Or.inr rfl) (pe_callG (FnG.of FP) hg (hr.mono (by decide)) rfl mP kP bP .nil (E := E) (fun _ _ _ _ _ _ _ h => h.elim) (pa_cons (pv 0) pa_nil)))
      (pss_cons (ps_for PassesOwn.leaving rfl (pi_range1 rfl zr (pa_cons pe_int pa_nil)) (pg_name (i := 10) scLaw.nd rfl (Or.inl rfl)) (pss_cons (snd_st sn o turn0) (pss_cons (snd_st snH oH turn1) (sn.S o turn2))))
        (sn.S o tailB)), ?_⟩
    refine ⟨_, rfl, a, ns, rfl, hS, hl, fun p c H1 s1 hp hc pn => ?_⟩
    refine ⟨4, rfl, by decide, by decide, ?_⟩
    refine ⟨fun i m σ' H' => m = 4 - i ∧ i ≤ 4 ∧ σ'.length = 13 ∧ ∃ c n, σ'[8]? = some (some (.ref p)) ∧ PenC H' p c n ∧ n ≤ 60 * i, ⟨4, rfl, by decide, rfl, c, 0, rfl, pn, by decide⟩, fun i m σ' H' ⟨e1, e2, e3, c', n, e4, e5, e6⟩ => ?_⟩
    by_cases hi : i < 4
    · refine .inr ⟨hi, fun σ2 H2 => σ2.length = 13 ∧ ∃ c n, σ2[8]? = some (some (.ref p)) ∧ PenC H2 p c n ∧ n ≤ 60 * (i + 1), fun σ2 H2 ⟨z1, z2⟩ => ⟨4 - (i + 1), by omega, rfl, by omega, z1, z2⟩, fun x H2 ⟨y1, y2⟩ => ?_⟩
      subst y1
      -- the first statement of the turn
      refine ⟨⟨[], p, n + 20⟩, env0, ⟨[], 20⟩, kx0, dPen, enr0 (by simp [e3]) (by rw [List.getElem?_set_ne (by decide)]; exact e4), hr0 e5 (by omega), run0, ⟨?_, fun _ _ _ _ _ _ _ _ z => absurd z Bool.false_ne_true, fun _ _ _ _ _ _ _ _ z => absurd z Bool.false_ne_true, fun _ _ _ _ _ _ _ _ z => absurd z Bool.false_ne_true⟩, XT.none⟩
      intro φ1 ms1 H3 en1 σ3 g1 hr1 er1 ok1
      obtain ⟨p1, l1⟩ := pen_in er1 ok1
      obtain ⟨c3, n3, pn3, b3⟩ := pen_out hr1
      rw [g1.pen] at p1 pn3
      rw [g1.B] at b3
      have b3 : n3 ≤ n + 20 := b3
      -- the two values that are picked
      refine ⟨⟨[], p, n3 + 40⟩, env0, ⟨[], 40⟩, kx0, dPick, enr0 l1 p1, hr0 pn3 (by omega), ⟨[], run1⟩, ⟨?_, fun _ _ _ _ _ _ _ _ ⟨_, z⟩ => absurd z Bool.false_ne_true, fun _ _ _ _ _ _ _ _ ⟨_, z⟩ => absurd z Bool.false_ne_true, fun _ _ _ _ _ _ _ _ ⟨_, z⟩ => absurd z Bool.false_ne_true⟩, XT.none⟩
      intro φ2 ms2 H4 en2 σ4 g2 hr2 er2 ok2
      obtain ⟨i1, j1, hi1, hj1, e21, e22⟩ := pick_out ok2
      subst e21 e22
      -- the rest of the turn
      refine ⟨φ2, env1 i1 j1, ⟨heap1 i1 j1, 38⟩, kx0, dPen, er2, hr2, run2 i1 j1 hi1 hj1, ⟨?_, fun _ _ _ _ _ _ _ _ z => absurd z Bool.false_ne_true, fun _ _ _ _ _ _ _ _ z => absurd z Bool.false_ne_true, fun _ _ _ _ _ _ _ _ z => absurd z Bool.false_ne_true⟩, XT.none⟩
      intro φ3 ms3 H5 en3 σ5 g3 hr3 er3 ok3
      obtain ⟨p2, l2⟩ := pen_in er3 ok3
      obtain ⟨c4, n4, pn4, b4⟩ := pen_out hr3
      rw [g3.pen, g2.pen] at p2 pn4
      rw [g3.B, g2.B] at b4
      have b4 : n4 ≤ n3 + 40 := b4
      exact ⟨l2, c4, n4, p2, pn4, by omega⟩
    · have e : i = 4 := by omega
      subst e
      refine .inl ⟨Nat.le_refl _, ?_⟩
      refine ⟨⟨[], p, n + 20⟩, env0, ⟨[], 20⟩, kx0, dEnd, enr0 e3 e4, hr0 e5 (by omega), runT, ⟨fun _ _ _ _ _ _ _ _ z => absurd z Bool.false_ne_true, ?_, fun _ _ _ _ _ _ _ _ z => absurd z Bool.false_ne_true, fun _ _ _ _ _ _ _ _ z => absurd z Bool.false_ne_true⟩, XT.none⟩
      intro φ1 ms1 H3 mv v g1 hr1 vr ok1
      have z : mv = .bl true := end_of (ms := ms1) ok1
      subst z
      cases vr
      exact k H3
end
end Mi.k00

/-! part KEnd -/
set_option Elab.async false
set_option linter.all false
namespace Mi.k00
open PySem PySem.Spec PyProof.Rows L2 SC Mi
open PySem.W (Frag keepIn makesIn findIn isFn kitOne subIn)
set_option maxRecDepth 100000
set_option maxHeartbeats 4000000
theorem final {P : Program} {w : World} {K : Frag} {mg : Str → Option Value} {fa : Addr} (hfa : mg "law" = some (.ref fa)) {C0 C1 C2 C3 C4 C5 C6 C7 C8 C9 C10 C11 C12 C13 a0 a1 a2 a3 a4 a5 a6 a7 a8 aP aD aL : Addr} {odP anP odD anD odL anL : Option Addr} {slP slD slL : Array (Option Value)} {oP kVP dcP pmP cdP ctP oD kVD dcD pmD cdD ctD oL kVL dcL pmL cdL ctL : Value}
    (c0 : PlP K mg "Paper" C0)
    (mk0 : makesIn K C0 = true)
    (in0 : findIn K (.ref C0) "__init__" = some (some (.ref a1)))
    (fn0 : isFn K (.ref a1) = true)
    (na0_word : findIn K (.ref C0) "word" = some none)
    (na0_parts : findIn K (.ref C0) "parts" = some none)
    (c1 : PlP K mg "Denial" C1)
    (mk1 : makesIn K C1 = true)
    (in1 : findIn K (.ref C1) "__init__" = some (some (.ref a1)))
    (fn1 : isFn K (.ref a1) = true)
    (na1_word : findIn K (.ref C1) "word" = some none)
    (na1_parts : findIn K (.ref C1) "parts" = some none)
    (g2 : mg "ClothError" = some (.ref C2))
    (k2 : keepIn K (.ref C2) = true)
    (c3 : ExP1 P K mg "BadGarment" "part" C3)
    (c4 : ExP1 P K mg "BadNumber" "part" C4)
    (c5 : ExP1 P K mg "BadValue" "part" C5)
    (c6 : ExP1 P K mg "BadPlace" "part" C6)
    (c7 : ExP1 P K mg "BadPaper" "part" C7)
    (c8 : ExP1 P K mg "Misfit" "part" C8)
    (c9 : ExP1 P K mg "Nothing" "part" C9)
    (c10 : ExP1 P K mg "BadCommand" "word" C10)
    (c11 : ExP1 P K mg "NoName" "name" C11)
    (c12 : ExP2 P K mg "BadText" "line" "word" C12)
    (c13 : ExP2 P K mg "TooMany" "what" "most" C13)
    (eq0 : EqF K C0 a2)
    (eq1 : EqF K C1 a2)
    (bo0 : BoF K C0 a3)
    (bo1 : BoF K C1 a4)
    (m0 : mg "copied" = some (.ref a0))
    (m5 : mg "_law_pick" = some (.ref a5))
    (m6 : mg "_law_kinds_of" = some (.ref a6))
    (m7 : mg "_law_errors_right" = some (.ref a7))
    (m8 : mg "_law_tuples" = some (.ref a8))
    (f0 : FnP K (top 1) fd0 a0)
    (f1 : FnP K (meth 2 0) fd1 a1)
    (f2 : FnP K (meth 2 1) fd2 a2)
    (f3 : FnP K (meth 2 2) fd3 a3)
    (f4 : FnP K (meth 3 0) fd4 a4)
    (f5 : FnP K (top 20) fd5 a5)
    (f6 : FnP K (top 21) fd6 a6)
    (f7 : FnP K (top 22) fd7 a7)
    (f8 : FnP K (top 23) fd8 a8)
    (z_len : mg "len" = none)
    (z_isinstance : mg "isinstance" = none)
    (z_repr : mg "repr" = none)
    (z_tuple : mg "tuple" = none)
    (z_list : mg "list" = none)
    (z_int : mg "int" = none)
    (z_abs : mg "abs" = none)
    (z_bool : mg "bool" = none)
    (z_range : mg "range" = none)
    (z_enumerate : mg "enumerate" = none)
    (z_ValueError : mg "ValueError" = none)
    (mP : mg "_law_pen" = some (.ref aP))
    (kP : keepIn K (.ref aP) = true)
    (lP : K.lookup aP = some ⟨oP, odP, .func (PySem.W.fnOf "_law_pen" "_law_pen" (defArgs (top 18)) (defBody (top 18)) (defScope (top 18)) .none kVP dcP pmP anP cdP ctP), slP⟩)
    (cP : PySem.W.codeIn K cdP "_law_pen" = true)
    (mD : mg "_law_draw" = some (.ref aD))
    (kD : keepIn K (.ref aD) = true)
    (lD : K.lookup aD = some ⟨oD, odD, .func (PySem.W.fnOf "_law_draw" "_law_draw" (defArgs (top 19)) (defBody (top 19)) (defScope (top 19)) .none kVD dcD pmD anD cdD ctD), slD⟩)
    (cD : PySem.W.codeIn K cdD "_law_draw" = true)
    (mL : mg "law" = some (.ref aL))
    (kL : keepIn K (.ref aL) = true)
    (lL : K.lookup aL = some ⟨oL, odL, .func (PySem.W.fnOf "law" "law" (defArgs (top 24)) (defBody (top 24)) (defScope (top 24)) .none kVL dcL pmL anL cdL ctL), slL⟩)
    (cL : PySem.W.codeIn K cdL "law" = true)
    (hisi : (tb.isi.all fun p => decide (kitOne K (tv (fun n => [C0, C1, C2, C3, C4, C5, C6, C7, C8, C9, C10, C11, C12, C13].getD n 0) p.1.1) (tv (fun n => [C0, C1, C2, C3, C4, C5, C6, C7, C8, C9, C10, C11, C12, C13].getD n 0) p.1.2) = some p.2)) = true)
    (hsb : (tb.sb.all fun p => !(tv (fun n => [C0, C1, C2, C3, C4, C5, C6, C7, C8, C9, C10, C11, C12, C13].getD n 0) p.1.1 == tv (fun n => [C0, C1, C2, C3, C4, C5, C6, C7, C8, C9, C10, C11, C12, C13].getD n 0) p.1.2) && decide (subIn K (tv (fun n => [C0, C1, C2, C3, C4, C5, C6, C7, C8, C9, C10, C11, C12, C13].getD n 0) p.1.1) (tv (fun n => [C0, C1, C2, C3, C4, C5, C6, C7, C8, C9, C10, C11, C12, C13].getD n 0) p.1.2) = some p.2)) = true)
    : ∃ fd : FuncData, (∀ (s : Shared) (v : Value), BindsTo s fd ⟨[v], []⟩ [("script", v)]) ∧ ∀ base : Heap, K.In base → base.Ns mainGlobals mg → FnAt callerA P w K mg base CX0 fa fd ["script"] (spLaw K) := by
  cases hfa.symm.trans mL
  have FP := fun_mk (st := top 18) lP cP kP
  have FDr := fun_mk (st := top 19) lD cD kD
  have FL := fun_mk (st := top 24) lL cL kL
  have bP := FP.binds (ps := ["script"]) fun _ _ _ _ _ _ us hl => match us, hl with | [_], _ => rfl
  have bD := FDr.binds (ps := ["pen", "many"]) fun _ _ _ _ _ _ us hl => match us, hl with | [_, _], _ => rfl
  refine ⟨PySem.W.fnOf "law" "law" (defArgs (top 24)) (defBody (top 24)) (defScope (top 24)) .none kVL dcL pmL anL cdL ctL, fun s v => .of_eq rfl, fun base _ _ => ?_⟩
  have TB : SC.k00.Blt mg := ⟨z_int, z_len, z_abs⟩
  have hB := bas (w := w) (base := base) (f0 := f0) (f1 := f1) (f2 := f2) (f3 := f3) (f4 := f4) (f5 := f5) (f6 := f6) (f7 := f7) (f8 := f8) (m0 := m0) (m5 := m5) (m6 := m6) (m7 := m7) (m8 := m8) (c0 := c0) (mk0 := mk0) (in0 := in0) (fn0 := fn0) (na0_word := na0_word) (na0_parts := na0_parts) (c1 := c1) (mk1 := mk1) (in1 := in1) (fn1 := fn1) (na1_word := na1_word) (na1_parts := na1_parts) (g2 := g2) (k2 := k2) (c3 := c3) (c4 := c4) (c5 := c5) (c6 := c6) (c7 := c7) (c8 := c8) (c9 := c9) (c10 := c10) (c11 := c11) (c12 := c12) (c13 := c13) (eq0 := eq0) (eq1 := eq1) (bo0 := bo0) (bo1 := bo1) (z_len := z_len) (z_isinstance := z_isinstance) (z_repr := z_repr) (z_tuple := z_tuple) (z_list := z_list) (z_int := z_int) (z_abs := z_abs) (z_bool := z_bool) (z_range := z_range) (z_enumerate := z_enumerate) (z_ValueError := z_ValueError) (hisi := hisi) (hsb := hsb) (bD := bD) (mD := mD) (kD := kD) (FD := SC.k00.ok_draw FDr TB)
  exact ok_law hB FL (SC.k00.ok_pen FP TB) bP mP kP z_range callerA rfl ⟨rfl, by decide, by decide⟩
end Mi.k00
open PySem PySem.W PyProof.Rows
set_option maxRecDepth 100000 in
set_option maxHeartbeats 0 in
theorem PySem.Challenge.cw_samecloth_k00_errors_and_papers_holds : PySem.Challenge.rw_samecloth_k00_errors_and_papers.Holds := by
  w_on; o_law; k_head; (case hw => w_witness2)
  k_fill
  refine Mi.walkG (l := PySem.Challenge.rw_samecloth_k00_errors_and_papers) (CX := L2.CX0) (sp := Mi.k00.spLaw) (x := "script") rfl (by decide) rfl (fun w h Y => PySem.W.kIn_of Y) ?F (fun _ _ a ns hl _ hS => ⟨a, ns, rfl, hS, hl, fun _ => rfl⟩) (fun _ _ _ _ z => z)
  case F =>
    intro w mg fa h KX G hmg
    refine' Mi.k00.final hmg ?c0 ?mk0 ?in0 ?fn0 ?na0_word ?na0_parts ?c1 ?mk1 ?in1 ?fn1 ?na1_word ?na1_parts ?g2 ?k2 ?c3 ?c4 ?c5 ?c6 ?c7 ?c8 ?c9 ?c10 ?c11 ?c12 ?c13 ?eq0 ?eq1 ?bo0 ?bo1 ?m0 ?m5 ?m6 ?m7 ?m8 ?f0 ?f1 ?f2 ?f3 ?f4 ?f5 ?f6 ?f7 ?f8 ?z_len ?z_isinstance ?z_repr ?z_tuple ?z_list ?z_int ?z_abs ?z_bool ?z_range ?z_enumerate ?z_ValueError ?mP ?kP ?lP ?cP ?mD ?kD ?lD ?cD ?mL ?kL ?lL ?cL ?hisi ?hsb
    case c0 =>
      refine' Mi.pl_mk KX G ?aC ?kC ?pg ?hd ?po ?sa ?ha ?hn ?htk ?hm
      (case aC => k_is)
      (case kC => k_is)
      (case pg => k_is)
      (case hd => k_is)
      (case po => k_is)
      (case sa => k_is)
      (case ha => k_is)
      (case hn => k_is)
      (case htk => k_is)
      (case hm => k_is)
    (case mk0 => k_is)
    (case in0 => k_is)
    (case fn0 => k_is)
    (case na0_word => k_is)
    (case na0_parts => k_is)
    case c1 =>
      refine' Mi.pl_mk KX G ?aC ?kC ?pg ?hd ?po ?sa ?ha ?hn ?htk ?hm
      (case aC => k_is)
      (case kC => k_is)
      (case pg => k_is)
      (case hd => k_is)
      (case po => k_is)
      (case sa => k_is)
      (case ha => k_is)
      (case hn => k_is)
      (case htk => k_is)
      (case hm => k_is)
    (case mk1 => k_is)
    (case in1 => k_is)
    (case fn1 => k_is)
    (case na1_word => k_is)
    (case na1_parts => k_is)
    (case g2 => refine' PySem.W.mg_of KX G ?e; (case e => k_is))
    (case k2 => k_is)
    case c3 =>
      refine' Mi.ex1_mk KX G (.inl rfl) ?aC ?kC ?hC ?hbm ?sa ?iC ?tC ?lF ?lc ?ld ?v2 ?hf ?sup ?sVE ?own ?opq ?noS ?top ?noF ?cod ?lin ?xcl ?ga ?gg ?exC ?hd ?ca ?sp ?tk ?mo
      (case aC => k_is)
      (case kC => k_is)
      (case hC => k_is)
      (case hbm => first | rfl | decide +kernel)
      (case sa => k_is)
      (case iC => k_is)
      (case tC => k_is)
      (case lF => k_is)
      (case lc => k_is)
      (case ld => k_is)
      (case v2 => exact rfl)
      (case hf => first | rfl | decide +kernel)
      (case sup => ks_is)
      (case sVE => k_is)
      (case own => k_is)
      (case opq => k_is)
      (case noS => k_is)
      (case top => first | rfl | decide +kernel)
      (case noF => k_is)
      (case cod => k_is)
      (case lin => exact rfl)
      (case xcl => k_is)
      (case ga => k_is)
      (case gg => k_is)
      (case exC => k_is)
      (case hd => k_is)
      (case ca => k_is)
      (case sp => k_is)
      (case tk => k_is)
      (case mo => k_is)
    case c4 =>
      refine' Mi.ex1_mk KX G (.inl rfl) ?aC ?kC ?hC ?hbm ?sa ?iC ?tC ?lF ?lc ?ld ?v2 ?hf ?sup ?sVE ?own ?opq ?noS ?top ?noF ?cod ?lin ?xcl ?ga ?gg ?exC ?hd ?ca ?sp ?tk ?mo
      (case aC => k_is)
      (case kC => k_is)
      (case hC => k_is)
      (case hbm => first | rfl | decide +kernel)
      (case sa => k_is)
      (case iC => k_is)
      (case tC => k_is)
      (case lF => k_is)
      (case lc => k_is)
      (case ld => k_is)
      (case v2 => exact rfl)
      (case hf => first | rfl | decide +kernel)
      (case sup => ks_is)
      (case sVE => k_is)
      (case own => k_is)
      (case opq => k_is)
      (case noS => k_is)
      (case top => first | rfl | decide +kernel)
      (case noF => k_is)
      (case cod => k_is)
      (case lin => exact rfl)
      (case xcl => k_is)
      (case ga => k_is)
      (case gg => k_is)
      (case exC => k_is)
      (case hd => k_is)
      (case ca => k_is)
      (case sp => k_is)
      (case tk => k_is)
      (case mo => k_is)
    case c5 =>
      refine' Mi.ex1_mk KX G (.inl rfl) ?aC ?kC ?hC ?hbm ?sa ?iC ?tC ?lF ?lc ?ld ?v2 ?hf ?sup ?sVE ?own ?opq ?noS ?top ?noF ?cod ?lin ?xcl ?ga ?gg ?exC ?hd ?ca ?sp ?tk ?mo
      (case aC => k_is)
      (case kC => k_is)
      (case hC => k_is)
      (case hbm => first | rfl | decide +kernel)
      (case sa => k_is)
      (case iC => k_is)
      (case tC => k_is)
      (case lF => k_is)
      (case lc => k_is)
      (case ld => k_is)
      (case v2 => exact rfl)
      (case hf => first | rfl | decide +kernel)
      (case sup => ks_is)
      (case sVE => k_is)
      (case own => k_is)
      (case opq => k_is)
      (case noS => k_is)
      (case top => first | rfl | decide +kernel)
      (case noF => k_is)
      (case cod => k_is)
      (case lin => exact rfl)
      (case xcl => k_is)
      (case ga => k_is)
      (case gg => k_is)
      (case exC => k_is)
      (case hd => k_is)
      (case ca => k_is)
      (case sp => k_is)
      (case tk => k_is)
      (case mo => k_is)
    case c6 =>
      refine' Mi.ex1_mk KX G (.inl rfl) ?aC ?kC ?hC ?hbm ?sa ?iC ?tC ?lF ?lc ?ld ?v2 ?hf ?sup ?sVE ?own ?opq ?noS ?top ?noF ?cod ?lin ?xcl ?ga ?gg ?exC ?hd ?ca ?sp ?tk ?mo
      (case aC => k_is)
      (case kC => k_is)
      (case hC => k_is)
      (case hbm => first | rfl | decide +kernel)
      (case sa => k_is)
      (case iC => k_is)
      (case tC => k_is)
      (case lF => k_is)
      (case lc => k_is)
      (case ld => k_is)
      (case v2 => exact rfl)
      (case hf => first | rfl | decide +kernel)
      (case sup => ks_is)
      (case sVE => k_is)
      (case own => k_is)
      (case opq => k_is)
      (case noS => k_is)
      (case top => first | rfl | decide +kernel)
      (case noF => k_is)
      (case cod => k_is)
      (case lin => exact rfl)
      (case xcl => k_is)
      (case ga => k_is)
      (case gg => k_is)
      (case exC => k_is)
      (case hd => k_is)
      (case ca => k_is)
      (case sp => k_is)
      (case tk => k_is)
      (case mo => k_is)
    case c7 =>
      refine' Mi.ex1_mk KX G (.inl rfl) ?aC ?kC ?hC ?hbm ?sa ?iC ?tC ?lF ?lc ?ld ?v2 ?hf ?sup ?sVE ?own ?opq ?noS ?top ?noF ?cod ?lin ?xcl ?ga ?gg ?exC ?hd ?ca ?sp ?tk ?mo
      (case aC => k_is)
      (case kC => k_is)
      (case hC => k_is)
      (case hbm => first | rfl | decide +kernel)
      (case sa => k_is)
      (case iC => k_is)
      (case tC => k_is)
      (case lF => k_is)
      (case lc => k_is)
      (case ld => k_is)
      (case v2 => exact rfl)
      (case hf => first | rfl | decide +kernel)
      (case sup => ks_is)
      (case sVE => k_is)
      (case own => k_is)
      (case opq => k_is)
      (case noS => k_is)
      (case top => first | rfl | decide +kernel)
      (case noF => k_is)
      (case cod => k_is)
      (case lin => exact rfl)
      (case xcl => k_is)
      (case ga => k_is)
      (case gg => k_is)
      (case exC => k_is)
      (case hd => k_is)
      (case ca => k_is)
      (case sp => k_is)
      (case tk => k_is)
      (case mo => k_is)
    case c8 =>
      refine' Mi.ex1_mk KX G (.inl rfl) ?aC ?kC ?hC ?hbm ?sa ?iC ?tC ?lF ?lc ?ld ?v2 ?hf ?sup ?sVE ?own ?opq ?noS ?top ?noF ?cod ?lin ?xcl ?ga ?gg ?exC ?hd ?ca ?sp ?tk ?mo
      (case aC => k_is)
      (case kC => k_is)
      (case hC => k_is)
      (case hbm => first | rfl | decide +kernel)
      (case sa => k_is)
      (case iC => k_is)
      (case tC => k_is)
      (case lF => k_is)
      (case lc => k_is)
      (case ld => k_is)
      (case v2 => exact rfl)
      (case hf => first | rfl | decide +kernel)
      (case sup => ks_is)
      (case sVE => k_is)
      (case own => k_is)
      (case opq => k_is)
      (case noS => k_is)
      (case top => first | rfl | decide +kernel)
      (case noF => k_is)
      (case cod => k_is)
      (case lin => exact rfl)
      (case xcl => k_is)
      (case ga => k_is)
      (case gg => k_is)
      (case exC => k_is)
      (case hd => k_is)
      (case ca => k_is)
      (case sp => k_is)
      (case tk => k_is)
      (case mo => k_is)
    case c9 =>
      refine' Mi.ex1_mk KX G (.inl rfl) ?aC ?kC ?hC ?hbm ?sa ?iC ?tC ?lF ?lc ?ld ?v2 ?hf ?sup ?sVE ?own ?opq ?noS ?top ?noF ?cod ?lin ?xcl ?ga ?gg ?exC ?hd ?ca ?sp ?tk ?mo
      (case aC => k_is)
      (case kC => k_is)
      (case hC => k_is)
      (case hbm => first | rfl | decide +kernel)
      (case sa => k_is)
      (case iC => k_is)
      (case tC => k_is)
      (case lF => k_is)
      (case lc => k_is)
      (case ld => k_is)
      (case v2 => exact rfl)
      (case hf => first | rfl | decide +kernel)
      (case sup => ks_is)
      (case sVE => k_is)
      (case own => k_is)
      (case opq => k_is)
      (case noS => k_is)
      (case top => first | rfl | decide +kernel)
      (case noF => k_is)
      (case cod => k_is)
      (case lin => exact rfl)
      (case xcl => k_is)
      (case ga => k_is)
      (case gg => k_is)
      (case exC => k_is)
      (case hd => k_is)
      (case ca => k_is)
      (case sp => k_is)
      (case tk => k_is)
      (case mo => k_is)
    case c10 =>
      refine' Mi.ex1_mk KX G (.inr (.inl rfl)) ?aC ?kC ?hC ?hbm ?sa ?iC ?tC ?lF ?lc ?ld ?v2 ?hf ?sup ?sVE ?own ?opq ?noS ?top ?noF ?cod ?lin ?xcl ?ga ?gg ?exC ?hd ?ca ?sp ?tk ?mo
      (case aC => k_is)
      (case kC => k_is)
      (case hC => k_is)
      (case hbm => first | rfl | decide +kernel)
      (case sa => k_is)
      (case iC => k_is)
      (case tC => k_is)
      (case lF => k_is)
      (case lc => k_is)
      (case ld => k_is)
      (case v2 => exact rfl)
      (case hf => first | rfl | decide +kernel)
      (case sup => ks_is)
      (case sVE => k_is)
      (case own => k_is)
      (case opq => k_is)
      (case noS => k_is)
      (case top => first | rfl | decide +kernel)
      (case noF => k_is)
      (case cod => k_is)
      (case lin => exact rfl)
      (case xcl => k_is)
      (case ga => k_is)
      (case gg => k_is)
      (case exC => k_is)
      (case hd => k_is)
      (case ca => k_is)
      (case sp => k_is)
      (case tk => k_is)
      (case mo => k_is)
    case c11 =>
      refine' Mi.ex1_mk KX G (.inr (.inr rfl)) ?aC ?kC ?hC ?hbm ?sa ?iC ?tC ?lF ?lc ?ld ?v2 ?hf ?sup ?sVE ?own ?opq ?noS ?top ?noF ?cod ?lin ?xcl ?ga ?gg ?exC ?hd ?ca ?sp ?tk ?mo
      (case aC => k_is)
      (case kC => k_is)
      (case hC => k_is)
      (case hbm => first | rfl | decide +kernel)
      (case sa => k_is)
      (case iC => k_is)
      (case tC => k_is)
      (case lF => k_is)
      (case lc => k_is)
      (case ld => k_is)
      (case v2 => exact rfl)
      (case hf => first | rfl | decide +kernel)
      (case sup => ks_is)
      (case sVE => k_is)
      (case own => k_is)
      (case opq => k_is)
      (case noS => k_is)
      (case top => first | rfl | decide +kernel)
      (case noF => k_is)
      (case cod => k_is)
      (case lin => exact rfl)
      (case xcl => k_is)
      (case ga => k_is)
      (case gg => k_is)
      (case exC => k_is)
      (case hd => k_is)
      (case ca => k_is)
      (case sp => k_is)
      (case tk => k_is)
      (case mo => k_is)
    case c12 =>
      refine' Mi.ex2_mk KX G (.inl ⟨rfl, rfl⟩) ?aC ?kC ?hC ?hbm ?sa ?iC ?tC ?lF ?lc ?ld ?v2 ?hf ?sup ?sVE ?own ?opq ?noS ?top ?noF ?noK ?cod ?lin ?xcl ?ga ?gg ?exC ?hd ?ca ?sp ?tk ?mo
      (case aC => k_is)
      (case kC => k_is)
      (case hC => k_is)
      (case hbm => first | rfl | decide +kernel)
      (case sa => k_is)
      (case iC => k_is)
      (case tC => k_is)
      (case lF => k_is)
      (case lc => k_is)
      (case ld => k_is)
      (case v2 => exact rfl)
      (case hf => first | rfl | decide +kernel)
      (case sup => ks_is)
      (case sVE => k_is)
      (case own => k_is)
      (case opq => k_is)
      (case noS => k_is)
      (case top => first | rfl | decide +kernel)
      (case noF => k_is)
      (case noK => k_is)
      (case cod => k_is)
      (case lin => exact rfl)
      (case xcl => k_is)
      (case ga => k_is)
      (case gg => k_is)
      (case exC => k_is)
      (case hd => k_is)
      (case ca => k_is)
      (case sp => k_is)
      (case tk => k_is)
      (case mo => k_is)
    case c13 =>
      refine' Mi.ex2_mk KX G (.inr ⟨rfl, rfl⟩) ?aC ?kC ?hC ?hbm ?sa ?iC ?tC ?lF ?lc ?ld ?v2 ?hf ?sup ?sVE ?own ?opq ?noS ?top ?noF ?noK ?cod ?lin ?xcl ?ga ?gg ?exC ?hd ?ca ?sp ?tk ?mo
      (case aC => k_is)
      (case kC => k_is)
      (case hC => k_is)
      (case hbm => first | rfl | decide +kernel)
      (case sa => k_is)
      (case iC => k_is)
      (case tC => k_is)
      (case lF => k_is)
      (case lc => k_is)
      (case ld => k_is)
      (case v2 => exact rfl)
      (case hf => first | rfl | decide +kernel)
      (case sup => ks_is)
      (case sVE => k_is)
      (case own => k_is)
      (case opq => k_is)
      (case noS => k_is)
      (case top => first | rfl | decide +kernel)
      (case noF => k_is)
      (case noK => k_is)
      (case cod => k_is)
      (case lin => exact rfl)
      (case xcl => k_is)
      (case ga => k_is)
      (case gg => k_is)
      (case exC => k_is)
      (case hd => k_is)
      (case ca => k_is)
      (case sp => k_is)
      (case tk => k_is)
      (case mo => k_is)
    (case eq0 => refine' Mi.EqF.mk ?e1 ?e2 ?e3 ?e4; (case e1 => k_is); (case e2 => k_is); (case e3 => k_is); (case e4 => k_is))
    (case eq1 => refine' Mi.EqF.mk ?e1 ?e2 ?e3 ?e4; (case e1 => k_is); (case e2 => k_is); (case e3 => k_is); (case e4 => k_is))
    (case bo0 => refine' Mi.BoF.mk ?e1 ?e2; (case e1 => k_is); (case e2 => k_is))
    (case bo1 => refine' Mi.BoF.mk ?e1 ?e2; (case e1 => k_is); (case e2 => k_is))
    (case m0 => refine' PySem.W.mg_of KX G ?e; (case e => k_is))
    (case m5 => refine' PySem.W.mg_of KX G ?e; (case e => k_is))
    (case m6 => refine' PySem.W.mg_of KX G ?e; (case e => k_is))
    (case m7 => refine' PySem.W.mg_of KX G ?e; (case e => k_is))
    (case m8 => refine' PySem.W.mg_of KX G ?e; (case e => k_is))
    (case f0 => refine' Mi.fn_mk (name := "copied") (qual := "copied") (ps := ["value"]) (pv := "") Mi.k00.S0 Mi.k00.B0 rfl rfl ?l ?c ?k; (case l => k_is); (case c => k_is); (case k => k_is))
    (case f1 => refine' Mi.fn_mk (name := "__init__") (qual := "Paper.__init__") (ps := ["self", "word"]) (pv := "parts") Mi.k00.S1 Mi.k00.B1 rfl rfl ?l ?c ?k; (case l => k_is); (case c => k_is); (case k => k_is))
    (case f2 => refine' Mi.fn_mk (name := "__eq__") (qual := "Paper.__eq__") (ps := ["self", "other"]) (pv := "") Mi.k00.S2 Mi.k00.B2 rfl rfl ?l ?c ?k; (case l => k_is); (case c => k_is); (case k => k_is))
    (case f3 => refine' Mi.fn_mk (name := "__bool__") (qual := "Paper.__bool__") (ps := ["self"]) (pv := "") Mi.k00.S3 Mi.k00.B3 rfl rfl ?l ?c ?k; (case l => k_is); (case c => k_is); (case k => k_is))
    (case f4 => refine' Mi.fn_mk (name := "__bool__") (qual := "Denial.__bool__") (ps := ["self"]) (pv := "") Mi.k00.S4 Mi.k00.B4 rfl rfl ?l ?c ?k; (case l => k_is); (case c => k_is); (case k => k_is))
    (case f5 => refine' Mi.fn_mk (name := "_law_pick") (qual := "_law_pick") (ps := ["pen", "some"]) (pv := "") Mi.k00.S5 Mi.k00.B5 rfl rfl ?l ?c ?k; (case l => k_is); (case c => k_is); (case k => k_is))
    (case f6 => refine' Mi.fn_mk (name := "_law_kinds_of") (qual := "_law_kinds_of") (ps := ["error"]) (pv := "") Mi.k00.S6 Mi.k00.B6 rfl rfl ?l ?c ?k; (case l => k_is); (case c => k_is); (case k => k_is))
    (case f7 => refine' Mi.fn_mk (name := "_law_errors_right") (qual := "_law_errors_right") (ps := ["pen"]) (pv := "") Mi.k00.S7 Mi.k00.B7 rfl rfl ?l ?c ?k; (case l => k_is); (case c => k_is); (case k => k_is))
    (case f8 => refine' Mi.fn_mk (name := "_law_tuples") (qual := "_law_tuples") (ps := ["value"]) (pv := "") Mi.k00.S8 Mi.k00.B8 rfl rfl ?l ?c ?k; (case l => k_is); (case c => k_is); (case k => k_is))
    (case z_len => refine' PySem.W.mg_none_of KX G ?e; (case e => k_is))
    (case z_isinstance => refine' PySem.W.mg_none_of KX G ?e; (case e => k_is))
    (case z_repr => refine' PySem.W.mg_none_of KX G ?e; (case e => k_is))
    (case z_tuple => refine' PySem.W.mg_none_of KX G ?e; (case e => k_is))
    (case z_list => refine' PySem.W.mg_none_of KX G ?e; (case e => k_is))
    (case z_int => refine' PySem.W.mg_none_of KX G ?e; (case e => k_is))
    (case z_abs => refine' PySem.W.mg_none_of KX G ?e; (case e => k_is))
    (case z_bool => refine' PySem.W.mg_none_of KX G ?e; (case e => k_is))
    (case z_range => refine' PySem.W.mg_none_of KX G ?e; (case e => k_is))
    (case z_enumerate => refine' PySem.W.mg_none_of KX G ?e; (case e => k_is))
    (case z_ValueError => refine' PySem.W.mg_none_of KX G ?e; (case e => k_is))
    (case mP => refine' PySem.W.mg_of KX G ?e; (case e => k_is))
    (case kP => k_is)
    (case lP => k_is)
    (case cP => k_is)
    (case mD => refine' PySem.W.mg_of KX G ?e; (case e => k_is))
    (case kD => k_is)
    (case lD => k_is)
    (case cD => k_is)
    (case mL => refine' PySem.W.mg_of KX G ?e; (case e => k_is))
    (case kL => k_is)
    (case lL => k_is)
    (case cL => k_is)
    (case hisi => kernel_rfl)
    (case hsb => kernel_rfl)
#print axioms PySem.Challenge.cw_samecloth_k00_errors_and_papers_holds
