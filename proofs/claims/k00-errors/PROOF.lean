import PyProof.Rows.All
import Wide.All
import OpenK.AllK
import Wide.FinOn
import HandS.ForMost
import HandS.ForExc
import HandS.Lambda
import HandS.ExcInit
import HandS.ExcField
import HandS.ExcSuper
import KE.KExcSuper
import KE.KSuper
import HandS.ExcIs
import HandS.ExcValue
import KE.KEqDict
import HandS.Dict
import HandS.Flow
import HandS.TupAny
import HandS.TupMul
import HandS.IsInst
import HandS.SortInts
import HandS.Zip
import HandS.WordsDict
import HandS.TupLen
import HandS.More
import HandS.TryMany
import HandS.DictComp
import HandS.Style
import HandS.Strs
import HandS.SetFor
import HandS.IntHex
import HandS.Star
import HandS.WordsExc
import HandS.Ends
import HandS.EndTab
import KE.RegKSuper
import PySem.Challenge.RW_castings_k00_errors_of_the_package
set_option Elab.async false
set_option linter.all false
set_option maxRecDepth 100000
set_option maxHeartbeats 4000000
namespace PySem
namespace CTX
open PySem.W PySem.Calls PyProof.Rows PySem.HandSPX
/-! ### an own exception whose __init__ calls super().__init__ and keeps its arguments -/
def setsB : List Str → List Stmt → Bool
  | [], [] => true
  | f :: fs, .Assign [.Attribute (.Name x _) g _] (.Name y _) _ :: ss => decide (x = "self") && decide (g = f) && decide (y = f) && setsB fs ss
  | _, _ => false
def argsB : List Str → List Expr → Bool
  | [], [] => true
  | f :: fs, .Name y _ :: es => decide (y = f) && argsB fs es
  | _, _ => false
def initB (fs : List Str) : List Stmt → Bool
  | .Expr (.Call (.Attribute (.Call (.Name s _) [] [] _) i p2) args [] p3) _ :: ss => decide (s = "super") && decide (i = "__init__") && (p2.endLine == p3.line) && argsB fs args && setsB fs ss
  | _ => false
structure XcTxt (prog : Program) (K : Frag) (mg : Str → Option Value) (x : Str) (C fI : Addr) (fs : List Str) : Prop where
  gC : mg x = some (.ref C)
  cls : ∃ nm q N bs bm sn sub ab col dd k0 k1 k2 k3 k5, K.lookup C = some (excClassObj nm q C N bs bm true sn sub ab col dd k0 k1 k2 k3 k5 "ValueError.__new__") ∧ refsVE bm = true
  sa : findIn K (.ref C) "__setattr__" = some (some (.builtin "object.__setattr__"))
  ga : findIn K (.ref C) "__getattribute__" = some (some (.builtin "BaseException.__getattribute__"))
  gg : findIn K (.ref C) "__getattr__" = some none
  noN : ∀ f ∈ fs, findIn K (.ref C) f = some none
  iC : findIn K (.ref C) "__init__" = some (some (.ref fI))
  tC : typeIn K (.ref fI) = some (.type "function")
  kC : keepIn K (.ref C) = true
  exC : subIn K (.ref C) (.type "BaseException") = some true
  veC : subIn K (.ref C) (.type "ValueError") = some true
  tyC : typeIn K (.ref C) = some (.type "type")
  hdC : hasDictIn K C = true
  mroC : mroIn K C (.ref C) = some true
  sup : ks_superIn K C C "__init__" = some (some (.builtin "ValueError.__init__"))
  nsup : mg "super" = none
  opq : nsIn K cStatics "thirdparty.any" = some none
  top : (prog.main.scope.names.lookup ("super" : Str)).isSome = false
  fne : fs ≠ []
  nd : (("self" : Str) :: fs).Nodup
  ndb : ∀ f ∈ ("self" : Str) :: fs, (f == ("__debug__" : Str)) = false
  fl : fs.length ≤ 20
  fn : ∃ (qual : Str) (params : Arguments) (body : List Stmt) (scope : Scope) (dV kV doc pm ct oc : Value) (an od : Option Addr) (osl : Array (Option Value)) (cc cda : Addr) (ar : Arg) (vs : Array Value) (file : Str) (tf : Tok) (ccl cl : Value) (cdd cld : Option Addr) (ccs csl : Array (Option Value)),
    K.lookup fI = some ⟨oc, od, .func (ksFn "__init__" qual params body scope dV kV doc pm an (.ref cda) ct cc), osl⟩ ∧ codeIn K (.ref cda) qual = true ∧ initB fs body = true ∧
    (params.posonlyargs ++ params.args).head? = some ar ∧ ar.arg = "self" ∧ K.lookup cda = some ⟨ccl, cdd, .fields vs, ccs⟩ ∧ vs[2]? = some (.str file tf) ∧ ((prog.main.file : Str) == file) = true ∧
    K.lookup cc = some ⟨cl, cld, .cell (some (.ref C)), csl⟩ ∧ scope.names.lookup ("super" : Str) = some .globalImplicit ∧ scope.names.lookup ("__class__" : Str) = some .free ∧ (∀ f ∈ ("self" : Str) :: fs, scope.names.lookup f = some .local) ∧
    scope.kind = .function ∧ scope.isCoroutine = false ∧ scope.isGenerator = false ∧ (∀ y ∈ scope.names, y.2 ≠ .cell) ∧
    (∀ us : List Value, us.length = fs.length + 1 → bindArgs (ksFn "__init__" qual params body scope dV kV doc pm an (.ref cda) ct cc) ⟨us, []⟩ = pure ((("self" : Str) :: fs).zip us))
theorem lookup_mem {α : Type} {f : Str} {v : α} : ∀ {l : List (Str × α)}, (l.map (·.1)).Nodup → (f, v) ∈ l → l.lookup f = some v
  | [], _, h => by cases h
  | (g, u) :: l, nd, h => by
    rw [List.map_cons, List.nodup_cons] at nd
    rcases List.mem_cons.mp h with e | e
    · cases e
      simp [List.lookup]
    · have ne : f ≠ g := fun z => nd.1 (List.mem_map.mpr ⟨(f, v), e, z⟩)
      have q : (f == g) = false := by simpa using ne
      simp only [List.lookup, q]
      exact lookup_mem nd.2 e
theorem nodup_rev {α : Type} : ∀ {l : List α}, l.Nodup → l.reverse.Nodup := fun {l} h => by
  rw [List.nodup_iff_pairwise_ne] at h ⊢
  rw [List.pairwise_reverse]
  exact h.imp fun hab z => hab z.symm
theorem zip_fst {α β : Type} : ∀ (a : List α) (b : List β), a.length ≤ b.length → (a.zip b).map (·.1) = a
  | [], _, _ => rfl
  | x :: a, [], h => by simp at h
  | x :: a, y :: b, h => by
    simp only [List.zip_cons_cons, List.map_cons]
    rw [zip_fst a b (by simpa using h)]
section
variable {prog : Program} {w : World} {M : Model} {A : Around} {E : Value → Shared → Prop} {s : Shared}
theorem xc_args {env : Env} {m : Str → Option Value} {pos : Pos} (hk : env.scope.kind = .function) (hn : s.heap.Ns env.locals m) : ∀ {fs : List Str} {es : List Expr} {vs : List Value} {Q : List Value → Shared → Prop}, argsB fs es = true → fs.length = vs.length → (∀ p ∈ fs.zip vs, m p.1 = some p.2) →
    (∀ f ∈ fs, env.kindOf f = some .local) → (∀ f ∈ fs, (f == ("__debug__" : Str)) = false) → Q vs s → wpAny M A (spliced (backTo pos (starEach es env))) Q E s
  | [], [], [], Q, _, _, _, _, _, q => Calls.spliced_nil q
  | [], [], _ :: _, _, _, h, _, _, _, _ => by simp at h
  | [], _ :: _, _, _, h, _, _, _, _, _ => by simp [argsB] at h
  | f :: fs, [], _, _, h, _, _, _, _, _ => by simp [argsB] at h
  | f :: fs, e :: es, [], _, _, h, _, _, _, _ => by simp at h
  | f :: fs, e :: es, v :: vs, Q, h, hl, hv, hloc, hd, q => by
    cases e <;> first | (simp [argsB] at h; done) | skip
    rename_i y p
    simp only [argsB, Bool.and_eq_true, decide_eq_true_eq] at h
    obtain ⟨rfl, h⟩ := h
    show wpAny _ _ (spliced ((false, eval (.Name y p) env) :: backTo pos (starEach es env))) _ _ s
    refine Calls.spliced_cons (wpAny_Name (wpAny_loadName_local hk (hloc y List.mem_cons_self) hn (hv (y, v) (by simp)) ?_) (hd y List.mem_cons_self))
    exact xc_args hk hn h (by simpa using hl) (fun p hp => hv p (by rw [List.zip_cons_cons]; exact List.mem_cons_of_mem _ hp)) (fun f hf => hloc f (List.mem_cons_of_mem _ hf)) (fun f hf => hd f (List.mem_cons_of_mem _ hf)) q
theorem args_len : ∀ {fs : List Str} {es : List Expr}, argsB fs es = true → es.length = fs.length
  | [], [], _ => rfl
  | [], _ :: _, h => by simp [argsB] at h
  | f :: fs, [], h => by simp [argsB] at h
  | f :: fs, e :: es, h => by
    cases e <;> first | (simp [argsB] at h; done) | skip
    simp only [argsB, Bool.and_eq_true, decide_eq_true_eq] at h
    simp [args_len h.2]
theorem eval_meth {env : Env} {o : Expr} {name : Str} {p2 p3 : Pos} {args : List Expr} (hp : (p2.endLine == p3.line) = true) (hl : args.length < 30) (hplain : (backTo p3 (starEach args env)).any (·.1) = false) :
    eval (.Call (.Attribute o name p2) args [] p3) env = (do
      let ov ← attributeBase o name env (eval o env)
      standAt p2.atName
      let (f, first) ← holding [ov] (getMethod ov name (do return (← importBound o env).getD true))
      callWith p3 f first (backTo p3 (starEach args env)) []) := by
  have hf : methodCallForm (args.length + 0) (backTo p3 (starEach args env)) [] = true := by
    unfold methodCallForm
    have : (backTo p3 (starEach args env)).all (!·.1) = true := by
      rw [List.all_eq_not_any_not]
      simpa using hplain
    rw [this]
    simp
    omega
  show (do
    let ov ← attributeBase o name env (eval o env)
    standAt p2.atName
    methodCall o name p2 p3 env ov (args.length + 0) (backTo p3 (starEach args env)) []) = _
  unfold methodCall calleeOf methodCallPos
  simp only [hf, hp, Bool.or_true, if_true, pure_bind]
theorem args_plain {env : Env} {pos : Pos} : ∀ {fs : List Str} {es : List Expr}, argsB fs es = true → (backTo pos (starEach es env)).any (·.1) = false
  | [], [], _ => rfl
  | [], _ :: _, h => by simp [argsB] at h
  | f :: fs, [], h => by simp [argsB] at h
  | f :: fs, e :: es, h => by
    cases e <;> first | (simp [argsB] at h; done) | skip
    rename_i y p
    simp only [argsB, Bool.and_eq_true, decide_eq_true_eq] at h
    show (false || (backTo pos (starEach es env)).any (·.1)) = false
    rw [args_plain h.2]
    rfl
theorem ev_args {env : Env} {pos : Pos} {f : Value} {fs : List Str} {es : List Expr} {Q : Args → Shared → Prop} (hf : fs ≠ []) (ha : argsB fs es = true) (h : wpAny M A (spliced (backTo pos (starEach es env))) (fun vs s' => Q ⟨vs, []⟩ s') E s) : wpAny M A (evalArgs f true (backTo pos (starEach es env)) []) Q E s := by
  cases fs with
  | nil => exact absurd rfl hf
  | cons g fs =>
    cases es with
    | nil => simp [argsB] at ha
    | cons e es =>
      cases e <;> first | (simp [argsB] at ha; done) | exact evalArgs_plain h
def putAll : List (Str × Value) → (Str → Option Value) → Str → Option Value
  | [], m => m
  | (f, v) :: r, m => putAll r (fun y => if y = f then some v else m y)
theorem kept_but {K : Frag} {h h' : Heap} {x : Addr} (X : K.In h) (hx : K.lookup x = none) (k : ∀ b o, b ≠ x → h.get? b = some o → h'.get? b = some o) : K.In h' := fun a o e =>
  k a o (fun z => by rw [z, hx] at e; cases e) (X a o e)
abbrev obX (C t1 : Addr) (d : Option Addr) : Obj := { cls := .ref C, dict := d, data := .fields #[.ref t1, .none, .none, .none, .bool false, .none] }
/-- the further stores -/
theorem xc_sets {K : Frag} {mg : Str → Option Value} {cx : Str} {C fI x dx t1 : Addr} {all : List Str} {env : Env} {m : Str → Option Value} (T : XcTxt prog K mg cx C fI all) (hk : env.scope.kind = .function) (hlx : env.locals ≠ x) (hld : env.locals ≠ dx) (hnx : K.lookup x = none) (hnd : K.lookup dx = none) (hdx : dx ≠ x)
    (hself : env.kindOf "self" = some .local) (hms : m "self" = some (.ref x)) : ∀ {fs : List Str} {ss : List Stmt} {vs : List Value} {mA : Str → Option Value} {nl : List Str} {s : Shared} {Q : Flow → Shared → Prop}, setsB fs ss = true → fs.length = vs.length → (∀ f ∈ fs, f ∈ all) → (∀ p ∈ fs.zip vs, m p.1 = some p.2) → (∀ f ∈ fs, env.kindOf f = some .local) →
    K.In s.heap → s.heap.Ns env.locals m → s.heap.get? x = some (obX C t1 (some dx)) → s.heap.Ns1 dx mA → Within mA nl → nl.length + fs.length ≤ 1000 →
    (∀ h' tk', (∀ b o, b ≠ dx → s.heap.get? b = some o → h'.get? b = some o) → h'.Ns1 dx (putAll (fs.zip vs) mA) → Q .next { s with heap := h', toks := tk' }) → wpAny (model prog w) A (execs ss env) Q E s
  | [], [], [], mA, nl, s, Q, _, _, _, _, _, X, hn, hx, h1, hw, hz, q => wpAny_execs_nil (q s.heap s.toks (fun b o _ e => e) h1)
  | [], [], _ :: _, _, _, _, _, _, h, _, _, _, _, _, _, _, _, _, _ => by simp at h
  | [], _ :: _, _, _, _, _, _, h, _, _, _, _, _, _, _, _, _, _, _ => by simp [setsB] at h
  | f :: fs, [], _, _, _, _, _, h, _, _, _, _, _, _, _, _, _, _, _ => by simp [setsB] at h
  | f :: fs, st :: ss, [], _, _, _, _, _, h, _, _, _, _, _, _, _, _, _, _ => by simp at h
  | f :: fs, st :: ss, v :: vs, mA, nl, s, Q, h, hl, ha, hv, hloc, X, hn, hx, h1, hw, hz, q => by
    unfold setsB at h
    split at h
    · rename_i e1 e2; cases e1
    · rename_i f' fs' x' p1 g p2 y p3 p4 ss' e1 e2
      cases e1
      cases e2
      simp only [Bool.and_eq_true, decide_eq_true_eq] at h
      obtain ⟨⟨⟨rfl, rfl⟩, rfl⟩, h⟩ := h
      obtain ⟨nm, q', N, bs, bm, sn, sub, ab, col, dd, k0, k1, k2, k3, k5, hC, hbm⟩ := T.cls
      have hcl : clsIn K C = some { name := nm, bases := bs, mro := .ref C :: bm, ns := N, qualname := q', hasDict := true, slotNames := sn, subclasses := sub, abstract := ab, collection := col, hasDel := false } := by unfold clsIn; rw [hC] <;> rfl
      obtain ⟨oD, esD, epD, hoD, hdD, hcD⟩ := h1.count hw
      refine wpAny_execs_cons (plainObj_wpAny_Assign_Attribute ?_)
      refine wpAny_Name (wpAny_loadName_local hk (hloc y List.mem_cons_self) hn (hv (y, v) (by simp)) ?_) (T.ndb y (List.mem_cons_of_mem _ (ha y List.mem_cons_self)))
      refine wpAny_Name (wpAny_loadName_local hk hself hn hms ?_) (T.ndb "self" List.mem_cons_self)
      refine set_plain X (ox := obX C t1 (some dx)) (od := some oD) ⟨hx, rfl, rfl, hoD⟩ T.sa ?_
      obtain ⟨hp, g, d, t, os⟩ := s
      refine PySem.OEX.osa_old X hx h1 hw (by simp only [List.length_cons] at hz; omega) hcl (show refsVE (.ref C :: bm) = true from hbm) rfl (T.noN y (ha y List.mem_cons_self)) (fun h' tk' k hn' => ?_)
      have hL : Heap.Ns h' env.locals m := by
        obtain ⟨oL, es, ep, e, r⟩ := hn
        exact ⟨oL, es, ep, k _ _ hld e, r⟩
      refine xc_sets (nl := y :: nl) (s := ⟨h', g, d, tk', os⟩) T hk hlx hld hnx hnd hdx hself hms h (by simpa using hl) (fun f hf => ha f (List.mem_cons_of_mem _ hf)) (fun p hp => hv p (by rw [List.zip_cons_cons]; exact List.mem_cons_of_mem _ hp)) (fun f hf => hloc f (List.mem_cons_of_mem _ hf))
        (kept_but X hnd k) hL (k _ _ (Ne.symm hdx) hx) hn' (Within.cons y v hw) (by simp only [List.length_cons] at hz ⊢; omega) (fun h2 tk2 k2 hn2 => ?_)
      exact q h2 tk2 (fun b o hb e => k2 b o hb (k b o hb e)) hn2
    · cases h
end
end CTX
end PySem

namespace CT
open PySem PySem.Spec PyProof.Rows L2
/-- the tables of code objects of the defs that make lambdas, with the lambdas' names -/
@[irreducible] def lamTabs : List (Addr × Str) := []
end CT

namespace PySem
namespace CTX
open PySem.W PySem.Calls PyProof.Rows PySem.HandSPX
structure InitEnd (h h' : Heap) (x C dx t1 : Addr) (fvs : List (Str × Value)) : Prop where
  keep : ∀ b o, b ≠ x → h.get? b = some o → h'.get? b = some o
  obj : h'.get? x = some (obX C t1 (some dx))
  dbig : h.objs.size ≤ dx
  dne : dx ≠ x
  ns : h'.Ns1 dx (putAll fvs fun _ => none)
section
variable {prog : Program} {w : World} {A : Around} {E : Value → Shared → Prop} {h : Heap} {g : Array GenState} {d : Drawn} {t : Nat} {os : OsState}
variable {nm q : Str} {C N : Addr} {bs bm : List Value} {hdct : Bool} {sn : List Str} {sub : List Value} {ab : Bool} {col : Option Bool} {dd : Option Addr} {k0 k1 k2 k3 k5 : Option Value}
theorem call_kxs {u e t0 : Addr} {rest : List Value} {Q : Value → Shared → Prop}
    (hC : h.get? C = some (excClassObj nm q C N bs bm hdct sn sub ab col dd k0 k1 k2 k3 k5 "ValueError.__new__")) (he : h.get? e = some (excO C t0)) (hu : h.get? u = some (kxs_mw "ValueError.__init__" e)) (hrest : rest.length ≤ sizeLine)
    (hq : ∀ h' t1, (∀ b o, b ≠ e → h.get? b = some o → h'.get? b = some o) → h'.get? e = some (excO C t1) → Q .none ⟨h', g, d, t, os⟩) :
    wpAny (model prog w) A (call (.ref u) rest) Q E ⟨h, g, d, t, os⟩ := by
  refine wpAny_call (codeAny_of_tree ?_)
  show wpAny _ _ (callAny (.ref u) ⟨rest, []⟩) _ _ _
  simp only [callAny]
  refine wpAny_bind (wpAny_load hu ?_)
  simp only [kxs_mw, show (Value.type "method-wrapper" == Value.type "method" || Value.type "method-wrapper" == Value.type "builtin_function_or_method" || Value.type "method-wrapper" == Value.type "method-wrapper") = true by decide, if_true]
  refine KFB.if_so (by decide) ?_
  refine wpAny_bind (check_bound_init F.excBase_ValueError.toExcCallFacts hC he rfl ?_)
  refine wpAny_bind (wpAny_pure (wpAny_pure ?_))
  refine ⟨plainId_quiet F.excBase_ValueError.init.plain _, codeAny_builtin F.excBase_ValueError.initEntry ?_⟩
  rw [Around.under_plainId F.excBase_ValueError.init.plain _]
  wp_walk
  refine hq _ h.objs.size (fun b o hb ho => ?_) ?_
  · rw [Heap.get?_update_other _ _ (Ne.symm hb)]
    exact Heap.get?_push_of_some _ ho
  · rw [Heap.get?_update_self _ (Heap.get?_push_of_some _ he) rfl]
    rfl
end
section
variable {prog : Program} {w : World} {A : Around} {E : Value → Shared → Prop}
theorem xc_first {K : Frag} {mg : Str → Option Value} {cx : Str} {C fI x t1 : Addr} {fs : List Str} {env : Env} {m : Str → Option Value} {ss : List Stmt} {vs : List Value} {s : Shared} {Q : Flow → Shared → Prop} (T : XcTxt prog K mg cx C fI fs) (hk : env.scope.kind = .function) (hlx : env.locals ≠ x) (hnx : K.lookup x = none)
    (hself : env.kindOf "self" = some .local) (hms : m "self" = some (.ref x)) (h : setsB fs ss = true) (hl : fs.length = vs.length) (hv : ∀ p ∈ fs.zip vs, m p.1 = some p.2) (hloc : ∀ f ∈ fs, env.kindOf f = some .local)
    (X : K.In s.heap) (hn : s.heap.Ns env.locals m) (hx : s.heap.get? x = some (excO C t1))
    (q : ∀ h' tk' dx, (∀ b o, b ≠ x → s.heap.get? b = some o → h'.get? b = some o) → s.heap.objs.size ≤ dx → dx ≠ x → h'.get? x = some (obX C t1 (some dx)) → h'.Ns1 dx (putAll (fs.zip vs) fun _ => none) → Q .next { s with heap := h', toks := tk' }) :
    wpAny (model prog w) A (execs ss env) Q E s := by
  have hne := T.fne
  have hfl := T.fl
  match fs, ss, vs, hl with
  | [], _, _, _ => exact absurd rfl hne
  | f :: fs, [], _, _ => simp [setsB] at h
  | f :: fs, st :: ss, [], hl => simp at hl
  | f :: fs, st :: ss, v :: vs, hl =>
    unfold setsB at h
    split at h
    · rename_i e1 e2; cases e1
    · rename_i f' fs' x' p1 g p2 y p3 p4 ss' e1 e2
      cases e1
      cases e2
      simp only [Bool.and_eq_true, decide_eq_true_eq] at h
      obtain ⟨⟨⟨rfl, rfl⟩, rfl⟩, h⟩ := h
      obtain ⟨nm, q', N, bs, bm, sn, sub, ab, col, dd, k0, k1, k2, k3, k5, hC, hbm⟩ := T.cls
      have hcl : clsIn K C = some { name := nm, bases := bs, mro := .ref C :: bm, ns := N, qualname := q', hasDict := true, slotNames := sn, subclasses := sub, abstract := ab, collection := col, hasDel := false } := by unfold clsIn; rw [hC] <;> rfl
      refine wpAny_execs_cons (plainObj_wpAny_Assign_Attribute ?_)
      refine wpAny_Name (wpAny_loadName_local hk (hloc y List.mem_cons_self) hn (hv (y, v) (by simp)) ?_) (T.ndb y (List.mem_cons_of_mem _ List.mem_cons_self))
      refine wpAny_Name (wpAny_loadName_local hk hself hn hms ?_) (T.ndb "self" List.mem_cons_self)
      refine set_plain X (ox := excO C t1) (od := none) ⟨hx, rfl, rfl, trivial⟩ T.sa ?_
      obtain ⟨hp, g, d, t, os⟩ := s
      refine exc_osa X hx hcl (show refsVE (.ref C :: bm) = true from hbm) rfl (T.noN y List.mem_cons_self) (fun h' tk' dx k dn dne hx' hn' => ?_)
      have hL0 : env.locals < hp.objs.size := hn.lt
      have hL : Heap.Ns h' env.locals m := by
        obtain ⟨oL, es, ep, e, r⟩ := hn
        exact ⟨oL, es, ep, k _ _ hlx e, r⟩
      have hnd : K.lookup dx = none := by
        cases e : K.lookup dx with
        | none => rfl
        | some o => exact absurd (Heap.lt_size (X _ _ e)) (Nat.not_lt.mpr dn)
      refine xc_sets (nl := [y]) (dx := dx) (t1 := t1) (s := ⟨h', g, d, tk', os⟩) T hk hlx (Nat.ne_of_lt (Nat.lt_of_lt_of_le hL0 dn)) hnx hnd dne hself hms h (by simpa using hl) (fun f hf => List.mem_cons_of_mem _ hf) (fun p hp => hv p (by rw [List.zip_cons_cons]; exact List.mem_cons_of_mem _ hp)) (fun f hf => hloc f (List.mem_cons_of_mem _ hf))
        (kept_but X hnx k) hL hx' hn' (fun z hz => by
          by_cases e : z = y
          · rw [e]; exact List.mem_cons_self
          · rw [if_neg e] at hz; exact absurd rfl hz) (by simp only [List.length_cons, List.length_nil] at hfl ⊢; omega) (fun h2 tk2 k2' hn2 => ?_)
      refine q h2 tk2 dx (fun b o hb e => ?_) dn dne (k2' _ _ (Ne.symm dne) hx') hn2
      exact k2' b o (Nat.ne_of_lt (Nat.lt_of_lt_of_le (Heap.lt_size e) dn)) (k b o hb e)
    · cases h
end
section
variable {prog : Program} {w : World} {A : Around} {R : Result → Shared → Prop} {s : Shared} {K : Frag} {mg : Str → Option Value} {cx : Str} {C fI : Addr} {fs : List Str}
theorem initB_inv {fs : List Str} {body : List Stmt} (h : initB fs body = true) : ∃ p0 p1 p2 args p3 p4 ss, body = .Expr (.Call (.Attribute (.Call (.Name "super" p0) [] [] p1) "__init__" p2) args [] p3) p4 :: ss ∧ (p2.endLine == p3.line) = true ∧ argsB fs args = true ∧ setsB fs ss = true := by
  unfold initB at h
  split at h
  · simp only [Bool.and_eq_true, decide_eq_true_eq] at h
    obtain ⟨⟨⟨⟨rfl, rfl⟩, hpp⟩, hargs⟩, hsets⟩ := h
    exact ⟨_, _, _, _, _, _, _, rfl, hpp, hargs, hsets⟩
  · cases h
theorem xc_init (T : XcTxt prog K mg cx C fI fs) {x t0 : Addr} {vs : List Value} (X : K.In s.heap) (hg : s.heap.Ns mainGlobals mg) (hb : ∃ mb, s.heap.Ns builtinsNs mb ∧ mb "super" = bootBuiltins "super") (hlim : s.heap.NoLimit) (hx : s.heap.get? x = some (excO C t0)) (hnx : K.lookup x = none) (hroom : A.depth < recursionLimit) (hl : vs.length = fs.length)
    (hq : ∀ h' tk dx t1, InitEnd s.heap h' x C dx t1 (fs.zip vs) → R (.ok (.ret .none)) { s with heap := h', toks := tk }) :
    codeAny (model prog w) A (.call (.ref fI) ⟨.ref x :: vs, []⟩) R s := by
  obtain ⟨qual, params, body, scope, dV, kV, doc, pm, ct, oc, an, od, osl, cc, cda, ar, fvs, file, tf, ccl, cl, cdd, cld, ccs, csl, ho, hcd, hbody, hp, har, hcode, hvs, hfile, hcell, hks, hkc, hloc, hkind, hco, hgen, hnc, hbind⟩ := T.fn
  obtain ⟨nm, q, N, bs, bm, sn, sub, ab, col, dd, k0, k1, k2, k3, k5, hC, hbm⟩ := T.cls
  have hcl : clsIn K C = some { name := nm, bases := bs, mro := .ref C :: bm, ns := N, qualname := q, hasDict := true, slotNames := sn, subclasses := sub, abstract := ab, collection := col, hasDel := false } := by unfold clsIn; rw [hC] <;> rfl
  have hzl : fs.length ≤ vs.length := by omega
  have hndk : (((("self" : Str), Value.ref x) :: fs.zip vs).map (·.1)).Nodup := by
    rw [List.map_cons, zip_fst fs vs hzl]; exact T.nd
  refine ks_codeAny_call_defAt (fd := ksFn "__init__" qual params body scope dV kV doc pm an (.ref cda) ct cc) (body := body) (binds := (("self" : Str), Value.ref x) :: fs.zip vs) hroom (X _ _ ho) rfl hlim (codeRec_of X hcd) rfl
    (BindsTo.of_eq (hbind (.ref x :: vs) (by simp [hl]))) hnc (fun y hy => ?_) (fun h₁ hns hk₁ => ?_) hco hgen hkind
  · rcases List.mem_cons.mp hy with rfl | hy
    · exact hloc _ List.mem_cons_self
    · exact hloc _ (List.mem_cons_of_mem _ (List.of_mem_zip hy).1)
  · have look : ∀ f v, (f, v) ∈ ((("self" : Str), Value.ref x) :: fs.zip vs) → ((((("self" : Str), Value.ref x) :: fs.zip vs).reverse).lookup f) = some v := fun f v h => by
      refine lookup_mem ?_ (List.mem_reverse.mpr h)
      rw [List.map_reverse]
      exact nodup_rev hndk
    have hsz : s.heap.objs.size < h₁.objs.size := hns.lt
    have hxL : s.heap.objs.size ≠ x := Nat.ne_of_gt (Heap.lt_size hx)
    have X₁ : K.In h₁ := X.keeps hk₁
    have hx₁ := hk₁ _ _ hx
    obtain ⟨mb, hb1, hb2⟩ := hb
    · obtain ⟨p0, p1, p2, args, p3, p4, ss, rfl, hpp, hargs, hsets⟩ := initB_inv hbody
      have hplain := args_plain (env := ksEnv qual scope s.heap.objs.size fI (.ref cda) cc) (pos := p3) hargs
      have hint : interactive (ksEnv qual scope s.heap.objs.size fI (.ref cda) cc) = false := by
        show (scope.kind == .module && _) = false
        rw [hkind]; rfl
      refine ks_wpAt_execs_cons (ks_wpAt_Expr_any (ks_wpAt_MethodCall (ks_wpAt_super_base (env := ksEnv qual scope s.heap.objs.size fI (.ref cda) cc) hks hkc rfl rfl (X₁ _ _ ho) rfl hp rfl (X₁ _ _ hcode) rfl hvs hfile T.top ?_) (eval_meth (env := ksEnv qual scope s.heap.objs.size fI (.ref cda) cc) hpp (by rw [args_len hargs]; have := T.fl; omega) hplain)) hint)
      refine ks_loadName_global hkind hks (loadGlobal_builtin (env := ksEnv qual scope s.heap.objs.size fI (.ref cda) cc) (hg.keeps hk₁) T.nsup (hb1.keeps hk₁) (hb2.trans PyProof.Rows.Boot.«super») ⟨rfl, ?_⟩)
      refine wpAny_loadName_free hkind hkc rfl ⟨_, X₁ _ _ hcell, rfl⟩ ?_
      refine wpAny_loadName_local hkind (by rw [har]; exact hloc _ List.mem_cons_self) hns (by rw [har]; exact look _ _ List.mem_cons_self) ?_
      refine ks_wpAny_isType_cls (X₁ _ _ hC) rfl ⟨rfl, ?_⟩
      refine ks_wpAny_call_super (X₁ _ _ hC) rfl hx₁ rfl (fun c e => by cases e) (looks_mroIn X₁ T.mroC) (fun h2 e2 k2 => ?_)
      have X2 : K.In h2 := X₁.keeps k2
      have hx2 := k2 _ _ hx₁
      have I2 : InstAt h2 x (excO C t0) C none := ⟨hx2, rfl, rfl, trivial⟩
      have hI : Looks (model prog w) h2 (isInstance (.ref x) (.type "ValueError")) true := I2.type.andThen (looks_subIn X2 T.veC)
      have hm := T.sup
      unfold ks_superIn at hm
      rw [hcl] at hm
      refine kxs_getMethod kxs_ValueError e2 (looks_opaque X2 T.opq) (l₀ := .ref C :: bm) (fun A Q E s k q => wpAny_bind ((looks_clsIn X2 hcl) A _ E s k (wpAny_pure q))) rfl X2 hm hI (ks_ne X2 I2 hcl) rfl ?_
      -- the call
      have k3 : ∀ b o, h2.get? b = some o → (h2.push (kxs_mw "ValueError.__init__" x)).get? b = some o := fun b o e => Heap.get?_push_of_some _ e
      have hu : (h2.push (kxs_mw "ValueError.__init__" x)).get? h2.objs.size = some (kxs_mw "ValueError.__init__" x) := Heap.get?_push_at rfl rfl
      have hns3 : (h2.push (kxs_mw "ValueError.__init__" x)).Ns s.heap.objs.size (fun y => ((((("self" : Str), Value.ref x) :: fs.zip vs).reverse).lookup y)) := (hns.keeps k2).keeps k3
      refine kxs_callWith (i := "ValueError.__init__") (x := x) hplain ?_
      refine ev_args T.fne hargs ?_
      refine xc_args (fs := fs) (vs := vs) hkind hns3 hargs hl.symm (fun p hp => look _ _ (List.mem_cons_of_mem _ hp)) (fun f hf => hloc f (List.mem_cons_of_mem _ hf)) (fun f hf => T.ndb f (List.mem_cons_of_mem _ hf)) ⟨hu, ?_⟩
      show wpAny _ _ (call (.ref h2.objs.size) vs) _ _ _
      have hvz : vs.length ≤ sizeLine := by
        have := T.fl
        rw [sizeLine_eq]; omega
      refine call_kxs (k3 _ _ (X2 _ _ hC)) (k3 _ _ hx2) hu hvz (fun h4 t1 k4 hx4 => ?_)
      have X4 : K.In h4 := kept_but (X2.keeps k3) hnx k4
      have hns4 : h4.Ns s.heap.objs.size (fun y => ((((("self" : Str), Value.ref x) :: fs.zip vs).reverse).lookup y)) := by
        obtain ⟨oL, es, ep, e, r⟩ := hns3
        exact ⟨oL, es, ep, k4 _ _ hxL e, r⟩
      refine wpAt_of_wpAny (xc_first (fs := fs) (vs := vs) (x := x) (t1 := t1) T hkind hxL hnx (hloc _ List.mem_cons_self) (look _ _ List.mem_cons_self) hsets hl.symm (fun p hp => look _ _ (List.mem_cons_of_mem _ hp)) (fun f hf => hloc f (List.mem_cons_of_mem _ hf)) X4 hns4 hx4 (fun h5 tk5 dx k5' dn dne hx5 hn5 => ?_))
      have up : ∀ b o, b ≠ x → s.heap.get? b = some o → h4.get? b = some o := fun b o hb e => k4 b o hb (k3 b o (k2 b o (hk₁ b o e)))
      refine hq h5 tk5 dx t1 ⟨fun b o hb e => k5' b o hb (up b o hb e), hx5, ?_, dne, hn5⟩
      have hLL : s.heap.objs.size < h4.objs.size := hns4.lt
      exact Nat.le_of_lt (Nat.lt_of_lt_of_le hLL dn)
end
end CTX
end PySem

namespace PySem
namespace CTX
open PySem.W PySem.Calls PyProof.Rows PySem.HandSPX
structure OwnMade (h h' : Heap) (e C d : Addr) (fvs : List (Str × Value)) : Prop where
  keep : ∀ b o, h.get? b = some o → h'.get? b = some o
  new : h.objs.size ≤ e
  obj : ∃ oe vs, h'.get? e = some oe ∧ oe.cls = .ref C ∧ oe.dict = some d ∧ oe.data = .fields vs ∧ vs[1]? = some .none
  dbig : h.objs.size ≤ d
  dne : d ≠ e
  ns : h'.Ns1 d (putAll fvs fun _ => none)
section
variable {prog : Program} {w : World} {A : Around} {R : Result → Shared → Prop} {s : Shared} {K : Frag} {mg : Str → Option Value} {cx : Str} {C fI : Addr} {fs : List Str}
theorem xc_made (T : XcTxt prog K mg cx C fI fs) {vs : List Value} (X : K.In s.heap) (hg : s.heap.Ns mainGlobals mg) (hb : ∃ mb, s.heap.Ns builtinsNs mb ∧ mb "super" = bootBuiltins "super") (hlim : s.heap.NoLimit) (hroom : A.depth + 1 < recursionLimit) (hl : vs.length = fs.length)
    (hq : ∀ h' tk e d, OwnMade s.heap h' e C d (fs.zip vs) → R (.ok (.ret (.ref e))) { s with heap := h', toks := tk }) :
    codeAny (model prog w) A (.call (.ref C) ⟨vs, []⟩) R s := by
  obtain ⟨nm, q, N, bs, bm, sn, sub, ab, col, dd, k0, k1, k2, k3, k5, hC, hbm⟩ := T.cls
  obtain ⟨hp, g, dr, tk, os⟩ := s
  have k : ∀ b o, hp.get? b = some o → ((hp.push (kdv_tup vs)).push (excO C hp.objs.size)).get? b = some o := fun b o e => Heap.get?_push_of_some _ (Heap.get?_push_of_some _ e)
  have hget : ((hp.push (kdv_tup vs)).push (excO C hp.objs.size)).get? (hp.objs.size + 1) = some (excO C hp.objs.size) := by heap_get
  have hnx : K.lookup (hp.objs.size + 1) = none := by
    cases e : K.lookup (hp.objs.size + 1) with
    | none => rfl
    | some o =>
      have z : hp.get? (hp.objs.size + 1) = some o := X _ _ e
      exact absurd (Nat.lt_of_succ_lt (Heap.lt_size z)) (Nat.lt_irrefl _)
  have hvz : vs.length ≤ sizeLine := by
    have := T.fl
    rw [sizeLine_eq]; omega
  obtain ⟨mb, hb1, hb2⟩ := hb
  refine call_own F.excBase_ValueError (fun X => refsVE_contains X bm hbm) (X _ _ hC) (looks_findIn X T.iC) (fun self => bind_fn X self T.tC) hvz ?_
  refine xc_init (s := ⟨(hp.push (kdv_tup vs)).push (excO C hp.objs.size), g, dr, tk, os⟩) T (X.keeps k) (hg.keeps k) ⟨mb, hb1.keeps k, hb2⟩ (hlim.keeps k) hget hnx ?_ hl fun h' tk' dx t1 ⟨k', hx, dn, dne, hns⟩ => ?_
  · show A.depth + 1 < recursionLimit
    exact hroom
  · have old : ∀ b o, hp.get? b = some o → h'.get? b = some o := fun b o e => k' b o (Nat.ne_of_lt (Nat.lt_succ_of_lt (Heap.lt_size e))) (k b o e)
    have z : hp.objs.size + 1 + 1 ≤ dx := by
      first
        | (simpa only [Heap.size_push] using dn)
        | exact dn
        | (have q := dn; rw [Heap.size_push, Heap.size_push] at q; exact q)
    exact ⟨rfl, hq h' tk' (hp.objs.size + 1) dx ⟨old, Nat.le_succ _, ⟨_, _, hx, rfl, rfl, rfl, rfl⟩, Nat.le_trans (Nat.le_trans (Nat.le_succ _) (Nat.le_succ _)) z, dne, hns⟩⟩
end
end CTX
end PySem
namespace CT
open PySem PySem.Spec PyProof.Rows L2
theorem relO_putAll : ∀ {fs : List Str} {vs : List V} {us : List Value} {acc : List (Str × V)} {mA : Str → Option Value}, Vals vs us → (∀ g, RelO (acc.lookup g) (mA g)) → ∀ g, RelO (((fs.zip vs).reverse ++ acc).lookup g) (CTX.putAll (fs.zip us) mA g)
  | [], _, _, _, _, _, r, g => r g
  | f :: fs, _, _, _, _, .nil, r, g => r g
  | f :: fs, _, _, acc, mA, @Paired.cons _ _ _ v u vs us rv rr, r, g => by
    simp only [List.zip_cons_cons, List.reverse_cons, List.append_assoc, List.cons_append, List.nil_append, CTX.putAll]
    exact relO_putAll rr (relO_put rv r) g
/-- C(e, ..) -/
def tMkX (C : Addr) (fs : List Str) (ta : TA) : L2.St → Hp → XK → Prop := fun σ H Q => ta σ H fun vs H1 => vs.length = fs.length ∧ ∀ d, H1 d = none → Q (.ref C) (some d) (upd H1 d (.xd (fs.zip vs).reverse))
theorem pmk_xc {X : Cx} {x : Str} {C fI : Addr} {fs : List Str} {a : Expr} {as : List Expr} {ta : TA} {p pos : Pos} {k : Nat} (T : CTX.XcTxt X.prog X.K X.mg x C fI fs) (hr : Room (k + 2) X.A) (ha : PA X (a :: as) ta) (hg : Gl X x) (hdb : (x == ("__debug__" : Str)) = false)
    (he : starEach (a :: as) X.env = (false, eval a X.env) :: starEach as X.env := by rfl) (hpl : (backTo pos (starEach as X.env)).any (·.1) = false := by rfl) :
    PMk X (.Call (.Name x p) (a :: as) [] pos) (tMkX C fs ta) := by
  intro pins s σ H Q I h
  refine wpAny_Call_Name_kw (ld_glob I hg T.gC ?_ hdb)
  refine PySem.W.callWith_K (h₀ := X.base) I.ok.mod.kin T.kC (thn (ha.run pos pins s σ H _ I h) fun us s1 hh => ?_) he hpl
  obtain ⟨vs, H1, I1, r1, hl, q1⟩ := hh
  refine ⟨I1.kIn, ?_⟩
  have hlu : us.length = fs.length := by rw [← r1.length]; exact hl
  show wpAny _ _ (call (.ref C) us) _ _ _
  have hlim := I1.nolimit
  obtain ⟨mb, b1, b2⟩ := I1.mod.blt
  have bk := I1.bk
  have hgl := I1.mod.glob.keeps bk
  have hbl := b1.keeps bk
  have hsu := b2 "super" (by decide)
  have hK := I1.kIn
  obtain ⟨hp, g, dr, tk, os⟩ := s1
  refine wpAny_call (CTX.xc_made T hK hgl ⟨mb, hbl, hsu⟩ hlim (by have := hr.dp; omega) hlu fun h' tk' e d M => ?_)
  show MkP X pins σ Q (.ref e) ⟨h', g, dr, tk', os⟩
  obtain ⟨oe, fv, hoe, hc, hd, hdat, h1⟩ := M.obj
  have hns := M.ns
  obtain ⟨G', g1, g2⟩ := restrict h' fun b => decide (b ≠ e)
  have gk : ∀ b, b ≠ e → G'.get? b = h'.get? b := fun b hb => g1 b (decide_eq_true hb)
  have ge : G'.get? e = none := g2 e (by simp)
  have old : ∀ b o, hp.get? b = some o → G'.get? b = some o := fun b o q => (gk b (Nat.ne_of_lt (Nat.lt_of_lt_of_le (Heap.lt_size q) M.new))).trans (M.keep b o q)
  have ob : ObjOk X.prog X.w (upd H1 d (.xd (fs.zip vs).reverse)) G' d (.xd (fs.zip vs).reverse) :=
    ⟨_, hns.at (fun o q => (gk d M.dne).trans q), fun f => by
      have := relO_putAll (fs := fs) (acc := []) (mA := fun _ => none) r1 (fun g => True.intro) f
      rw [List.append_nil] at this
      exact this⟩
  have J : Inv X pins σ (upd H1 d (.xd (fs.zip vs).reverse)) ⟨G', g, dr, tk', os⟩ := I1.laid (t' := tk') old M.dbig ob
  refine ⟨e, oe, fv, ⟨G', g, dr, tk', os⟩, _, .ref C, some d, rfl, J, fun b o q => ?_, ge, hoe, ⟨hc, hd⟩, hdat, h1, ?_, rfl, I1.bare, raises_own T.exC T.tyC, q1 d (I1.hok.fresh M.dbig)⟩
  · by_cases hb : b = e
    · have q' : G'.get? b = some o := q
      rw [hb, ge] at q'; cases q'
    · exact (gk b hb).symm.trans q
  · rw [upd_ne (Ne.symm M.dne)]
    exact I1.hok.fresh M.new
end CT

namespace PySem
namespace CTX
open PySem.W PySem.Calls PyProof.Rows PySem.HandSPX
/-! ### exceptions of own classes as values: what class they are of -/
section
variable {prog : Program} {w : World} {A : Around} {E : Value → Shared → Prop} {s : Shared} {K : Frag} {x D : Addr} {ox od : Obj}
/-- a data descriptor goes before the instance's own dict -/
theorem find_descr {C : Addr} {q : Option Obj} {name : Str} {a g : Value} (hc : (clsIn K C).isSome = true) (ha : findIn K (.ref C) name = some (some a)) (hg : specialIn K a "__get__" = some (some g)) (ht : takesIn K a = some true) : findObj K C q name = some (.bind g a) := by
  obtain ⟨cd, e⟩ := Option.isSome_iff_exists.mp hc
  simp [findObj, e, ha, hg, ht]
structure ClsC (K : Frag) (D : Addr) : Prop where
  e : L2.ExcC K D
theorem cls_of {Q : Option Value → Shared → Prop} (Z : L2.ExcC K D) (X : K.In s.heap) (I : InstAt s.heap x ox D (some od)) (q : Q (some (.ref D)) { s with toks := s.toks + 1 }) : wpAny (model prog w) A (getAttr? (.ref x) "__class__") Q E s := by
  obtain ⟨hp, g, d, t, os⟩ := s
  have ht := I.type (M := model prog w)
  have known := (clsIn K D).isSome
  obtain ⟨cd, hcd, _⟩ := any_some Z.hd
  have fd : findObj K D (some od) "__class__" = some (.bind (.builtin "getset_descriptor.__get__") (.builtin "object.__class__")) := find_descr (by rw [hcd]; rfl) Z.ha Z.hn Z.ht
  have fl := looks_find (M := model prog w) X I fd
  have isE : Looks (model prog w) hp (isInstance (.ref x) (.type "BaseException")) true := ht.andThen (looks_subIn X Z.hs)
  have other : (Value.builtin "BaseException.__getattribute__" == Value.builtin "object.__getattribute__") = false := by decide +kernel
  unfold getAttr? getAttrBy? getAttrBy
  refine wpAny_bind (wpAny_mkText (wpAny_bind (wpAny_attempt (wpAny_holding (wpAny_bind (ht.at (wpAny_bind ((looks_findIn X Z.hg).at ?_))))))))
  show wpAny _ _ (if (onTheHeap (Value.ref D) && (Value.builtin "BaseException.__getattribute__" == Value.builtin "object.__getattribute__")) = true then _ else _) _ _ _
  rw [other, Bool.and_false, if_neg Bool.false_ne_true]
  unfold getAttrByItsOwn hookBefore
  refine wpAny_bind ?_
  rw [if_pos (show onTheHeap (Value.ref D) = true from rfl)]
  refine (looks_findIn X Z.hk).at (wpAny_bind (wpAny_attempt (wpAny_holding ?_)))
  unfold callGetattribute
  rw [show (false && onTheHeap (Value.builtin "BaseException.__getattribute__")) = false from rfl, if_neg Bool.false_ne_true]
  unfold boundAndCalled
  rw [PySem.F.excAttr_ValueError.ga.bind (.ref x)]
  refine wpAny_bind (wpAny_pure (wpAny_call (codeAny_call_builtin PySem.F.excAttr_ValueError.ga.plain PySem.F.entry_bexc_ga ?_)))
  refine @check_slot (model prog w) _ _ ⟨hp, g, d, t + 1, os⟩ "BaseException.__getattribute__" "BaseException" "__getattribute__" (.ref x) [.str "__class__" t] [] _ (by decide +kernel) (by decide +kernel) isE (PySem.F.args_bexc_ga (.ref x) (.str "__class__" t)) ?_
  unfold Builtin.«object.__getattribute__»
  refine wpAny_bind (wpAny_of_eq (a := ((Value.ref x : Value), [Value.str "__class__" t])) (by first | rfl | (simp only [slotArgs]; rfl)) (wpAny_bind (wpAny_pure (wpAny_bind (ht.at (wpAny_bind (fl.at ?_)))))))
  refine wpAny_bind (wpAny_holding (wpAny_call (class_get (s := ⟨hp, g, d, t + 1, os⟩) (ox := ox) (od := some od) X I Z.hm (wpAny_pure ?_))))
  show wpAny _ _ (handedOut (.ref D)) _ _ _
  rw [handedOut_of (v := .ref D) rfl]
  first
    | exact wpAny_pure (wpAny_pure q)
    | exact wpAny_pure q
    | exact wpAny_pure (wpAny_bind (wpAny_pure (wpAny_pure q)))
theorem kitA (Z : L2.ExcC K D) : KitX K (.ref x) (.ref D) (fun h => ∃ ox od, InstAt h x ox D (some od)) where
  ty := fun _ _ _ ⟨_, _, I⟩ => I.type
  it := fun _ _ X _ => by
    obtain ⟨cd, hc, _⟩ := any_some Z.hd
    unfold clsIn at hc
    split at hc
    · rename_i ho
      intro A' Q' E' s' k q
      unfold isType loadHead
      exact wpAny_bind (wpAny_loadPart (k _ _ (X _ _ ho)) (wpAny_pure q))
    · cases hc
  ne := fun h tp dd its n sl X htp => by
    obtain ⟨cd, hc, _⟩ := any_some Z.hd
    unfold clsIn at hc
    split at hc
    · rename_i ho
      refine Bool.eq_false_iff.mpr fun q => ?_
      have e : D = tp := Value.ref.inj (beq_iff_eq.mp q)
      subst e
      cases (X _ _ ho).symm.trans htp
    · cases hc
  ca := fun X ⟨_, _, I⟩ k => cls_of Z X I k
end
end CTX
end PySem
namespace L2
open PySem PySem.Spec PyProof.Rows
/-- an exception object of the class C at a, its dict at d -/
def ExA (C d a : Addr) : HO := .ext fun h => ∃ (oe : Obj) (vs : Array Value), h.get? a = some oe ∧ Zc (.ref C) (some d) oe ∧ oe.data = .fields vs
theorem exA_ok {P : Program} {w : World} {H : Hp} {h : Heap} {a C d : Addr} {oe : Obj} {vs : Array Value} (e : h.get? a = some oe) (z : Zc (.ref C) (some d) oe) (dt : oe.data = .fields vs) : ObjOk P w H h a (ExA C d a) :=
  ⟨⟨oe, vs, e, z, dt⟩, ⟨oe, e⟩, fun _ _ ⟨o, v, q, r⟩ k => ⟨o, v, k o q, r⟩⟩
section
variable {X : Cx}
/-- e.n, e an exception that is held -/
def tXa (K : PySem.W.Frag) (n : Str) (te : TE) : TE := fun σ H Q => te σ H fun x H1 => ∃ a C d fs v, x = .ref a ∧ H1 a = some (ExA C d a) ∧ XfC K C ∧ PySem.W.findIn K (.ref C) n = some none ∧ H1 d = some (.xd fs) ∧ fs.lookup n = some v ∧ Q v H1
theorem pe_xa {e : Expr} {te : TE} {pos : Pos} {n : Str} (he : PE X e te) (hb : attributeBase e n X.env (eval e X.env) = eval e X.env := by rfl) : PE X (.Attribute e n pos) (tXa X.K n te) := by
  refine ⟨fun pins s σ H Q I h => attr_of hb (thn (he.run pins s σ H _ I h) fun u s1 hh => ?_)⟩
  obtain ⟨x, H1, J, rx, a, C, d, fs, v, rfl, ha, T, hno, hd, l, q⟩ := hh
  obtain rfl : u = Value.ref a := rx
  obtain ⟨⟨oe, vs, hoe, hz, hdt⟩, _, _⟩ := J.hok a _ ha
  obtain ⟨m, hns, hr⟩ : ObjOk X.prog X.w H1 s1.heap d (.xd fs) := J.hok d _ hd
  obtain ⟨oq, hq, look⟩ := lookIn_ns hns
  obtain ⟨z, hzv, rz⟩ := RelO.some_of (v := v) (o := m n) (by rw [← l]; exact hr n)
  have at_ : PySem.W.InstAt s1.heap a oe C (some oq) := ⟨hoe, hz.1, by unfold PySem.W.notCls; rw [hdt] <;> rfl, by rw [hz.2]; exact hq⟩
  exact HandSPX.exc_get J.kIn at_ T.ga T.gg T.exC (PySem.W.findObj_own T.hdC hno rfl (by rw [look, hzv])) (handed_of rz) ⟨v, H1, J.tok _, rz, q⟩
/-- isinstance(e, c), e an exception that is held -/
def rIsA (K : PySem.W.Frag) : List V → Hp → VK → Prop := fun xs H Q => ∃ a C d fs c cv b, xs = [.ref a, c] ∧ H a = some (ExA C d a) ∧ H d = some (.xd fs) ∧ ExcC K C ∧ (∀ u, RelV c u → u = cv) ∧ PySem.W.kitOne K (.ref C) cv = some b ∧ Q (.bl b) H
theorem call_isA : CallR X (.builtin "isinstance") (rIsA X.K) := by
  intro pins s σ H xs us Q I r h
  obtain ⟨a, C, d, fs, c, cv, b, rfl, ha, hd, Z, hcv, e, q⟩ := h
  cases r with
  | cons rx rr =>
    cases rr with
    | cons rt rr =>
      cases rr
      cases rx
      have ec := hcv _ rt
      subst ec
      obtain ⟨⟨oe, vs, hoe, hz, hdt⟩, _, _⟩ := I.hok a _ ha
      obtain ⟨m, hns, hr⟩ : ObjOk X.prog X.w H s.heap d (.xd fs) := I.hok d _ hd
      obtain ⟨oq, hq, look⟩ := lookIn_ns hns
      have at_ : PySem.W.InstAt s.heap a oe C (some oq) := ⟨hoe, hz.1, by unfold PySem.W.notCls; rw [hdt] <;> rfl, by rw [hz.2]; exact hq⟩
      exact PySem.W.kia_one (CTX.kitA (x := a) Z) I.kIn ⟨oe, oq, at_⟩ e (fun z => nomatch z) fun tk => ⟨.bl b, H, I.kept (t' := tk) fun _ _ z => z, rfl, q⟩
/-- C(e, ..), held -/
def tXc (C : Addr) (fs : List Str) (ta : TA) : TE := fun σ H Q => ta σ H fun vs H1 => vs.length = fs.length ∧ ∀ a d, H1 a = none → H1 d = none → a ≠ d → Q (.ref a) (upd (upd H1 d (.xd (fs.zip vs).reverse)) a (ExA C d a))
theorem pe_xc {x : Str} {C fI : Addr} {fs : List Str} {a : Expr} {as : List Expr} {ta : TA} {p pos : Pos} {k : Nat} (T : CTX.XcTxt X.prog X.K X.mg x C fI fs) (hr : Room (k + 2) X.A) (ha : PA X (a :: as) ta) (hg : Gl X x) (hdb : (x == ("__debug__" : Str)) = false)
    (he : starEach (a :: as) X.env = (false, eval a X.env) :: starEach as X.env := by rfl) (hpl : (backTo pos (starEach as X.env)).any (·.1) = false := by rfl) :
    PE X (.Call (.Name x p) (a :: as) [] pos) (tXc C fs ta) := by
  refine ⟨fun pins s σ H Q I h => wpAny_Call_Name_kw (ld_glob I hg T.gC ?_ hdb)⟩
  refine PySem.W.callWith_K (h₀ := X.base) I.ok.mod.kin T.kC (thn (ha.run pos pins s σ H _ I h) fun us s1 ⟨vs, H1, J, rv, hl, q⟩ => ⟨J.kIn, ?_⟩) he hpl
  have hlu : us.length = fs.length := by rw [← rv.length]; exact hl
  show wpAny _ _ (call (.ref C) us) _ _ _
  have lim := J.nolimit
  obtain ⟨mb, b1, b2⟩ := J.mod.blt
  have keepB := J.bk
  have gl := J.mod.glob.keeps keepB
  have bl := b1.keeps keepB
  have su := b2 "super" (by decide)
  have kin := J.kIn
  obtain ⟨hp, g, dr, tk, os⟩ := s1
  refine wpAny_call (CTX.xc_made T kin gl ⟨mb, bl, su⟩ lim (by have := hr.dp; omega) hlu fun h' tk' e d M => ?_)
  obtain ⟨oe, fv, hoe, hc, hd, hdat, _⟩ := M.obj
  have hns := M.ns
  obtain ⟨G, g1, g2⟩ := restrict h' fun b => decide (b ≠ e)
  have Gk : ∀ b, b ≠ e → G.get? b = h'.get? b := fun b hb => g1 b (decide_eq_true hb)
  have Ge : G.get? e = none := g2 e (by simp)
  have old : ∀ b o, hp.get? b = some o → G.get? b = some o := fun b o z => (Gk b (Nat.ne_of_lt (Nat.lt_of_lt_of_le (Heap.lt_size z) M.new))).trans (M.keep b o z)
  have ob : ObjOk X.prog X.w (upd H1 d (.xd (fs.zip vs).reverse)) G d (.xd (fs.zip vs).reverse) :=
    ⟨_, hns.at (fun o z => (Gk d M.dne).trans z), fun f => by
      have := CT.relO_putAll (fs := fs) (acc := []) (mA := fun _ => none) rv (fun _ => True.intro) f
      rwa [List.append_nil] at this⟩
  have J1 : Inv X pins σ (upd H1 d (.xd (fs.zip vs).reverse)) ⟨G, g, dr, tk', os⟩ := J.laid (t' := tk') old M.dbig ob
  have up : ∀ b o, G.get? b = some o → h'.get? b = some o := fun b o z => by
    by_cases hb : b = e
    · rw [hb, Ge] at z; cases z
    · exact (Gk b hb).symm.trans z
  have ne : H1 e = none := J.hok.fresh M.new
  have nd : H1 d = none := J.hok.fresh M.dbig
  have ne2 : (upd H1 d (.xd (fs.zip vs).reverse)) e = none := by rw [upd_ne (Ne.symm M.dne)]; exact ne
  exact ⟨.ref e, _, J1.laidN (t' := tk') up Ge ne2 (exA_ok hoe ⟨hc, hd⟩ hdat), rfl, q e d ne nd (Ne.symm M.dne)⟩
end
end L2

namespace L2
open PySem PySem.Spec PyProof.Rows
section
variable {X : Cx}
/-- C(), held: C has no __init__ of its own -/
theorem pe_exc0 {C : Addr} {bmB : List Value} {B newId initId : String} {x : Str} {p pos : Pos} (F : ExcBaseFacts B newId initId bmB) (q : PySem.W.excIn X.K C bmB newId = true) (gC : X.mg x = some (.ref C)) (kC : PySem.W.keepIn X.K (.ref C) = true) (hg : Gl X x)
    (hdb : (x == ("__debug__" : Str)) = false) :
    PE X (.Call (.Name x p) [] [] pos) (fun σ H Q => ∀ a, H a = none → Q (.ref a) (upd H a (ExO (.ref C) a))) := by
  refine ⟨fun pins s σ H Q I h => wpAny_Call_Name_kw (ld_glob I hg gC ?_ hdb)⟩
  refine PySem.W.callWith_K0 I.kIn kC ?_
  show wpAny _ _ (call (.ref C) []) _ _ _
  obtain ⟨bm, N, nm, qn, bs, hdct, sn, sub, ab, col, dd, k0, k1, k2, k3, k5, mN, hC, hN, hni, T⟩ := exc_obj I.kIn q
  refine wpAny_call_exc_subT F T hC hN hni (fun h' a made => ?_) (by show 0 ≤ sizeLine; exact Nat.zero_le _)
  have hn : H a = none := I.hok.gone made.new
  obtain ⟨t, ht, _, _⟩ := made.there
  exact ⟨.ref a, upd H a (ExO (.ref C) a), I.laidN made.keeps made.new hn (exO_ok ht ⟨rfl, rfl⟩ rfl rfl rfl (show 4 < 6 by decide)), rfl, h a hn⟩
/-- isinstance(e, c), e an exception without fields that is held -/
def rIsO (K : PySem.W.Frag) : List V → Hp → VK → Prop := fun xs H Q => ∃ a C c cv b, xs = [.ref a, c] ∧ H a = some (ExO (.ref C) a) ∧ ExcC K C ∧ (∀ u, RelV c u → u = cv) ∧ PySem.W.kitOne K (.ref C) cv = some b ∧ Q (.bl b) H
theorem call_isO : CallR X (.builtin "isinstance") (rIsO X.K) := by
  intro pins s σ H xs us Q I r h
  obtain ⟨a, C, c, cv, b, rfl, ha, Z, hcv, e, q⟩ := h
  cases r with
  | cons rx rr =>
    cases rr with
    | cons rt rr =>
      cases rr
      cases rx
      have ec := hcv _ rt
      subst ec
      obtain ⟨⟨oe, vs, hoe, hz, hdt, _⟩, _, _⟩ := I.hok a _ ha
      have at_ : PySem.W.InstAt s.heap a oe C none := ⟨hoe, hz.1, by unfold PySem.W.notCls; rw [hdt] <;> rfl, by rw [hz.2]; exact trivial⟩
      exact PySem.W.kia_one (PySem.W.handS_kitx_exc Z.hg Z.hk Z.hs Z.hd Z.ha Z.hn Z.ht Z.hm) I.kIn at_ e (fun z => nomatch z) fun tk => ⟨.bl b, H, I.kept (t' := tk) fun _ _ z => z, rfl, q⟩
end
end L2

namespace L2
open PySem PySem.Spec PyProof.Rows
section
variable {X : Cx}
/-- an empty dict, of whatever keys -/
def DEmp (H : Hp) (p : Addr) : Prop := H p = some (.dK []) ∨ H p = some (.dT [])
theorem dEmp_of {P : Program} {w : World} {H : Hp} {h : Heap} {a : Addr} (ok : HOk P w H h) (e : DEmp H a) : (a == sysModules) = false ∧ h.DictOf (mixKind P w) a [] := by
  rcases e with e | e
  · obtain ⟨_, n, vs, r, d⟩ := dk_of ok e
    cases r
    exact ⟨n, d⟩
  · obtain ⟨_, n, xs, r, d⟩ := dt_of ok e
    cases r
    obtain ⟨o, es, ep, h1, h2, h3, h4, _, _⟩ := d
    have hz : es.toList = [] := h4
    refine ⟨n, o, es, ep, h1, h2, h3, ?_, ?_, List.nodup_nil⟩
    · obtain ⟨l⟩ := es
      have : l = [] := hz
      subst this
      intro i hi
      simp at hi
    · rw [hz]; exact .nil
/-- two empty dicts -/
def rD0 (b : Bool) : R2 := fun x y H Q => ∃ p q, x = .ref p ∧ y = .ref q ∧ DEmp H p ∧ DEmp H q ∧ Q (.bl b) H
theorem op_eq0 (hu : X.A.units + 64 < cLine) : OpR X (compareOp .Eq) (rD0 true) := by
  intro pins s σ H x y v u Q I rx ry h
  obtain ⟨p, q, rfl, rfl, hp, hq, k⟩ := h
  obtain rfl : v = Value.ref p := rx
  obtain rfl : u = Value.ref q := ry
  obtain ⟨n1, d1⟩ := dEmp_of I.hok hp
  obtain ⟨n2, d2⟩ := dEmp_of I.hok hq
  exact PySem.W.keq_eq n1 n2 d1 d2 (by omega) (fun _ => .nil) ⟨.bl _, H, I, rfl, k⟩
theorem op_ne0 (hu : X.A.units + 64 < cLine) : OpR X (compareOp .NotEq) (rD0 false) := by
  intro pins s σ H x y v u Q I rx ry h
  obtain ⟨p, q, rfl, rfl, hp, hq, k⟩ := h
  obtain rfl : v = Value.ref p := rx
  obtain rfl : u = Value.ref q := ry
  obtain ⟨n1, d1⟩ := dEmp_of I.hok hp
  obtain ⟨n2, d2⟩ := dEmp_of I.hok hq
  exact PySem.W.keq_ne n1 n2 d1 d2 (by omega) (fun _ => .nil) ⟨.bl _, H, I, rfl, k⟩
end
end L2

namespace CT
open PySem PySem.Spec PyProof.Rows L2

/-! ### data -/
inductive D where
  | non | bl (b : Bool) | int (i : Int) | str (s : Str) | tup (xs : List D) | lst (xs : List D)
  | dct (ks vs : List D) | obj (n : Nat) | scr (ns : List Int)
  /-- an exception of the class that is called c, its fields ns, held as a value -/
  | exn (c : Str) (ns : List Str) (fs : List D)
/-- what a slot holds: nothing known, a shared value, a value of the frame's own -/
inductive SV where
  | no | v (d : D) | o (d : D)
/-- mutable objects that are handed about -/
inductive MO where
  | bag (x y z : Int) | cells (cs : List Int)
abbrev Mem := List MO
inductive Res (α : Type) where
  | ok (a : α) (M : Mem) | exc (c : Str) (fs : List D) (M : Mem) | stuck
abbrev Sg := List SV

def keyD : Key → D
  | .inl i => .int i
  | .inr s => .str s

/-! ### how data lies in the heap -/
def TupAt (K : PySem.W.Frag) (β : List Addr) (H : Hp) (a : Addr) (vs : List V) : Prop :=
  (Rd H a (.tup vs) ∧ a ∉ β) ∨
    ∃ (o : Obj) (its : Array Value) (n : Nat), K.lookup a = some o ∧ o.cls = .type "tuple" ∧ o.data = .seq its n ∧ its.size ≤ sizeLine ∧ Vals vs its.toList
theorem TupAt.sq {K : PySem.W.Frag} {β : List Addr} {H : Hp} {a : Addr} {vs : List V} (h : TupAt K β H a vs) : SqT K H a vs := by
  rcases h with h | h
  · exact .inl h.1
  · exact .inr h
/-- the law's list of ints as it arrives: never written -/
def ScrAt (K : PySem.W.Frag) (β : List Addr) (H : Hp) (a : Addr) (ns : List Int) : Prop :=
  ((∃ o, H a = some (.frz o (.lst (ns.map V.int)))) ∧ a ∉ β) ∨
    ∃ (o : Obj) (its : Array Value) (n : Nat), K.lookup a = some o ∧ o.cls = .type "list" ∧ o.dict = none ∧ o.data = .seq its n ∧ its.size ≤ sizeLine ∧ Vals (ns.map V.int) its.toList
mutual
def Rep (K : PySem.W.Frag) (β : List Addr) (A : Addr → Prop) (H : Hp) : D → V → Prop
  | .non, v => v = .non
  | .bl b, v => v = .bl b
  | .int i, v => v = .int i
  | .str s, v => v = .str s ∧ PyData.strOk s = true
  | .tup ds, v => ∃ a vs, v = .ref a ∧ TupAt K β H a vs ∧ Reps K β A H ds vs
  | .lst ds, v => ∃ a vs, v = .ref a ∧ H a = some (.lst vs) ∧ a ∉ β ∧ ¬ A a ∧ Reps K β A H ds vs
  | .dct ks ds, v => ∃ a, v = .ref a ∧ a ∉ β ∧ ¬ A a ∧ ((∃ kvs : List (Key × V), H a = some (.dK kvs) ∧ ks = kvs.map (fun p => keyD p.1) ∧ Reps K β A H ds (kvs.map (·.2))) ∨
      (∃ kvs : List (List Key × V), H a = some (.dT kvs) ∧ ks = kvs.map (fun p => .tup (p.1.map keyD)) ∧ Reps K β A H ds (kvs.map (·.2))))
  | .obj n, v => ∃ a, β[n]? = some a ∧ v = .ref a
  | .scr ns, v => ∃ a, v = .ref a ∧ (ScrAt K β H a ns ∨ (H a = some (.lst (ns.map V.int)) ∧ a ∉ β ∧ ¬ A a))
  | .exn c ns ds, v => ∃ a C vs, v = .ref a ∧ PySem.W.nsIn K mainGlobals c = some (some (.ref C)) ∧ a ∉ β ∧ ns.length = ds.length ∧ ((∃ d, H a = some (ExA C d a) ∧ H d = some (.xd (ns.zip vs).reverse) ∧ d ∉ β) ∨ (ns = [] ∧ H a = some (ExO (.ref C) a))) ∧ Reps K β A H ds vs
def Reps (K : PySem.W.Frag) (β : List Addr) (A : Addr → Prop) (H : Hp) : List D → List V → Prop
  | [], vs => vs = []
  | d :: ds, vs => ∃ v r, vs = v :: r ∧ Rep K β A H d v ∧ Reps K β A H ds r
end

/-- a value of one's own at a: as Rep, but for a itself -/
def Own (K : PySem.W.Frag) (β : List Addr) (A : Addr → Prop) (H : Hp) (d : D) (a : Addr) : Prop :=
  a ∉ β ∧ match d with
  | .lst ds => ∃ vs, H a = some (.lst vs) ∧ Reps K β A H ds vs
  | .dct ks ds => (∃ kvs : List (Key × V), H a = some (.dK kvs) ∧ ks = kvs.map (fun p => keyD p.1) ∧ Reps K β A H ds (kvs.map (·.2))) ∨
      (∃ kvs : List (List Key × V), H a = some (.dT kvs) ∧ ks = kvs.map (fun p => .tup (p.1.map keyD)) ∧ Reps K β A H ds (kvs.map (·.2)))
  | _ => False

/-! ### what stays -/
/-- what is no list and no dict -/
def Imm : HO → Prop
  | .lst _ => False
  | .dK _ => False
  | .dT _ => False
  | _ => True
/-- all stays but for β's objects, code tables, and lists and dicts in O -/
structure ExtO (O : Addr → Prop) (β : List Addr) (H : Hp) (β' : List Addr) (H' : Hp) : Prop where
  pre : ∃ l, β' = β ++ l ∧ ∀ b ∈ l, H b = none
  keep : ∀ b o, H b = some o → b ∉ β → (∀ ps, o ≠ .tbl ps) → (O b → Imm o) → H' b = some o
  dom : ∀ b, H b ≠ none → H' b ≠ none
  tab : LamX.Tabs lamTabs H → LamX.Tabs lamTabs H'
abbrev Nil : Addr → Prop := fun _ => False
abbrev Ext := ExtO Nil
theorem ExtO.refl {O : Addr → Prop} (β : List Addr) (H : Hp) : ExtO O β H β H := ⟨⟨[], by simp, by simp⟩, fun _ _ h _ _ _ => h, fun _ h => h, fun h => h⟩
theorem Ext.refl (β : List Addr) (H : Hp) : Ext β H β H := ExtO.refl β H
section
variable {O O' : Addr → Prop} {β β' β1 β2 : List Addr} {H H' H1 H2 : Hp}
theorem ExtO.imp (e : ExtO O β H β' H') (h : ∀ a, O a → O' a) : ExtO O' β H β' H' := ⟨e.pre, fun b o q n t i => e.keep b o q n t fun z => i (h b z), e.dom, e.tab⟩
theorem Ext.to (e : Ext β H β' H') : ExtO O β H β' H' := e.imp fun _ z => z.elim
theorem ExtO.notin (e : ExtO O β H β' H') {b : Addr} (h : H b ≠ none) (n : b ∉ β) : b ∉ β' := by
  obtain ⟨l, rfl, hl⟩ := e.pre
  intro m
  rcases List.mem_append.mp m with m | m
  · exact n m
  · exact h (hl b m)
theorem ExtO.trans (e : ExtO O β H β1 H1) (f : ExtO O β1 H1 β2 H2) : ExtO O β H β2 H2 := by
  refine ⟨?_, fun b o h n t i => f.keep b o (e.keep b o h n t i) (e.notin (by rw [h]; simp) n) t i, fun b h => f.dom b (e.dom b h), fun t => f.tab (e.tab t)⟩
  obtain ⟨l, rfl, hl⟩ := e.pre
  obtain ⟨m, rfl, hm⟩ := f.pre
  refine ⟨l ++ m, by simp, fun b hb => ?_⟩
  rcases List.mem_append.mp hb with hb | hb
  · exact hl b hb
  · cases q : H b with
    | none => rfl
    | some o => exact absurd (hm b hb) (e.dom b (by rw [q]; simp))
/-- a new object -/
theorem Ext.new {p : Addr} {o : HO} (h : H p = none) : ExtO O β H β (upd H p o) :=
  ⟨⟨[], by simp, by simp⟩, fun b u q _ _ _ => by rw [upd_ne (ne_of_none q h)]; exact q, fun b q => by
    by_cases z : b = p
    · subst z; exact absurd h q
    · rw [upd_ne z]; exact q, fun t p hp => (t p hp).ext fun b u q => by rw [upd_ne (ne_of_none q h)]; exact q⟩
end
theorem codeO_lst {c : Addr} {q : Str} (xs : List V) : LamX.CodeO c q ≠ .lst xs := fun z => by
  unfold LamX.CodeO at z
  cases z
/-- a table's facts where one object that is no table and no code object is written -/
theorem tab_write {H : Hp} {p : Addr} {o u : HO} (h : H p = some u) (ht : ∀ ps, u ≠ .tbl ps) (hc : ∀ c q, u ≠ LamX.CodeO c q) {P : Addr} {q : Str} (t : LamX.TabS H P q) : LamX.TabS (upd H p o) P q := by
  obtain ⟨ps, h1, h2, h3⟩ := t
  refine ⟨ps, by rw [upd_ne (fun z => ht ps (by rw [z, h] at h1; exact Option.some.inj h1))]; exact h1, h2, fun pos cv e => ?_⟩
  obtain ⟨c, rfl, hc'⟩ := h3 pos cv e
  exact ⟨c, rfl, by rw [upd_ne (fun z => hc c q (by rw [z, h] at hc'; have := Option.some.inj hc'; rw [← z] at this; exact this))]; exact hc'⟩

/-! ### the data stays -/
theorem TupAt.mono {O : Addr → Prop} {K : PySem.W.Frag} {β β' : List Addr} {H H' : Hp} {a : Addr} {vs : List V} (e : ExtO O β H β' H') (h : TupAt K β H a vs) : TupAt K β' H' a vs := by
  rcases h with ⟨h | ⟨o, h⟩, n⟩ | h
  · exact .inl ⟨.inl (e.keep _ _ h n (fun _ z => by cases z) fun _ => True.intro), e.notin (by rw [h]; simp) n⟩
  · exact .inl ⟨.inr ⟨o, e.keep _ _ h n (fun _ z => by cases z) fun _ => True.intro⟩, e.notin (by rw [h]; simp) n⟩
  · exact .inr h
theorem ScrAt.mono {O : Addr → Prop} {K : PySem.W.Frag} {β β' : List Addr} {H H' : Hp} {a : Addr} {ns : List Int} (e : ExtO O β H β' H') (h : ScrAt K β H a ns) : ScrAt K β' H' a ns := by
  rcases h with ⟨⟨o, h⟩, n⟩ | h
  · exact .inl ⟨⟨o, e.keep _ _ h n (fun _ z => by cases z) fun _ => True.intro⟩, e.notin (by rw [h]; simp) n⟩
  · exact .inr h
section
variable {O : Addr → Prop} {K : PySem.W.Frag} {β β' : List Addr} {A A' : Addr → Prop} {H H' : Hp}
mutual
/-- the data stays where what is written is avoided; A': what is to be avoided from now on, fresh things among it -/
theorem Rep.monoO (e : ExtO O β H β' H') (hO : ∀ a, O a → H a ≠ none → A a) (hA : ∀ a, A' a → H a ≠ none → A a) : ∀ (d : D) (v : V), Rep K β A H d v → Rep K β' A' H' d v
  | .non, _, h => by simp only [Rep] at h ⊢; exact h
  | .bl b, _, h => by simp only [Rep] at h ⊢; exact h
  | .int i, _, h => by simp only [Rep] at h ⊢; exact h
  | .str s, _, h => by simp only [Rep] at h ⊢; exact h
  | .scr ns, _, h => by
    simp only [Rep] at h ⊢
    obtain ⟨a, rfl, h | ⟨t, n, m⟩⟩ := h
    · exact ⟨a, rfl, .inl (h.mono e)⟩
    · have ne : H a ≠ none := by rw [t]; simp
      exact ⟨a, rfl, .inr ⟨e.keep _ _ t n (fun _ z => by cases z) (fun z => absurd (hO a z ne) m), e.notin ne n, fun z => m (hA a z ne)⟩⟩
  | .obj n, _, h => by
    simp only [Rep] at h ⊢
    obtain ⟨a, h1, h2⟩ := h
    obtain ⟨l, rfl, _⟩ := e.pre
    exact ⟨a, by rw [List.getElem?_append_left (List.getElem?_eq_some_iff.mp h1).1]; exact h1, h2⟩
  | .tup ds, _, h => by
    simp only [Rep] at h ⊢
    obtain ⟨a, vs, rfl, t, r⟩ := h
    exact ⟨a, vs, rfl, t.mono e, Reps.monoO e hO hA ds vs r⟩
  | .lst ds, _, h => by
    simp only [Rep] at h ⊢
    obtain ⟨a, vs, rfl, t, n, m, r⟩ := h
    have ne : H a ≠ none := by rw [t]; simp
    exact ⟨a, vs, rfl, e.keep _ _ t n (fun _ z => by cases z) (fun z => absurd (hO a z ne) m), e.notin ne n, fun z => m (hA a z ne), Reps.monoO e hO hA ds vs r⟩
  | .dct ks ds, _, h => by
    simp only [Rep] at h ⊢
    obtain ⟨a, rfl, n, m, ⟨kvs, t, k, r⟩ | ⟨kvs, t, k, r⟩⟩ := h
    · have ne : H a ≠ none := by rw [t]; simp
      exact ⟨a, rfl, e.notin ne n, fun z => m (hA a z ne), .inl ⟨kvs, e.keep _ _ t n (fun _ z => by cases z) (fun z => absurd (hO a z ne) m), k, Reps.monoO e hO hA ds _ r⟩⟩
    · have ne : H a ≠ none := by rw [t]; simp
      exact ⟨a, rfl, e.notin ne n, fun z => m (hA a z ne), .inr ⟨kvs, e.keep _ _ t n (fun _ z => by cases z) (fun z => absurd (hO a z ne) m), k, Reps.monoO e hO hA ds _ r⟩⟩
  | .exn c ns ds, _, h => by
    simp only [Rep] at h ⊢
    obtain ⟨a, C, vs, rfl, hc, n, hl, t, r⟩ := h
    have r' := Reps.monoO e hO hA ds vs r
    rcases t with ⟨d, t, u, m⟩ | ⟨z, t⟩
    · exact ⟨a, C, vs, rfl, hc, e.notin (by rw [t]; simp) n, hl, .inl ⟨d, e.keep _ _ t n (fun _ z => by unfold ExA at z; cases z) (fun _ => by unfold ExA; exact True.intro), e.keep _ _ u m (fun _ z => by cases z) (fun _ => True.intro), e.notin (by rw [u]; simp) m⟩, r'⟩
    · exact ⟨a, C, vs, rfl, hc, e.notin (by rw [t]; simp) n, hl, .inr ⟨z, e.keep _ _ t n (fun _ z => by unfold ExO at z; cases z) (fun _ => by unfold ExO; exact True.intro)⟩, r'⟩
theorem Reps.monoO (e : ExtO O β H β' H') (hO : ∀ a, O a → H a ≠ none → A a) (hA : ∀ a, A' a → H a ≠ none → A a) : ∀ (ds : List D) (vs : List V), Reps K β A H ds vs → Reps K β' A' H' ds vs
  | [], _, h => by simp only [Reps] at h ⊢; exact h
  | d :: ds, _, h => by
    simp only [Reps] at h ⊢
    obtain ⟨v, r, rfl, h1, h2⟩ := h
    exact ⟨v, r, rfl, Rep.monoO e hO hA d v h1, Reps.monoO e hO hA ds r h2⟩
end
theorem Rep.mono (e : Ext β H β' H') (hA : ∀ a, A' a → H a ≠ none → A a) (d : D) (v : V) (h : Rep K β A H d v) : Rep K β' A' H' d v := Rep.monoO e (fun _ z => z.elim) hA d v h
theorem Reps.mono (e : Ext β H β' H') (hA : ∀ a, A' a → H a ≠ none → A a) {ds : List D} {vs : List V} (h : Reps K β A H ds vs) : Reps K β' A' H' ds vs := Reps.monoO e (fun _ z => z.elim) hA ds vs h
theorem Own.monoO (e : ExtO O β H β' H') (hO : ∀ a, O a → H a ≠ none → A a) (hA : ∀ a, A' a → H a ≠ none → A a) {d : D} {a : Addr} (na : ¬ O a) (h : Own K β A H d a) : Own K β' A' H' d a := by
  obtain ⟨n, h⟩ := h
  cases d with
  | lst ds =>
    obtain ⟨vs, t, r⟩ := h
    exact ⟨e.notin (by rw [t]; simp) n, vs, e.keep _ _ t n (fun _ z => by cases z) (fun z => absurd z na), Reps.monoO e hO hA _ _ r⟩
  | dct ks ds =>
    rcases h with ⟨kvs, t, k, r⟩ | ⟨kvs, t, k, r⟩
    · exact ⟨e.notin (by rw [t]; simp) n, .inl ⟨kvs, e.keep _ _ t n (fun _ z => by cases z) (fun z => absurd z na), k, Reps.monoO e hO hA _ _ r⟩⟩
    · exact ⟨e.notin (by rw [t]; simp) n, .inr ⟨kvs, e.keep _ _ t n (fun _ z => by cases z) (fun z => absurd z na), k, Reps.monoO e hO hA _ _ r⟩⟩
  | _ => exact h.elim
theorem Own.mono (e : Ext β H β' H') (hA : ∀ a, A' a → H a ≠ none → A a) {d : D} {a : Addr} (h : Own K β A H d a) : Own K β' A' H' d a := h.monoO e (fun _ z => z.elim) hA (fun z => z)
theorem Own.live {d : D} {a : Addr} (h : Own K β A H d a) : H a ≠ none := by
  obtain ⟨n, h⟩ := h
  cases d with
  | lst ds => obtain ⟨vs, t, r⟩ := h; rw [t]; simp
  | dct ks ds => rcases h with ⟨kvs, t, k, r⟩ | ⟨kvs, t, k, r⟩ <;> (rw [t]; simp)
  | _ => exact h.elim
theorem Own.rep {d : D} {a : Addr} (h : Own K β A H d a) (m : ¬ A a) : Rep K β A H d (.ref a) := by
  obtain ⟨n, h⟩ := h
  cases d with
  | lst ds => obtain ⟨vs, t, r⟩ := h; simp only [Rep]; exact ⟨a, vs, rfl, t, n, m, r⟩
  | dct ks ds => simp only [Rep]; exact ⟨a, rfl, n, m, h⟩
  | _ => exact h.elim
theorem Reps.length : ∀ {ds : List D} {vs : List V}, Reps K β A H ds vs → ds.length = vs.length
  | [], _, h => by simp only [Reps] at h; subst h; rfl
  | d :: ds, _, h => by
    simp only [Reps] at h
    obtain ⟨v, r, rfl, h1, h2⟩ := h
    simp [Reps.length h2]
theorem Reps.get : ∀ {ds : List D} {vs : List V} {i : Nat} {d : D}, Reps K β A H ds vs → ds[i]? = some d → ∃ v, vs[i]? = some v ∧ Rep K β A H d v
  | [], _, _, _, _, e => by simp at e
  | d :: ds, _, 0, _, h, e => by
    simp only [Reps] at h
    obtain ⟨v, r, rfl, h1, h2⟩ := h
    simp at e; subst e
    exact ⟨v, rfl, h1⟩
  | d :: ds, _, i + 1, _, h, e => by
    simp only [Reps] at h
    obtain ⟨v, r, rfl, h1, h2⟩ := h
    exact Reps.get (i := i) h2 (by simpa using e)
theorem Reps.getV : ∀ {ds : List D} {vs : List V} {i : Nat} {v : V}, Reps K β A H ds vs → vs[i]? = some v → ∃ d, ds[i]? = some d ∧ Rep K β A H d v := fun {ds vs i v} h e => by
  have hl := h.length
  have hi := (List.getElem?_eq_some_iff.mp e).1
  obtain ⟨w, h1, h2⟩ := h.get (i := i) (List.getElem?_eq_getElem (by omega : i < ds.length))
  rw [e] at h1; cases h1
  exact ⟨_, List.getElem?_eq_getElem (by omega), h2⟩
theorem Reps.append : ∀ {ds es : List D} {vs ws : List V}, Reps K β A H ds vs → Reps K β A H es ws → Reps K β A H (ds ++ es) (vs ++ ws)
  | [], _, _, _, h, g => by simp only [Reps] at h; subst h; exact g
  | d :: ds, _, _, _, h, g => by
    simp only [Reps] at h
    obtain ⟨v, r, rfl, h1, h2⟩ := h
    simp only [List.cons_append, Reps]
    exact ⟨v, _, rfl, h1, Reps.append h2 g⟩
theorem Reps.one {d : D} {v : V} (h : Rep K β A H d v) : Reps K β A H [d] [v] := by
  simp only [Reps]; exact ⟨v, [], rfl, h, rfl⟩
theorem Reps.nil : Reps K β A H [] [] := by simp only [Reps]
theorem Reps.cons {d : D} {ds : List D} {v : V} {vs : List V} (h : Rep K β A H d v) (g : Reps K β A H ds vs) : Reps K β A H (d :: ds) (v :: vs) := by
  simp only [Reps]; exact ⟨v, vs, rfl, h, g⟩
theorem Reps.take : ∀ {ds : List D} {vs : List V} (n : Nat), Reps K β A H ds vs → Reps K β A H (ds.take n) (vs.take n)
  | _, _, 0, _ => by simp only [List.take_zero]; exact Reps.nil
  | [], _, n + 1, h => by simp only [Reps] at h; subst h; exact Reps.nil
  | d :: ds, _, n + 1, h => by
    simp only [Reps] at h
    obtain ⟨v, r, rfl, h1, h2⟩ := h
    exact Reps.cons h1 (Reps.take n h2)
theorem Reps.drop : ∀ {ds : List D} {vs : List V} (n : Nat), Reps K β A H ds vs → Reps K β A H (ds.drop n) (vs.drop n)
  | _, _, 0, h => h
  | [], _, n + 1, h => by simp only [Reps] at h; subst h; exact Reps.nil
  | d :: ds, _, n + 1, h => by
    simp only [Reps] at h
    obtain ⟨v, r, rfl, h1, h2⟩ := h
    exact Reps.drop n h2
theorem Reps.set {d : D} {v : V} (g : Rep K β A H d v) : ∀ {ds : List D} {vs : List V} (n : Nat), Reps K β A H ds vs → Reps K β A H (ds.set n d) (vs.set n v)
  | [], _, _, h => by simp only [Reps] at h; subst h; exact Reps.nil
  | _ :: ds, _, 0, h => by
    simp only [Reps] at h
    obtain ⟨v, r, rfl, h1, h2⟩ := h
    exact Reps.cons g h2
  | _ :: ds, _, n + 1, h => by
    simp only [Reps] at h
    obtain ⟨v, r, rfl, h1, h2⟩ := h
    exact Reps.cons h1 (Reps.set g n h2)
theorem Reps.reverse : ∀ {ds : List D} {vs : List V}, Reps K β A H ds vs → Reps K β A H ds.reverse vs.reverse
  | [], _, h => by simp only [Reps] at h; subst h; exact Reps.nil
  | d :: ds, _, h => by
    simp only [Reps] at h
    obtain ⟨v, r, rfl, h1, h2⟩ := h
    simp only [List.reverse_cons]
    exact (Reps.reverse h2).append (Reps.one h1)
end

/-! ### the mutable objects -/
def RepO (β : List Addr) (H : Hp) (n : Nat) (a : Addr) : MO → Prop
  | .bag x y z => ∃ l, H a = some (.lst [.int x, .int y, .int z, .ref l]) ∧ β[n + 1]? = some l
  | .cells cs => H a = some (.lst (cs.map V.int))
structure RepM (β : List Addr) (H : Hp) (M : Mem) : Prop where
  len : β.length = M.length
  nd : β.Nodup
  at_ : ∀ (n : Nat) (a : Addr) (mo : MO), β[n]? = some a → M[n]? = some mo → RepO β H n a mo

/-! ### frames -/
def avo (A : Addr → Prop) (ow : Nat → Option Addr) : Addr → Prop := fun a => A a ∨ ∃ i, ow i = some a
def Slot (K : PySem.W.Frag) (β : List Addr) (A : Addr → Prop) (ow : Nat → Option Addr) (H : Hp) (i : Nat) (ov : Option (Option V)) : SV → Prop
  | .no => True
  | .v d => ∃ v, ov = some (some v) ∧ Rep K β (avo A ow) H d v
  | .o d => ∃ a, ow i = some a ∧ ov = some (some (.ref a)) ∧ Own K β (avo A ow) H d a ∧ ¬ A a
structure RE (K : PySem.W.Frag) (β : List Addr) (A : Addr → Prop) (H : Hp) (M : Mem) (ow : Nat → Option Addr) (σd : Sg) (σ : L2.St) : Prop where
  mem : RepM β H M
  inj : ∀ i j a, ow i = some a → ow j = some a → i = j
  alive : ∀ i a, ow i = some a → H a ≠ none
  av : ∀ a, A a → H a ≠ none
  len : σd.length = σ.length
  slot : ∀ i s, σd[i]? = some s → Slot K β A ow H i σ[i]? s
  tab : LamX.Tabs lamTabs H
section
variable {K : PySem.W.Frag} {β β' : List Addr} {A : Addr → Prop} {H H' : Hp} {M M' : Mem} {ow : Nat → Option Addr} {σd : Sg} {σ : L2.St}
theorem RE.avoLive (R : RE K β A H M ow σd σ) {a : Addr} (h : avo A ow a) : H a ≠ none := by
  rcases h with h | ⟨i, h⟩
  · exact R.av a h
  · exact R.alive i a h
theorem RE.mono (R : RE K β A H M ow σd σ) (e : Ext β H β' H') (hm : RepM β' H' M') : RE K β' A H' M' ow σd σ := by
  refine ⟨hm, R.inj, fun i a h => e.dom a (R.alive i a h), fun a h => e.dom a (R.av a h), R.len, fun i s h => ?_, e.tab R.tab⟩
  have q := R.slot i s h
  cases s with
  | no => exact True.intro
  | v d =>
    obtain ⟨v, h1, h2⟩ := q
    exact ⟨v, h1, Rep.mono e (fun a z _ => z) _ _ h2⟩
  | o d =>
    obtain ⟨a, h1, h2, h3, h4⟩ := q
    exact ⟨a, h1, h2, h3.mono e (fun a z _ => z), h4⟩
theorem RE.monoO {O A' : Addr → Prop} (R : RE K β A H M ow σd σ) (e : ExtO O β H β' H') (hO : ∀ a, O a → A' a) (hm : RepM β' H' M') (h1 : ∀ a, A' a → H' a ≠ none) (h2 : ∀ a, A' a → H a ≠ none → A a) : RE K β' A' H' M' ow σd σ := by
  have g : ∀ a, avo A' ow a → H a ≠ none → avo A ow a := fun a z n => z.elim (fun z => .inl (h2 a z n)) .inr
  refine ⟨hm, R.inj, fun i a h => e.dom a (R.alive i a h), h1, R.len, fun i s h => ?_, e.tab R.tab⟩
  have q := R.slot i s h
  cases s with
  | no => exact True.intro
  | v d =>
    obtain ⟨v, h1, h2'⟩ := q
    exact ⟨v, h1, Rep.monoO e (fun a z n => .inl (h2 a (hO a z) n)) g _ _ h2'⟩
  | o d =>
    obtain ⟨a, h1, h2', h3, h4⟩ := q
    have nA : ¬ A' a := fun z => h4 (h2 a z (R.alive i a h1))
    exact ⟨a, h1, h2', h3.monoO e (fun b z n => .inl (h2 b (hO b z) n)) g (fun z => nA (hO a z)), nA⟩
end
/-- a statement's step: only what is avoided is written; what is avoided behind it and stood ahead was avoided ahead -/
structure Step (A : Addr → Prop) (β : List Addr) (H : Hp) (A' : Addr → Prop) (β' : List Addr) (H' : Hp) : Prop where
  ext : ExtO A β H β' H'
  grow : ∀ a, A' a → H a ≠ none → A a
section
variable {K : PySem.W.Frag} {A A' A2 : Addr → Prop} {β β' β2 : List Addr} {H H' H2 : Hp}
theorem Step.refl (A : Addr → Prop) (β : List Addr) (H : Hp) : Step A β H A β H := ⟨ExtO.refl _ _, fun _ z _ => z⟩
theorem Step.of (e : Ext β H β' H') : Step A β H A β' H' := ⟨e.imp fun _ z => z.elim, fun _ z _ => z⟩
theorem Step.trans (e : Step A β H A' β' H') (f : Step A' β' H' A2 β2 H2) : Step A β H A2 β2 H2 := by
  refine ⟨?_, fun a z n => e.grow a (f.grow a z (e.ext.dom a n)) n⟩
  have f' : ExtO (fun a => A a ∨ H a = none) β' H' β2 H2 := f.ext.imp fun a z => by
    cases q : H a with
    | none => exact .inr rfl
    | some o => exact .inl (e.grow a z (by rw [q]; simp))
  have g := (e.ext.imp (O' := fun a => A a ∨ H a = none) fun a z => .inl z).trans f'
  refine ⟨g.pre, fun b o q n t i => g.keep b o q n t fun z => ?_, g.dom, g.tab⟩
  rcases z with z | z
  · exact i z
  · rw [q] at z; cases z
theorem Rep.step (e : Step A β H A' β' H') (d : D) (v : V) (h : Rep K β A H d v) : Rep K β' A' H' d v := Rep.monoO e.ext (fun _ z _ => z) e.grow d v h
theorem Reps.step (e : Step A β H A' β' H') {ds : List D} {vs : List V} (h : Reps K β A H ds vs) : Reps K β' A' H' ds vs := Reps.monoO e.ext (fun _ z _ => z) e.grow ds vs h
end
end CT

namespace CT
open PySem PySem.Spec PyProof.Rows L2

/-! ### equality -/
mutual
def deq : D → D → Bool
  | .non, .non => true
  | .bl a, .bl b => a == b
  | .bl a, .int j => (if a then 1 else 0) == j
  | .int i, .bl b => i == (if b then 1 else 0)
  | .int i, .int j => i == j
  | .str x, .str y => x == y
  | .lst xs, .lst ys => deqs xs ys
  | .tup xs, .tup ys => deqs xs ys
  | _, _ => false
def deqs : List D → List D → Bool
  | [], [] => true
  | x :: xs, y :: ys => deq x y && deqs xs ys
  | _, _ => false
end
mutual
/-- none, truths, ints, texts, tuples and lists of such -/
def D.plain : D → Bool
  | .non => true
  | .bl _ => true
  | .int _ => true
  | .str _ => true
  | .tup xs => D.plains xs
  | .lst xs => D.plains xs
  | _ => false
def D.plains : List D → Bool
  | [] => true
  | x :: xs => x.plain && D.plains xs
end
mutual
def D.depth : D → Nat
  | .tup xs => D.depths xs + 1
  | .lst xs => D.depths xs + 1
  | _ => 0
def D.depths : List D → Nat
  | [] => 0
  | x :: xs => max x.depth (D.depths xs)
end
/-- so deep may one of two things be that are compared -/
def deep : Nat := 60

/-! ### the program as terms -/
inductive Op where | add | sub | mul | mod | fdiv | pow | shl | shr | band
  deriving DecidableEq
inductive Cm where | eq | ne | lt | le | gt | ge | isin | notin
  deriving DecidableEq
inductive Bf where | len | abs | int | list | tuple | all | any | sum | max | min | sorted
  deriving DecidableEq
inductive Ty where | int | bool | str | tuple | list
  deriving DecidableEq
inductive Tgt where | nm (i : Nat) | tp (ts : List Tgt)
inductive SK where | any | range1 | range2 | enum | zip
  deriving DecidableEq
/-- what an except clause gives back: a tuple of texts and of the error's fields -/
inductive XI where | k (s : Str) | f (i : Nat)
  deriving DecidableEq
/-- a def that tries what it is given: what it tells with the result, its clauses (class, whether it is named, what is given back) -/
structure WrD where
  told : Str
  hs : List (Str × Bool × List XI)
  deriving DecidableEq
/-- operators of one value, of two, that change nothing and raise nothing: a field of an exception (of one of the classes cs); isinstance of a class h (tab: the answers, by the value's class); t.index(x) -/
inductive O1 where | exf (n : Str) (cs : List Str) | isX (h : Str) (tab : List (Str × Bool))
  deriving DecidableEq
inductive O2 where | index
  deriving DecidableEq
inductive IE where
  | var (i : Nat) | bor (i : Nat) | non | bl (b : Bool) | int (i : Int) | str (s : Str) | glob (x : Str)
  | bin (op : Op) (a b : IE) | binL (op : Op) (a b : IE) | neg (a : IE) | cmp (c : Cm) (a b : IE) | chain (c d : Cm) (x y z : IE) | isN (a : IE) | notN (a : IE)
  | not (a : IE) | and (a b : IE) | or (a b : IE) | ife (t a b : IE)
  | tup (es : List IE) | lst (es : List IE) | idx (a i : IE) | slice (a : IE) (lo hi : List IE)
  | call (f : Str) (es : List IE) | blt (f : Bf) (es : List IE) | isi (ts : List Ty) (a : IE)
  | comp (elt : IE) (tg : Tgt) (own : List (Str × Nat)) (k : SK) (src ifs : List IE)
  | tupS (a : IE) (es : List IE) | join (s : Str) (a : IE) | int2 (a : IE) | isB (ng b : Bool) (a : IE) | lam (w : WrD) (f : Str) (e : IE)
  | mkx (c : Str) (ns : List Str) (es : List IE) | dct0 | o1 (o : O1) (a : IE) | o2 (o : O2) (a b : IE)
  | rev (a : IE) | zipl (a b : IE) | sset (a : IE) | dcomp (kx vx : IE) (tg : Tgt) (own : List (Str × Nat)) (k : SK) (src : List IE)
/-! ### what they do -/
@[simp] def Res.bind {α β : Type} : Res α → (α → Mem → Res β) → Res β
  | .ok a M, k => k a M
  | .exc c fs M, _ => .exc c fs M
  | .stuck, _ => .stuck
@[simp] def Res.of {α : Type} (o : Option α) (M : Mem) : Res α := match o with
  | some a => .ok a M
  | none => .stuck

def binD : Op → D → D → Option D
  | .add, .int i, .int j => some (.int (i + j))
  | .add, .str a, .str b => if a.length + b.length ≤ sizeLine then some (.str (a ++ b)) else none
  | .add, .tup a, .tup b => if a.length + b.length ≤ sizeLine then some (.tup (a ++ b)) else none
  | .add, .lst a, .lst b => if a.length + b.length ≤ sizeLine then some (.lst (a ++ b)) else none
  | .sub, .int i, .int j => some (.int (i - j))
  | .mul, .int i, .int j => if (-(2 ^ 64) < i ∧ i < 2 ^ 64) ∨ (-(2 ^ 64) < j ∧ j < 2 ^ 64) then some (.int (i * j)) else none
  | .mul, .lst a, .int k => if -(2 ^ 63) ≤ k ∧ k < 2 ^ 63 ∧ a.length * k.toNat ≤ sizeLine then some (.lst (List.replicate k.toNat a).flatten) else none
  | .mod, .int i, .int j => if 0 < j then some (.int (i % j)) else none
  | .fdiv, .int i, .int j => if 0 < j ∧ j < 1073741824 then some (.int (i / j)) else none
  | .pow, .int i, .int j => if 0 ≤ j ∧ j ≤ 1000000 ∧ i.natAbs < 2 ^ 64 then some (.int (i ^ j.toNat)) else none
  | .shl, .int i, .int j => if 0 ≤ j ∧ j ≤ 1000000 ∧ i.natAbs < 2 ^ 64 then some (.int (i * 2 ^ j.toNat)) else none
  | .shr, .int i, .int j => if 0 ≤ j then some (.int (i / 2 ^ j.toNat)) else none
  | .band, .int i, .int j => some (.int (Builtin.bitAnd i j))
  | _, _, _ => none
/-- two empty dicts -/
def eq0 : D → D → Bool
  | .dct [] [], .dct [] [] => true
  | _, _ => false
def eqD (x y : D) : Option Bool := if eq0 x y = true then some true else if x.plain = true ∧ y.plain = true ∧ min x.depth y.depth ≤ deep then some (deq x y) else none
def inD (x : D) (ys : List D) : Option Bool := if x.plain = true ∧ D.plains ys = true ∧ min (D.depths ys) x.depth ≤ deep then some (ys.any fun y => deq y x) else none
def occ (i j : Str) : Bool := !(Builtin.Str.occurrences j i 0 j.length 1).isEmpty
def cmpD : Cm → D → D → Option Bool
  | .eq, x, y => eqD x y
  | .ne, x, y => (eqD x y).map (!·)
  | .lt, .int i, .int j => some (decide (i < j))
  | .le, .int i, .int j => some (decide (i ≤ j))
  | .gt, .int i, .int j => some (decide (j < i))
  | .ge, .int i, .int j => some (decide (j ≤ i))
  | .isin, x, .tup ys => inD x ys
  | .isin, x, .lst ys => inD x ys
  | .isin, .str i, .str j => some (occ i j)
  | .notin, x, .tup ys => (inD x ys).map (!·)
  | .notin, x, .lst ys => (inD x ys).map (!·)
  | .notin, .str i, .str j => some (!occ i j)
  | _, _, _ => none
def truD : D → Option Bool
  | .non => some false
  | .bl b => some b
  | .int i => some (i != 0)
  | .str s => if s.length ≤ sizeLine then some ((s.length : Int) != 0) else none
  | .tup xs => some (!xs.isEmpty)
  | .lst xs => some (!xs.isEmpty)
  | _ => none
def isNon : D → Bool
  | .non => true
  | _ => false
def idxD : D → D → Option D
  | .tup xs, .int i => atI xs i
  | .lst xs, .int i => atI xs i
  | .str z, .int i => if z.length ≤ sizeLine then (atI z.cps.toList i).map fun c => .str ⟨#[c]⟩ else none
  | _, _ => none
def cutL {α : Type} (xs : List α) (lo hi : Option Int) : List α := (xs.drop (HT.sIx xs.length 0 lo)).take (HT.sIx xs.length xs.length hi - HT.sIx xs.length 0 lo)
def cutD : D → Option Int → Option Int → Option D
  | .tup xs, lo, hi => some (.tup (cutL xs lo hi))
  | .lst xs, lo, hi => some (.lst (cutL xs lo hi))
  | .scr ns, lo, hi => some (.lst ((cutL ns lo hi).map .int))
  | _, _, _ => none
def partD : List D → Option (Option Int)
  | [] => some none
  | [.int i] => some (some i)
  | _ => none
def isTy : Ty → D → Bool
  | .int, .int _ => true
  | .int, .bl _ => true
  | .bool, .bl _ => true
  | .str, .str _ => true
  | .tuple, .tup _ => true
  | .list, .lst _ => true
  | _, _ => false
def tyable : D → Bool
  | .non | .bl _ | .int _ | .str _ | .tup _ | .lst _ | .dct _ _ => true
  | _ => false
def intsD : List D → Option (List Int)
  | [] => some []
  | .int i :: r => (intsD r).map (i :: ·)
  | _ => none
def blsD : List D → Option (List Bool)
  | [] => some []
  | .bl i :: r => (blsD r).map (i :: ·)
  | _ => none
def maxL : List Int → Option Int
  | [] => none
  | x :: r => some (r.foldl max x)
def minL : List Int → Option Int
  | [] => none
  | x :: r => some (r.foldl min x)
def insI (x : Int) : List Int → List Int
  | [] => [x]
  | y :: r => if x ≤ y then x :: y :: r else y :: insI x r
def sortI : List Int → List Int
  | [] => []
  | x :: r => insI x (sortI r)
def bltD : Bf → List D → Option D
  | .len, [.tup xs] => some (.int xs.length)
  | .len, [.lst xs] => some (.int xs.length)
  | .len, [.dct ks _] => some (.int ks.length)
  | .len, [.str s] => if s.length ≤ sizeLine then some (.int s.length) else none
  | .abs, [.int i] => some (.int (if i < 0 then -i else i))
  | .int, [.int i] => some (.int i)
  | .int, [.bl b] => some (.int (if b then 1 else 0))
  | .list, [.tup xs] => some (.lst xs)
  | .list, [.lst xs] => some (.lst xs)
  | .tuple, [.tup xs] => some (.tup xs)
  | .tuple, [.lst xs] => some (.tup xs)
  | .all, [.lst xs] => (blsD xs).map fun bs => .bl (bs.all id)
  | .any, [.lst xs] => (blsD xs).map fun bs => .bl (bs.any id)
  | .sum, [.lst xs] => (intsD xs).map fun ns => .int ns.sum
  | .max, [.int i, .int j] => some (.int (if j > i then j else i))
  | .min, [.int i, .int j] => some (.int (if j < i then j else i))
  | .max, [.lst xs] => (intsD xs).bind fun ns => (maxL ns).map .int
  | .min, [.lst xs] => (intsD xs).bind fun ns => (minL ns).map .int
  | .sorted, [.dct ks _] => if ks.length < 64 ∧ ks.isEmpty = false then (intsD ks).map fun ns => .lst ((sortI ns).map .int) else none
  | .sorted, [.lst xs] => (intsD xs).map fun ns => .lst ((sortI ns).map .int)
  | _, _ => none
def keyOf : D → Option Key
  | .int i => some (.inl i)
  | .str s => some (.inr s)
  | _ => none
def putD (acc : List (Key × D)) (k : Key) (d : D) : List (Key × D) := if (acc.any fun p => decide (p.1 = k)) = true then acc.map (fun p => if p.1 = k then (p.1, d) else p) else acc ++ [(k, d)]
def revD : D → Option D
  | .lst xs => some (.lst xs.reverse)
  | .tup xs => some (.tup xs.reverse)
  | _ => none
def insU (x : Int) : List Int → List Int
  | [] => [x]
  | y :: r => if x < y then x :: y :: r else if x = y then y :: r else y :: insU x r
def sortU : List Int → List Int
  | [] => []
  | x :: r => insU x (sortU r)
def ssetD : D → Option D
  | .lst xs => (intsD xs).bind fun ns => if ns.length < 64 then some (.lst ((sortU ns).map .int)) else none
  | .tup xs => (intsD xs).bind fun ns => if ns.length < 64 then some (.lst ((sortU ns).map .int)) else none
  | _ => none
mutual
def asgT : Tgt → D → Sg → Option Sg
  | .nm i, d, σ => some (σ.set i (.v d))
  | .tp ts, .tup ds, σ => asgTs ts ds σ
  | _, _, _ => none
def asgTs : List Tgt → List D → Sg → Option Sg
  | [], [], σ => some σ
  | t :: ts, d :: ds, σ => (asgT t d σ).bind fun σ' => asgTs ts ds σ'
  | _, _, _ => none
end
mutual
def Tgt.slots : Tgt → List Nat
  | .nm i => [i]
  | .tp ts => Tgt.slotss ts
def Tgt.slotss : List Tgt → List Nat
  | [] => []
  | t :: ts => t.slots ++ Tgt.slotss ts
end
def rangeL (lo hi : Int) : List D := (List.range (hi - lo).toNat).map fun (n : Nat) => D.int (lo + (n : Int))
def enumL (n : Int) : List D → List D
  | [] => []
  | x :: r => .tup [.int n, x] :: enumL (n + 1) r
def zipL : List D → List D → List D
  | x :: xs, y :: ys => .tup [x, y] :: zipL xs ys
  | _, _ => []
def ziplD : D → D → Option D
  | .lst xs, .lst ys => some (.lst (zipL xs ys))
  | .tup xs, .tup ys => some (.lst (zipL xs ys))
  | _, _ => none
def in62 (i : Int) : Bool := decide (-(2 ^ 62) ≤ i ∧ i < 2 ^ 62)
/-- what a source gives, item by item -/
def srcD : SK → List D → Option (List D)
  | .any, [.tup xs] => some xs
  | .any, [.lst xs] => some xs
  | .any, [.str z] => some (z.cps.toList.map fun c => .str ⟨#[c]⟩)
  | .range1, [.int n] => if in62 n then some (rangeL 0 n) else none
  | .range2, [.int a, .int b] => if in62 a && in62 b then some (rangeL a b) else none
  | .enum, [.lst xs] => some (enumL 0 xs)
  | .enum, [.tup xs] => some (enumL 0 xs)
  | .zip, [.lst xs, .lst ys] => some (zipL xs ys)
  | .zip, [.tup xs, .tup ys] => some (zipL xs ys)
  | _, _ => none
def wipeG (σ : Sg) : List Nat → Sg
  | [] => σ
  | v :: vs => (wipeG σ vs).set v .no
def xiD (fs : List D) : List XI → Option (List D)
  | [] => some []
  | .k s :: r => (xiD fs r).map (.str s :: ·)
  | .f i :: r => (match fs[i]? with | some d => (xiD fs r).map (d :: ·) | none => none)
def wrH (c : Str) (fs : List D) (M : Mem) : List (Str × Bool × List XI) → Res D
  | [] => .stuck
  | (h, _, xs) :: r => if c = h then (match xiD fs xs with | some ds => .ok (.tup ds) M | none => .stuck) else wrH c fs M r
def wrR (w : WrD) : Res D → Res D
  | .ok d M => .ok (.tup [.str w.told, d]) M
  | .exc c fs M => wrH c fs M w.hs
  | .stuck => .stuck
def itemsD : D → Option (List D)
  | .tup xs => some xs
  | .lst xs => some xs
  | _ => none
def strsD : List D → Option (List Str)
  | [] => some []
  | .str s :: r => (strsD r).map (s :: ·)
  | _ => none
def joinD (s : Str) : D → Option D
  | .lst xs => (strsD xs).bind fun ys => if (ys.map (·.length)).sum + ys.length * s.length ≤ 16777216 ∧ PyData.strOk (Txt.join s ys) = true then some (.str (Txt.join s ys)) else none
  | .tup xs => (strsD xs).bind fun ys => if (ys.map (·.length)).sum + ys.length * s.length ≤ 16777216 ∧ PyData.strOk (Txt.join s ys) = true then some (.str (Txt.join s ys)) else none
  | _ => none
def binNum (l : List Nat) : Nat := l.foldl (fun a c => a * 2 + (c - 48)) 0
def int2D : D → Option D
  | .str s => if s.cps.toList ≠ [] ∧ s.cps.toList.length ≤ 640 ∧ (s.cps.toList.all fun c => c == 48 || c == 49) = true then some (.int (binNum s.cps.toList : Nat)) else none
  | _ => none
def isBD (ng b : Bool) : D → Option D
  | .bl c => some (.bl (if ng then !(c == b) else c == b))
  | _ => none
def o1D : O1 → D → Option D
  | .exf n cs, .exn c ns fs => if c ∈ cs ∧ ns.Nodup then (ns.zip fs).lookup n else none
  | .isX _ tab, .exn c _ _ => (tab.lookup c).map .bl
  | _, _ => none
/-- what an operator of two is told of -/
def o2T : O2 → D → Bool
  | .index, .tup _ => true
  | .index, .lst _ => true
  | _, _ => false
def o2D : O2 → D → D → Option D
  | .index, .tup xs, .str s => (strsD xs).bind fun ss => (ss.findIdx? fun t => decide (t = s)).map fun (i : Nat) => .int i
  | .index, .lst xs, .str s => (strsD xs).bind fun ss => (ss.findIdx? fun t => decide (t = s)).map fun (i : Nat) => .int i
  | _, _, _ => none
/-- the turns of a comprehension -/
def compL (f : D → Mem → Res (Option D)) : List D → Nat → Mem → Res (List D)
  | [], _, M => .ok [] M
  | x :: r, n, M => match f x M with
    | .ok (some y) M1 => if n < sizeLine then (compL f r (n + 1) M1).bind fun ys M2 => .ok (y :: ys) M2 else .stuck
    | .ok none M1 => compL f r n M1
    | _ => .stuck
/-- the turns of a dict comprehension -/
def compKL (f : D → Mem → Res (D × D)) : List D → List (Key × D) → Mem → Res (List (Key × D))
  | [], acc, M => .ok acc M
  | x :: r, acc, M => match f x M with
    | .ok y M1 => (match keyOf y.1 with
      | some k => if acc.length < sizeLine then compKL f r (putD acc k y.2) M1 else .stuck
      | none => .stuck)
    | _ => .stuck
/-- a call's meaning -/
abbrev Fns := Str → List D → Mem → Res D
section
variable (Γ : Fns) (Cn : Str → Option D)
mutual
def semE : IE → Sg → Mem → Res D
  | .var i, σ, M => match σ[i]? with | some (.v d) => .ok d M | _ => .stuck
  | .bor i, σ, M => match σ[i]? with | some (.v d) => .ok d M | some (.o d) => .ok d M | _ => .stuck
  | .non, _, M => .ok .non M
  | .bl b, _, M => .ok (.bl b) M
  | .int i, _, M => .ok (.int i) M
  | .str s, _, M => .ok (.str s) M
  | .glob x, _, M => .of (Cn x) M
  | .bin op a b, σ, M => (semE a σ M).bind fun x M1 => (semE b σ M1).bind fun y M2 => .of (binD op x y) M2
  | .binL op a b, σ, M => (semE a σ M).bind fun x M1 => (semE b σ M1).bind fun y M2 => match binD op x y with | some (.lst l) => .ok (.lst l) M2 | _ => .stuck
  | .neg a, σ, M => (semE a σ M).bind fun x M1 => match x with | .int i => .ok (.int (-i)) M1 | _ => .stuck
  | .cmp c a b, σ, M => (semE a σ M).bind fun x M1 => (semE b σ M1).bind fun y M2 => .of ((cmpD c x y).map .bl) M2
  | .chain c d x y z, σ, M => (semE x σ M).bind fun p M1 => (semE y σ M1).bind fun q M2 => match cmpD c p q with
    | some true => (semE z σ M2).bind fun r M3 => .of ((cmpD d q r).map .bl) M3
    | some false => .ok (.bl false) M2
    | none => .stuck
  | .isN a, σ, M => (semE a σ M).bind fun x M1 => .ok (.bl (isNon x)) M1
  | .notN a, σ, M => (semE a σ M).bind fun x M1 => .ok (.bl (!isNon x)) M1
  | .not a, σ, M => (semE a σ M).bind fun x M1 => .of ((truD x).map fun b => .bl !b) M1
  | .and a b, σ, M => (semE a σ M).bind fun x M1 => match truD x with | some true => semE b σ M1 | some false => .ok x M1 | none => .stuck
  | .or a b, σ, M => (semE a σ M).bind fun x M1 => match truD x with | some true => .ok x M1 | some false => semE b σ M1 | none => .stuck
  | .ife t a b, σ, M => (semE t σ M).bind fun c M1 => match truD c with | some true => semE a σ M1 | some false => semE b σ M1 | none => .stuck
  | .tup es, σ, M => (semEs es σ M).bind fun xs M1 => if xs.length ≤ sizeLine then .ok (.tup xs) M1 else .stuck
  | .lst es, σ, M => (semEs es σ M).bind fun xs M1 => if xs.length ≤ sizeLine then .ok (.lst xs) M1 else .stuck
  | .idx a i, σ, M => (semE a σ M).bind fun x M1 => (semE i σ M1).bind fun y M2 => .of (idxD x y) M2
  | .slice a lo hi, σ, M => (semE a σ M).bind fun x M1 => (semEs lo σ M1).bind fun l M2 => match partD l with
    | some p => (semEs hi σ M2).bind fun h M3 => (match partD h with | some q => .of (cutD x p q) M3 | none => .stuck)
    | none => .stuck
  | .call f es, σ, M => (semEs es σ M).bind fun xs M1 => Γ f xs M1
  | .blt f es, σ, M => (semEs es σ M).bind fun xs M1 => .of (bltD f xs) M1
  | .isi ts a, σ, M => (semE a σ M).bind fun x M1 => if tyable x then .ok (.bl (ts.any fun t => isTy t x)) M1 else .stuck
  | .comp elt tg own k src ifs, σ, M => (semEs src σ M).bind fun xs M1 => match srcD k xs with
    | some items => (compL (fun x M => match asgT tg x (wipeG σ (own.map (·.2))) with
        | some σ' => (semIf ifs σ' M).bind fun b M1 => match b with | true => (semE elt σ' M1).bind fun y M2 => .ok (some y) M2 | false => .ok none M1
        | none => .stuck) items 0 M1).bind fun ys M2 => .ok (.lst ys) M2
    | none => .stuck
  | .tupS a es, σ, M => (semE a σ M).bind fun x M1 => match itemsD x with
    | some xs => (semEs es σ M1).bind fun ys M2 => if xs.length + ys.length ≤ sizeLine then .ok (.tup (xs ++ ys)) M2 else .stuck
    | none => .stuck
  | .join s a, σ, M => (semE a σ M).bind fun x M1 => .of (joinD s x) M1
  | .int2 a, σ, M => (semE a σ M).bind fun x M1 => .of (int2D x) M1
  | .isB ng b a, σ, M => (semE a σ M).bind fun x M1 => .of (isBD ng b x) M1
  | .lam w _ e, σ, M => wrR w (semE e σ M)
  | .mkx c ns es, σ, M => (semEs es σ M).bind fun xs M1 => if xs.length = ns.length then .ok (.exn c ns xs) M1 else .stuck
  | .dct0, _, M => .ok (.dct [] []) M
  | .o1 o a, σ, M => (semE a σ M).bind fun x M1 => .of (o1D o x) M1
  | .o2 o a b, σ, M => (semE a σ M).bind fun x M1 => match o2T o x with | true => (semE b σ M1).bind fun y M2 => .of (o2D o x y) M2 | false => .stuck
  | .rev a, σ, M => (semE a σ M).bind fun x M1 => .of (revD x) M1
  | .zipl a b, σ, M => (semE a σ M).bind fun x M1 => (semE b σ M1).bind fun y M2 => .of (ziplD x y) M2
  | .sset a, σ, M => (semE a σ M).bind fun x M1 => .of (ssetD x) M1
  | .dcomp kx vx tg own k src, σ, M => (semEs src σ M).bind fun xs M1 => match srcD k xs with
    | some items => (compKL (fun x M => match asgT tg x (wipeG σ (own.map (·.2))) with
        | some σ' => (semE kx σ' M).bind fun y M1 => (semE vx σ' M1).bind fun z M2 => .ok (y, z) M2
        | none => .stuck) items [] M1).bind fun kvs M2 => .ok (.dct (kvs.map fun p => keyD p.1) (kvs.map (·.2))) M2
    | none => .stuck
def semEs : List IE → Sg → Mem → Res (List D)
  | [], _, M => .ok [] M
  | e :: es, σ, M => (semE e σ M).bind fun x M1 => (semEs es σ M1).bind fun xs M2 => .ok (x :: xs) M2
def semIf : List IE → Sg → Mem → Res Bool
  | [], _, M => .ok true M
  | [e], σ, M => (semE e σ M).bind fun x M1 => .of (truD x) M1
  | _ :: _ :: _, _, _ => .stuck
end
end
end CT

namespace CT
open PySem PySem.Spec PyProof.Rows L2

inductive Kd where | pl | fr | br
  deriving DecidableEq
def RepF (k : Kd) (K : PySem.W.Frag) (β : List Addr) (A : Addr → Prop) (H0 H : Hp) (d : D) (v : V) : Prop := match k with
  | .pl => Rep K β A H d v
  | .fr => ∃ a, v = .ref a ∧ H0 a = none ∧ Own K β (fun z => A z ∨ z = a) H d a
  | .br => Rep K β A H d v ∨ ∃ a, v = .ref a ∧ Own K β A H d a
/-- as RepF .br, item by item -/
def RepW (K : PySem.W.Frag) (β : List Addr) (A : Addr → Prop) (H : Hp) (d : D) (v : V) : Prop := Rep K β A H d v ∨ ∃ a, v = .ref a ∧ Own K β A H d a
def RepsW (K : PySem.W.Frag) (β : List Addr) (A : Addr → Prop) (H : Hp) : List D → List V → Prop
  | [], vs => vs = []
  | d :: ds, vs => ∃ v r, vs = v :: r ∧ RepW K β A H d v ∧ RepsW K β A H ds r

def RepsK (k : Kd) (K : PySem.W.Frag) (β : List Addr) (A : Addr → Prop) (H : Hp) (ds : List D) (vs : List V) : Prop := match k with
  | .br => RepsW K β A H ds vs
  | _ => Reps K β A H ds vs
/-- the tables of a program: constants, exception classes with their fields, defs with their arity (and whether what they hand back is new) -/
structure Tb where
  Cn : Str → Option D
  XN : Str → Option (List Str)
  /-- XS h c: whether class c is one of h's -/
  XS : Str → Str → Option Bool
  Fn : Str → Option (Nat × Bool)
  Wn : Str → Option WrD
  mL : Scope → IE → Expr → Bool
/-- .. within a lambda -/
def Tb.no (T : Tb) : Tb := { T with mL := fun _ _ _ => false }
def XRep (mg : Str → Option Value) (T : Tb) (K : PySem.W.Frag) (β : List Addr) (A : Addr → Prop) (H : Hp) (c : Str) (fs : List D) (cls : Value) (dx : Option Addr) : Prop :=
  ∃ C, cls = .ref C ∧ mg c = some (.ref C) ∧ ∃ names, T.XN c = some names ∧ fs.length = names.length ∧
    (names = [] ∨ ∃ d fv, dx = some d ∧ H d = some (.xd fv) ∧ d ∉ β ∧ ∀ (i : Nat) (nm : Str), names[i]? = some nm → ∃ v x, fs[i]? = some x ∧ fv.lookup nm = some v ∧ Rep K β A H x v)

/-- what is behind a result -/
def Post (mg : Str → Option Value) (T : Tb) (K : PySem.W.Frag) (W : WX) (β : List Addr) (A : Addr → Prop) (k : Kd) (σ : L2.St) (H : Hp) (Q : VK) : Res D → Prop
  | .ok d M' => ∀ β' v H', Ext β H β' H' → RepM β' H' M' → RepF k K β' A H H' d v → Q v H'
  | .exc c fs M' => ∀ β' cls dx H', Ext β H β' H' → RepM β' H' M' → XRep mg T K β' A H' c fs cls dx → W cls dx σ H'
  | .stuck => False
def PostA (mg : Str → Option Value) (T : Tb) (K : PySem.W.Frag) (W : WX) (β : List Addr) (A : Addr → Prop) (k : Kd) (σ : L2.St) (H : Hp) (Q : List V → Hp → Prop) : Res (List D) → Prop
  | .ok ds M' => ∀ β' vs H', Ext β H β' H' → RepM β' H' M' → RepsK k K β' A H' ds vs → Q vs H'
  | .exc c fs M' => ∀ β' cls dx H', Ext β H β' H' → RepM β' H' M' → XRep mg T K β' A H' c fs cls dx → W cls dx σ H'
  | .stuck => False
/-- an expression's reading by its meaning c -/
def tE (mg : Str → Option Value) (T : Tb) (K : PySem.W.Frag) (W : WX) (k : Kd) (c : Sg → Mem → Res D) : TE := fun σ H Q =>
  ∃ β A M ow σd, RE K β A H M ow σd σ ∧ Post mg T K W β (avo A ow) k σ H Q (c σd M)
def tA (mg : Str → Option Value) (T : Tb) (K : PySem.W.Frag) (W : WX) (k : Kd) (c : Sg → Mem → Res (List D)) : TA := fun σ H Q =>
  ∃ β A M ow σd, RE K β A H M ow σd σ ∧ PostA mg T K W β (avo A ow) k σ H Q (c σd M)

section
variable {mg : Str → Option Value} {T : Tb} {K : PySem.W.Frag} {W : WX} {β β' : List Addr} {A : Addr → Prop} {k : Kd} {σ : L2.St} {H H' H0 : Hp} {Q : VK}
theorem Ext.back (e : Ext β H β' H') {a : Addr} (h : H' a = none) : H a = none := by
  cases q : H a with
  | none => rfl
  | some o => exact absurd h (e.dom a (by rw [q]; simp))
theorem RepF.later {k : Kd} {H2 : Hp} {β2 : List Addr} {d : D} {v : V} (e : Ext β H β' H') (h : RepF k K β2 A H' H2 d v) : RepF k K β2 A H H2 d v := by
  cases k with
  | pl => exact h
  | br => exact h
  | fr =>
    obtain ⟨a, h1, h2, h3⟩ := h
    exact ⟨a, h1, e.back h2, h3⟩
theorem Post.later {r : Res D} (e : Ext β H β' H') (h : Post mg T K W β A k σ H Q r) : Post mg T K W β' A k σ H' Q r := by
  cases r with
  | ok d M => exact fun β2 v H2 e2 m2 r2 => h β2 v H2 (e.trans e2) m2 (r2.later e)
  | exc c fs M => exact fun β2 cls dx H2 e2 m2 x => h β2 cls dx H2 (e.trans e2) m2 x
  | stuck => exact h
theorem PostA.later {Q : List V → Hp → Prop} {r : Res (List D)} (e : Ext β H β' H') (h : PostA mg T K W β A k σ H Q r) : PostA mg T K W β' A k σ H' Q r := by
  cases r with
  | ok d M => exact fun β2 v H2 e2 m2 r2 => h β2 v H2 (e.trans e2) m2 r2
  | exc c fs M => exact fun β2 cls dx H2 e2 m2 x => h β2 cls dx H2 (e.trans e2) m2 x
  | stuck => exact h
theorem RepF.mono {k : Kd} {d : D} {v : V} {β2 : List Addr} {H2 : Hp} (e : Ext β H' β2 H2) (h : RepF k K β A H0 H' d v) : RepF k K β2 A H0 H2 d v := by
  cases k with
  | pl => exact Rep.mono e (fun _ z _ => z) d v h
  | br =>
    rcases h with h | ⟨a, h1, h2⟩
    · exact .inl (Rep.mono e (fun _ z _ => z) d v h)
    · exact .inr ⟨a, h1, h2.mono e (fun _ z _ => z)⟩
  | fr =>
    obtain ⟨a, h1, h2, h3⟩ := h
    exact ⟨a, h1, h2, h3.mono e (fun _ z _ => z)⟩
theorem RepW.mono {d : D} {v : V} {β2 : List Addr} {H2 : Hp} (e : Ext β H' β2 H2) (h : RepW K β A H' d v) : RepW K β2 A H2 d v := RepF.mono (k := .br) (H0 := H') e h
/-- seen as a borrowed value, a plain one -/
theorem RepF.weak {k : Kd} {d : D} {v : V} (h : RepF k K β A H0 H d v) : RepW K β A H d v := by
  cases k with
  | pl => exact .inl h
  | br => exact h
  | fr =>
    obtain ⟨a, h1, h2, h3⟩ := h
    exact .inr ⟨a, h1, h3.mono (Ext.refl _ _) fun _ z _ => .inl z⟩
theorem RepF.plain {k : Kd} {d : D} {v : V} (hk : k ≠ .br) (hA : ∀ a, A a → H0 a ≠ none) (h : RepF k K β A H0 H d v) : Rep K β A H d v := by
  cases k with
  | pl => exact h
  | br => exact absurd rfl hk
  | fr =>
    obtain ⟨a, h1, h2, h3⟩ := h
    subst h1
    exact (h3.mono (Ext.refl _ _) fun _ z _ => .inl z : Own K β A H d a).rep (fun z => hA a z h2)
theorem RepsW.mono {β2 : List Addr} {H2 : Hp} (e : Ext β H' β2 H2) : ∀ {ds : List D} {vs : List V}, RepsW K β A H' ds vs → RepsW K β2 A H2 ds vs
  | [], _, h => by simp only [RepsW] at h ⊢; exact h
  | d :: ds, _, h => by
    simp only [RepsW] at h ⊢
    obtain ⟨v, r, rfl, h1, h2⟩ := h
    exact ⟨v, r, rfl, h1.mono e, RepsW.mono e h2⟩

theorem pe_imp {X : Cx} {e : Expr} {t t' : TE} (h : PE X e t) (i : ∀ σ H Q, t' σ H Q → t σ H Q) : PE X e t' := ⟨fun pins s σ H Q I q => h.run pins s σ H Q I (i σ H Q q)⟩
theorem pa_imp {X : Cx} {e : List Expr} {t t' : TA} (h : PA X e t) (i : ∀ σ H Q, t' σ H Q → t σ H Q) : PA X e t' := ⟨fun pos pins s σ H Q I q => h.run pos pins s σ H Q I (i σ H Q q)⟩
theorem pt_imp {X : Cx} {e : Expr} {t t' : TT} (h : PT X e t) (i : ∀ σ H Q, t' σ H Q → t σ H Q) : PT X e t' := ⟨fun pins s σ H Q I q => h.run pins s σ H Q I (i σ H Q q)⟩
theorem pw_imp {X : Cx} {e : Expr} {t t' : TT} (h : PW X e t) (i : ∀ σ H Q, t' σ H Q → t σ H Q) : PW X e t' := ⟨fun w pins s σ H Q I q => h.run w pins s σ H Q I (i σ H Q q)⟩
theorem ps_imp {X : Cx} {e : Stmt} {t t' : TS} (h : PS X e t) (i : ∀ D σ H, t' D σ H → t D σ H) : PS X e t' := ⟨fun pins s σ H D I q => h.run pins s σ H D I (i D σ H q)⟩
theorem pss_imp {X : Cx} {e : List Stmt} {t t' : TS} (h : PSs X e t) (i : ∀ D σ H, t' D σ H → t D σ H) : PSs X e t' := ⟨fun pins s σ H D I q => h.run pins s σ H D I (i D σ H q)⟩
theorem pi_imp {X : Cx} {tg e : Expr} {t t' : TI} (h : PI X tg e t) (i : ∀ σ H Q, t' σ H Q → t σ H Q) : PI X tg e t' := ⟨fun pins s σ H Q I q => h.run pins s σ H Q I (i σ H Q q)⟩
theorem pi_or {X : Cx} {tg e : Expr} {t t' : TI} (h : PI X tg e t) (h' : PI X tg e t') : PI X tg e (fun σ H Q => t σ H Q ∨ t' σ H Q) := ⟨fun pins s σ H Q I q => q.elim (h.run pins s σ H Q I) (h'.run pins s σ H Q I)⟩

/-- a reading seen with a borrowed, a plain end -/
theorem tE_weak {c : Sg → Mem → Res D} (h : tE mg T K W .br c σ H Q) : tE mg T K W k c σ H Q := by
  obtain ⟨β, A, M, ow, σd, R, p⟩ := h
  refine ⟨β, A, M, ow, σd, R, ?_⟩
  cases q : c σd M with
  | ok d M' => rw [q] at p; exact fun β' v H' e m r => p β' v H' e m r.weak
  | exc c fs M' => rw [q] at p; exact p
  | stuck => rw [q] at p; exact p
theorem tE_plain {c : Sg → Mem → Res D} (hk : k ≠ .br) (h : tE mg T K W .pl c σ H Q) : tE mg T K W k c σ H Q := by
  obtain ⟨β, A, M, ow, σd, R, p⟩ := h
  refine ⟨β, A, M, ow, σd, R, ?_⟩
  cases q : c σd M with
  | ok d M' => rw [q] at p; exact fun β' v H' e m r => p β' v H' e m (RepF.plain hk (fun a z => R.avoLive z) r)
  | exc c fs M' => rw [q] at p; exact p
  | stuck => rw [q] at p; exact p

/-- one operand -/
theorem rd1 {ca : Sg → Mem → Res D} {g : D → Mem → Res D} {ka : Kd} {t : V → Hp → VK → Prop}
    (hop : ∀ β A ow M H1 σd x v, RE K β A H1 M ow σd σ → RepF ka K β (avo A ow) H H1 x v → Post mg T K W β (avo A ow) k σ H1 Q (g x M) → t v H1 Q)
    (h : tE mg T K W k (fun σd M => (ca σd M).bind fun x M1 => g x M1) σ H Q) : tE mg T K W ka ca σ H (fun v H1 => t v H1 Q) := by
  obtain ⟨β, A, M, ow, σd, R, p⟩ := h
  refine ⟨β, A, M, ow, σd, R, ?_⟩
  cases q : ca σd M with
  | ok d M' =>
    dsimp only at p; rw [q] at p
    exact fun β' v H' e m r => hop β' A ow M' H' σd d v (R.mono e m) r (Post.later e p)
  | exc c fs M' => dsimp only at p; rw [q] at p; exact p
  | stuck => dsimp only at p; rw [q] at p; exact p
/-- two operands -/
theorem rd2 {ca cb : Sg → Mem → Res D} {g : D → D → Sg → Mem → Res D} {ka kb : Kd} {r : R2}
    (hop : ∀ β A ow M H1 H2 σd x y v w, RE K β A H2 M ow σd σ → RepF ka K β (avo A ow) H H2 x v → RepF kb K β (avo A ow) H1 H2 y w → Post mg T K W β (avo A ow) k σ H2 Q (g x y σd M) → r v w H2 Q)
    (h : tE mg T K W k (fun σd M => (ca σd M).bind fun x M1 => (cb σd M1).bind fun y M2 => g x y σd M2) σ H Q) : tOp r (tE mg T K W ka ca) (tE mg T K W kb cb) σ H Q := by
  obtain ⟨β, A, M, ow, σd, R, p⟩ := h
  refine ⟨β, A, M, ow, σd, R, ?_⟩
  cases q : ca σd M with
  | ok d M' =>
    dsimp only at p; rw [q] at p
    refine fun β' v H' e m rv => ⟨β', A, M', ow, σd, R.mono e m, ?_⟩
    have p' := Post.later e p
    cases q2 : cb σd M' with
    | ok d2 M2 =>
      have p2 : Post mg T K W β' (avo A ow) k σ H' Q (g d d2 σd M2) := by simpa [q2] using p'
      exact fun β2 w H2 e2 m2 rw' => hop β2 A ow M2 H' H2 σd d d2 v w ((R.mono e m).mono e2 m2) (rv.mono e2) rw' (Post.later e2 p2)
    | exc c fs M2 =>
      have p2 : Post mg T K W β' (avo A ow) k σ H' Q (.exc c fs M2) := by simpa [q2] using p'
      exact p2
    | stuck =>
      have p2 : Post mg T K W β' (avo A ow) k σ H' Q .stuck := by simpa [q2] using p'
      exact p2
  | exc c fs M' => dsimp only at p; rw [q] at p; exact p
  | stuck => dsimp only at p; rw [q] at p; exact p
/-- a list of operands -/
theorem rdA {ca : Sg → Mem → Res (List D)} {g : List D → Mem → Res D} {t : List V → Hp → VK → Prop} {ka : Kd}
    (hop : ∀ β A ow M H1 σd xs vs, RE K β A H1 M ow σd σ → (∃ M0, ca σd M0 = .ok xs M) → RepsK ka K β (avo A ow) H1 xs vs → Post mg T K W β (avo A ow) k σ H1 Q (g xs M) → t vs H1 Q)
    (h : tE mg T K W k (fun σd M => (ca σd M).bind fun x M1 => g x M1) σ H Q) : tA mg T K W ka ca σ H (fun v H1 => t v H1 Q) := by
  obtain ⟨β, A, M, ow, σd, R, p⟩ := h
  refine ⟨β, A, M, ow, σd, R, ?_⟩
  cases q : ca σd M with
  | ok d M' =>
    dsimp only at p; rw [q] at p
    exact fun β' v H' e m r => hop β' A ow M' H' σd d v (R.mono e m) ⟨M, q⟩ r (Post.later e p)
  | exc c fs M' => dsimp only at p; rw [q] at p; exact p
  | stuck => dsimp only at p; rw [q] at p; exact p
theorem RepsW.of : ∀ {ds : List D} {vs : List V}, Reps K β A H ds vs → RepsW K β A H ds vs
  | [], _, h => by simp only [Reps] at h; simp only [RepsW]; exact h
  | d :: ds, _, h => by
    simp only [Reps] at h; simp only [RepsW]
    obtain ⟨v, r, rfl, h1, h2⟩ := h
    exact ⟨v, r, rfl, .inl h1, RepsW.of h2⟩
end
/-- arguments, one by one -/
theorem tA_nil {mg : Str → Option Value} {T : Tb} {K : PySem.W.Frag} {W : WX} {k : Kd} {σ : L2.St} {H : Hp} {Q : List V → Hp → Prop} (h : tA mg T K W k (fun _ M => .ok [] M) σ H Q) : tNil σ H Q := by
  obtain ⟨β, A, M, ow, σd, R, p⟩ := h
  exact p β [] H (Ext.refl _ _) R.mem (by cases k <;> simp [RepsK, RepsW, Reps])
theorem tA_cons {mg : Str → Option Value} {T : Tb} {K : PySem.W.Frag} {W : WX} {k ka : Kd} {σ : L2.St} {H : Hp} {Q : List V → Hp → Prop} {ca : Sg → Mem → Res D} {cs : Sg → Mem → Res (List D)} (hk : k = .br ∨ (k = .pl ∧ ka ≠ .br))
    (h : tA mg T K W k (fun σ M => (ca σ M).bind fun x M1 => (cs σ M1).bind fun xs M2 => .ok (x :: xs) M2) σ H Q) : tCons (tE mg T K W ka ca) (tA mg T K W k cs) σ H Q := by
  obtain ⟨β, A, M, ow, σd, R, p⟩ := h
  refine ⟨β, A, M, ow, σd, R, ?_⟩
  cases q : ca σd M with
  | ok d M' =>
    dsimp only at p; rw [q] at p
    refine fun β' v H' e m rv => ⟨β', A, M', ow, σd, R.mono e m, ?_⟩
    have p' := PostA.later e p
    cases q2 : cs σd M' with
    | ok d2 M2 =>
      have p2 : PostA mg T K W β' (avo A ow) k σ H' Q (.ok (d :: d2) M2) := by simpa [q2] using p'
      refine fun β2 w H2 e2 m2 rw' => p2 β2 _ H2 e2 m2 ?_
      rcases hk with rfl | ⟨rfl, hk⟩
      · exact ⟨v, w, rfl, (rv.mono e2).weak, rw'⟩
      · have := RepF.plain hk (fun a z => R.avoLive z) (rv.mono e2)
        exact Reps.cons this rw'
    | exc c fs M2 =>
      have p2 : PostA mg T K W β' (avo A ow) k σ H' Q (.exc c fs M2) := by simpa [q2] using p'
      exact p2
    | stuck =>
      have p2 : PostA mg T K W β' (avo A ow) k σ H' Q .stuck := by simpa [q2] using p'
      exact p2
  | exc c fs M' => dsimp only at p; rw [q] at p; exact p
  | stuck => dsimp only at p; rw [q] at p; exact p
end CT

namespace CT
open PySem PySem.Spec PyProof.Rows L2

/-! ### data as the library's -/
mutual
def toPy : D → PyData
  | .bl b => .bool b
  | .int i => .int i
  | .str s => .str s
  | .tup xs => .tuple (toPys xs)
  | .lst xs => .list (toPys xs)
  | _ => .none
def toPys : List D → List PyData
  | [] => []
  | x :: xs => toPy x :: toPys xs
end
mutual
theorem deq_py : ∀ x y : D, x.plain = true → y.plain = true → PyData.eqv (toPy x) (toPy y) = deq x y
  | .non, y, _, h => by cases y <;> first | rfl | (simp [D.plain] at h)
  | .bl _, y, _, h => by cases y <;> first | rfl | (simp [D.plain] at h)
  | .int _, y, _, h => by cases y <;> first | rfl | (simp [D.plain] at h)
  | .str _, y, _, h => by cases y <;> first | rfl | (simp [D.plain] at h)
  | .tup xs, y, hx, h => by
    cases y with
    | tup ys => exact deqs_py xs ys (by simpa [D.plain] using hx) (by simpa [D.plain] using h)
    | _ => first | rfl | (simp [D.plain] at h)
  | .lst xs, y, hx, h => by
    cases y with
    | lst ys => exact deqs_py xs ys (by simpa [D.plain] using hx) (by simpa [D.plain] using h)
    | _ => first | rfl | (simp [D.plain] at h)
  | .dct _ _, _, hx, _ => by simp [D.plain] at hx
  | .obj _, _, hx, _ => by simp [D.plain] at hx
  | .scr _, _, hx, _ => by simp [D.plain] at hx
theorem deqs_py : ∀ xs ys : List D, D.plains xs = true → D.plains ys = true → PyData.eqvAll (toPys xs) (toPys ys) = deqs xs ys
  | [], [], _, _ => rfl
  | [], _ :: _, _, _ => rfl
  | _ :: _, [], _, _ => rfl
  | x :: xs, y :: ys, hx, hy => by
    simp only [D.plains, Bool.and_eq_true] at hx hy
    show (PyData.eqv (toPy x) (toPy y) && PyData.eqvAll (toPys xs) (toPys ys)) = (deq x y && deqs xs ys)
    rw [deq_py x y hx.1 hy.1, deqs_py xs ys hx.2 hy.2]
end
mutual
theorem depth_py : ∀ x : D, (toPy x).depth = x.depth
  | .non => rfl
  | .bl _ => rfl
  | .int _ => rfl
  | .str _ => rfl
  | .tup xs => by show (PyData.depthAll (toPys xs)) + 1 = D.depths xs + 1; rw [depths_py xs]
  | .lst xs => by show (PyData.depthAll (toPys xs)) + 1 = D.depths xs + 1; rw [depths_py xs]
  | .dct _ _ => rfl
  | .obj _ => rfl
  | .scr _ => rfl
  | .exn _ _ _ => rfl
theorem depths_py : ∀ xs : List D, PyData.depthAll (toPys xs) = D.depths xs
  | [] => rfl
  | x :: xs => by show max (toPy x).depth (PyData.depthAll (toPys xs)) = max x.depth (D.depths xs); rw [depth_py x, depths_py xs]
end
theorem any_py (x : D) (hx : x.plain = true) : ∀ ys : List D, D.plains ys = true → (toPys ys).any (fun y => PyData.eqv y (toPy x)) = ys.any fun y => deq y x
  | [], _ => rfl
  | y :: ys, h => by
    simp only [D.plains, Bool.and_eq_true] at h
    simp only [toPys, List.any_cons, deq_py y x h.1 hx, any_py x hx ys h.2]
section
variable {K : PySem.W.Frag} {β : List Addr} {A : Addr → Prop} {H : Hp}
mutual
theorem Rep.dp : ∀ (d : D) (v : V), d.plain = true → Rep K β A H d v → Dp K H v (toPy d) ∧ (toPy d).canLay0 = true
  | .non, _, _, h => by simp only [Rep] at h; subst h; exact ⟨.non, rfl⟩
  | .bl _, _, _, h => by simp only [Rep] at h; subst h; exact ⟨.bl _, rfl⟩
  | .int _, _, _, h => by simp only [Rep] at h; subst h; exact ⟨.int _, rfl⟩
  | .str s, _, _, h => by simp only [Rep] at h; obtain ⟨rfl, h⟩ := h; exact ⟨.str _, by simpa [toPy, PyData.canLay0] using h⟩
  | .tup xs, _, p, h => by
    simp only [Rep] at h
    obtain ⟨a, vs, rfl, t, r⟩ := h
    obtain ⟨h1, h2⟩ := Reps.dp xs vs (by simpa [D.plain] using p) r
    exact ⟨.tup t.sq h1, by simpa [toPy, PyData.canLay0] using h2⟩
  | .lst xs, _, p, h => by
    simp only [Rep] at h
    obtain ⟨a, vs, rfl, t, _, _, r⟩ := h
    obtain ⟨h1, h2⟩ := Reps.dp xs vs (by simpa [D.plain] using p) r
    exact ⟨.lst (.inl (.inl t)) h1, by simpa [toPy, PyData.canLay0] using h2⟩
  | .dct _ _, _, p, _ => by simp [D.plain] at p
  | .obj _, _, p, _ => by simp [D.plain] at p
  | .scr _, _, p, _ => by simp [D.plain] at p
theorem Reps.dp : ∀ (ds : List D) (vs : List V), D.plains ds = true → Reps K β A H ds vs → DpAll K H vs (toPys ds) ∧ PyData.canLayAll0 (toPys ds) = true
  | [], _, _, h => by simp only [Reps] at h; subst h; exact ⟨.nil, rfl⟩
  | d :: ds, _, p, h => by
    simp only [Reps] at h
    obtain ⟨v, r, rfl, h1, h2⟩ := h
    simp only [D.plains, Bool.and_eq_true] at p
    obtain ⟨a1, a2⟩ := Rep.dp d v p.1 h1
    obtain ⟨b1, b2⟩ := Reps.dp ds r p.2 h2
    exact ⟨.cons a1 b1, by simp [toPys, PyData.canLayAll0, a2, b2]⟩
end
theorem RepW.dp {d : D} {v : V} (p : d.plain = true) (h : RepW K β A H d v) : Dp K H v (toPy d) ∧ (toPy d).canLay0 = true := by
  rcases h with h | ⟨a, rfl, n, h⟩
  · exact Rep.dp d v p h
  · cases d with
    | lst ds =>
      obtain ⟨vs, t, r⟩ := h
      obtain ⟨h1, h2⟩ := Reps.dp ds vs (by simpa [D.plain] using p) r
      exact ⟨.lst (.inl (.inl t)) h1, by simpa [toPy, PyData.canLay0] using h2⟩
    | dct _ _ => simp [D.plain] at p
    | _ => exact h.elim
end

/-! ### operators over data -/
section
variable {X : Cx}
/-- == -/
def rEqP (K : PySem.W.Frag) : R2 := fun x y H Q => ∃ d e, Dp K H x d ∧ Dp K H y e ∧ d.canLay0 = true ∧ e.canLay0 = true ∧ min d.depth e.depth ≤ deep ∧ Q (.bl (PyData.eqv d e)) H
def rNeP (K : PySem.W.Frag) : R2 := fun x y H Q => ∃ d e, Dp K H x d ∧ Dp K H y e ∧ d.canLay0 = true ∧ e.canLay0 = true ∧ min d.depth e.depth ≤ deep ∧ Q (.bl (!PyData.eqv d e)) H
theorem op_eqP (hu : X.A.units + 64 < cLine) : OpR X (compareOp .Eq) (rEqP X.K) := by
  intro pins s σ H x y v u Q I rx ry ⟨d, e, hd, he, sd, se, hm, q⟩
  obtain ⟨as, r1⟩ := Dp.reads I d x v hd rx
  obtain ⟨bs, r2⟩ := Dp.reads I e y u he ry
  exact SeqAt.compareEq_reads r1 r2 sd se (by unfold deep at hm; omega) ⟨.bl _, H, I, rfl, q⟩
theorem op_neP (hu : X.A.units + 64 < cLine) : OpR X (compareOp .NotEq) (rNeP X.K) := by
  intro pins s σ H x y v u Q I rx ry ⟨d, e, hd, he, sd, se, hm, q⟩
  obtain ⟨as, r1⟩ := Dp.reads I d x v hd rx
  obtain ⟨bs, r2⟩ := Dp.reads I e y u he ry
  exact SeqAt.compareNe_reads r1 r2 sd se (by unfold deep at hm; omega) ⟨.bl _, H, I, rfl, q⟩
/-- in, not in, over a list or a tuple -/
def rInP (K : PySem.W.Frag) (neg : Bool) : R2 := fun x y H Q => ∃ d ds, Dp K H x d ∧ (Dp K H y (.list ds) ∨ Dp K H y (.tuple ds)) ∧ d.canLay0 = true ∧ PyData.canLayAll0 ds = true ∧ min (PyData.depthAll ds) d.depth ≤ deep ∧
  Q (.bl (if neg then !(ds.any fun z => PyData.eqv z d) else ds.any fun z => PyData.eqv z d)) H
theorem op_inP (hu : X.A.units + 64 < cLine) : OpR X (compareOp .In) (rInP X.K false) := by
  intro pins s σ H x y v u Q I rx ry ⟨d, ds, hd, he, sd, se, hm, q⟩
  obtain ⟨as, r1⟩ := Dp.reads I d x v hd rx
  rcases he with he | he
  · obtain ⟨bs, r2⟩ := Dp.reads I _ y u he ry
    exact SeqAt.in_list_reads r2 r1 se sd (by unfold deep at hm; omega) ⟨.bl _, H, I, rfl, q⟩
  · obtain ⟨bs, r2⟩ := Dp.reads I _ y u he ry
    exact SeqAt.in_tuple_reads r2 r1 se sd (by unfold deep at hm; omega) ⟨.bl _, H, I, rfl, q⟩
theorem op_notInP (hu : X.A.units + 64 < cLine) : OpR X (compareOp .NotIn) (rInP X.K true) := by
  intro pins s σ H x y v u Q I rx ry ⟨d, ds, hd, he, sd, se, hm, q⟩
  obtain ⟨as, r1⟩ := Dp.reads I d x v hd rx
  rcases he with he | he
  · obtain ⟨bs, r2⟩ := Dp.reads I _ y u he ry
    exact SeqAt.notIn_list_reads r2 r1 se sd (by unfold deep at hm; omega) ⟨.bl _, H, I, rfl, q⟩
  · obtain ⟨bs, r2⟩ := Dp.reads I _ y u he ry
    exact SeqAt.notIn_tuple_reads r2 r1 se sd (by unfold deep at hm; omega) ⟨.bl _, H, I, rfl, q⟩
/-- one of two rules for an operator -/
theorem OpR.or {f : Value → Value → Sem Value} {r r' : R2} (h : OpR X f r) (h' : OpR X f r') : OpR X f (fun x y H Q => r x y H Q ∨ r' x y H Q) :=
  fun pins s σ H x y v u Q I rx ry q => q.elim (h pins s σ H x y v u Q I rx ry) (h' pins s σ H x y v u Q I rx ry)
theorem OpR.imp {f : Value → Value → Sem Value} {r r' : R2} (h : OpR X f r) (i : ∀ x y H Q, r' x y H Q → r x y H Q) : OpR X f r' :=
  fun pins s σ H x y v u Q I rx ry q => h pins s σ H x y v u Q I rx ry (i x y H Q q)
theorem OpR.none {f : Value → Value → Sem Value} : OpR X f (fun _ _ _ _ => False) := fun _ _ _ _ _ _ _ _ _ _ _ _ q => q.elim
end
end CT

namespace CT
open PySem PySem.Spec PyProof.Rows L2

section
variable {mg : Str → Option Value} {T : Tb} {K : PySem.W.Frag} {W : WX} {β β' : List Addr} {A : Addr → Prop} {k : Kd} {σ : L2.St} {H H' H0 : Hp} {Q : VK} {M : Mem} {ow : Nat → Option Addr} {σd : Sg}
theorem RepM.live (m : RepM β H M) {b : Addr} (h : b ∈ β) : H b ≠ none := by
  obtain ⟨n, hn⟩ := List.mem_iff_getElem?.mp h
  have hl := (List.getElem?_eq_some_iff.mp hn).1
  obtain ⟨mo, hm⟩ : ∃ mo, M[n]? = some mo := ⟨_, List.getElem?_eq_getElem (by rw [← m.len]; exact hl)⟩
  have q := m.at_ n b mo hn hm
  cases mo with
  | bag x y z =>
    obtain ⟨l, q1, q2⟩ := q
    rw [q1]; simp
  | cells cs =>
    have q : H b = _ := q
    rw [q]; simp
/-- what is none of its objects may be written -/
theorem RepM.upd (m : RepM β H M) {p : Addr} {o : HO} (n : p ∉ β) : RepM β (upd H p o) M := by
  refine ⟨m.len, m.nd, fun i a mo h1 h2 => ?_⟩
  have q := m.at_ i a mo h1 h2
  have ha : a ≠ p := fun z => n (by rw [← z]; exact List.mem_of_getElem? h1)
  cases mo with
  | bag x y z =>
    obtain ⟨l, q1, q2⟩ := q
    exact ⟨l, by rw [upd_ne ha]; exact q1, q2⟩
  | cells cs =>
    have q : H a = some (.lst (cs.map V.int)) := q
    have r : L2.upd H p o a = some (.lst (cs.map V.int)) := by rw [upd_ne ha]; exact q
    exact r
theorem RepM.new (m : RepM β H M) {p : Addr} {o : HO} (h : H p = none) : RepM β (L2.upd H p o) M := m.upd fun z => m.live z h
/-- a list that stands is written -/
theorem ExtO.write {Dn : Addr} {vs ws : List V} (h : H Dn = some (.lst vs)) : ExtO (fun a => a = Dn) β H β (upd H Dn (.lst ws)) := by
  refine ⟨⟨[], by simp, by simp⟩, fun b o qb _ _ i => ?_, fun b qb => ?_, fun t p hp => tab_write h (fun _ z => by cases z) (fun c q z => codeO_lst vs z.symm) (t p hp)⟩
  · by_cases hb : b = Dn
    · subst hb
      rw [h] at qb; cases qb
      exact (i rfl).elim
    · rw [upd_ne hb]; exact qb
  · by_cases hb : b = Dn
    · subst hb; rw [upd_same]; simp
    · rw [upd_ne hb]; exact qb
theorem codeO_dK {c : Addr} {q : Str} (xs : List (Key × V)) : LamX.CodeO c q ≠ .dK xs := fun z => by
  unfold LamX.CodeO at z
  cases z
theorem ExtO.writeK {Dn : Addr} {vs ws : List (Key × V)} (h : H Dn = some (.dK vs)) : ExtO (fun a => a = Dn) β H β (upd H Dn (.dK ws)) := by
  refine ⟨⟨[], by simp, by simp⟩, fun b o qb _ _ i => ?_, fun b qb => ?_, fun t p hp => tab_write h (fun _ z => by cases z) (fun c q z => codeO_dK vs z.symm) (t p hp)⟩
  · by_cases hb : b = Dn
    · subst hb
      rw [h] at qb; cases qb
      exact (i rfl).elim
    · rw [upd_ne hb]; exact qb
  · by_cases hb : b = Dn
    · subst hb; rw [upd_same]; simp
    · rw [upd_ne hb]; exact qb
/-- what was not there ahead may be written -/
theorem ExtO.past {O : Addr → Prop} {β2 : List Addr} {H2 : Hp} {Dn : Addr} (e : ExtO O β H β' H') (h : H Dn = none) (f : ExtO (fun a => a = Dn) β' H' β2 H2) : ExtO O β H β2 H2 := by
  have g := (e.imp (O' := fun a => O a ∨ H a = none) fun a z => .inl z).trans (f.imp (O' := fun a => O a ∨ H a = none) fun a z => .inr (by subst z; exact h))
  refine ⟨g.pre, fun b o q n t i => g.keep b o q n t fun z => ?_, g.dom, g.tab⟩
  rcases z with z | z
  · exact i z
  · rw [q] at z; cases z
theorem RE.fresh (R : RE K β A H M ow σd σ) {p : Addr} (h : H p = none) : p ∉ β ∧ ¬ avo A ow p := ⟨fun z => R.mem.live z h, fun z => R.avoLive z h⟩
theorem repW_lst {ds : List D} {v : V} (h : RepW K β A H (.lst ds) v) : ∃ a vs, v = .ref a ∧ H a = some (.lst vs) ∧ Reps K β A H ds vs := by
  rcases h with h | ⟨a, rfl, n, vs, h, r⟩
  · simp only [Rep] at h
    obtain ⟨a, vs, rfl, t, _, _, r⟩ := h
    exact ⟨a, vs, rfl, t, r⟩
  · exact ⟨a, vs, rfl, h, r⟩
theorem repW_tup {ds : List D} {v : V} (h : RepW K β A H (.tup ds) v) : ∃ a vs, v = .ref a ∧ TupAt K β H a vs ∧ Reps K β A H ds vs := by
  rcases h with h | ⟨a, rfl, n, h⟩
  · simp only [Rep] at h
    exact h
  · exact h.elim
theorem repW_int {i : Int} {v : V} (h : RepW K β A H (.int i) v) : v = .int i := by
  rcases h with h | ⟨a, rfl, n, h⟩
  · simp only [Rep] at h; exact h
  · exact h.elim
theorem repW_bl {i : Bool} {v : V} (h : RepW K β A H (.bl i) v) : v = .bl i := by
  rcases h with h | ⟨a, rfl, n, h⟩
  · simp only [Rep] at h; exact h
  · exact h.elim
theorem repW_str {i : Str} {v : V} (h : RepW K β A H (.str i) v) : v = .str i ∧ PyData.strOk i = true := by
  rcases h with h | ⟨a, rfl, n, h⟩
  · simp only [Rep] at h; exact h
  · exact h.elim
theorem repW_non {v : V} (h : RepW K β A H .non v) : v = .non := by
  rcases h with h | ⟨a, rfl, n, h⟩
  · simp only [Rep] at h; exact h
  · exact h.elim
/-- the end: a value that stands -/
theorem post_same {d : D} {v : V} (R : RE K β A H M ow σd σ) (hk : k ≠ .fr) (r : Rep K β (avo A ow) H d v) (h : Post mg T K W β (avo A ow) k σ H Q (.ok d M)) : Q v H := by
  refine h β v H (Ext.refl _ _) R.mem ?_
  cases k with
  | pl => exact r
  | br => exact .inl r
  | fr => exact absurd rfl hk
theorem post_lst {ds : List D} {vs : List V} (R : RE K β A H M ow σd σ) (r : Reps K β (avo A ow) H ds vs) (h : Post mg T K W β (avo A ow) k σ H Q (.ok (.lst ds) M)) : ∀ p, H p = none → Q (.ref p) (upd H p (.lst vs)) := by
  intro p hp
  obtain ⟨f1, f2⟩ := R.fresh hp
  have e : Ext β H β (upd H p (.lst vs)) := Ext.new hp
  have r' : Reps K β (avo A ow) (upd H p (.lst vs)) ds vs := r.mono e (fun _ z _ => z)
  have o : Own K β (avo A ow) (upd H p (.lst vs)) (.lst ds) p := ⟨f1, vs, upd_same, r'⟩
  refine h β _ _ e (R.mem.new hp) ?_
  cases k with
  | pl => exact o.rep f2
  | br => exact .inr ⟨p, rfl, o⟩
  | fr => exact ⟨p, rfl, hp, f1, vs, upd_same, r.mono e fun z q n => q.elim id fun q => absurd hp (q ▸ n)⟩
theorem post_tup {ds : List D} {vs : List V} (R : RE K β A H M ow σd σ) (hk : k ≠ .fr) (r : Reps K β (avo A ow) H ds vs) (h : Post mg T K W β (avo A ow) k σ H Q (.ok (.tup ds) M)) : ∀ p, H p = none → Q (.ref p) (upd H p (.tup vs)) := by
  intro p hp
  obtain ⟨f1, f2⟩ := R.fresh hp
  have e : Ext β H β (upd H p (.tup vs)) := Ext.new hp
  have r' : Reps K β (avo A ow) (upd H p (.tup vs)) ds vs := r.mono e (fun _ z _ => z)
  have o : Rep K β (avo A ow) (upd H p (.tup vs)) (.tup ds) (.ref p) := by
    simp only [Rep]
    exact ⟨p, vs, rfl, .inl ⟨.inl upd_same, f1⟩, r'⟩
  refine h β _ _ e (R.mem.new hp) ?_
  cases k with
  | pl => exact o
  | br => exact .inl o
  | fr => exact absurd rfl hk
theorem rep_int {i : Int} : Rep K β A H (.int i) (.int i) := by simp only [Rep]
theorem rep_bl {i : Bool} : Rep K β A H (.bl i) (.bl i) := by simp only [Rep]
theorem rep_non : Rep K β A H .non .non := by simp only [Rep]
theorem rep_str {s : Str} (h : PyData.strOk s = true) : Rep K β A H (.str s) (.str s) := by simp only [Rep]; exact ⟨trivial, h⟩
theorem post_some {o : Option D} {d : D} (e : o = some d) (h : Post mg T K W β A k σ H Q (Res.of o M)) : Post mg T K W β A k σ H Q (.ok d M) := by
  subst e; exact h
theorem strOk_app {a b : Str} (h : PyData.strOk a = true) (g : PyData.strOk b = true) : PyData.strOk (a ++ b) = true := by
  unfold PyData.strOk at *
  show ((a ++ b).cps.all _) = true
  have e : (a ++ b).cps = a.cps ++ b.cps := rfl
  rw [e, Array.all_append, h, g]; rfl
theorem reps_flat {ds : List D} {vs : List V} (r : Reps K β A H ds vs) : ∀ n : Nat, Reps K β A H (List.replicate n ds).flatten (List.replicate n vs).flatten
  | 0 => Reps.nil
  | n + 1 => by
    simp only [List.replicate_succ, List.flatten_cons]
    exact r.append (reps_flat r n)

/-! ### binary operators -/
def opOf : Op → Operator
  | .add => .Add | .sub => .Sub | .mul => .Mult | .mod => .Mod | .fdiv => .FloorDiv | .pow => .Pow | .shl => .LShift | .shr => .RShift | .band => .BitAnd
def rAddS : R2 := fun x y H Q => ∃ i j, x = .str i ∧ y = .str j ∧ i.length + j.length ≤ sizeLine ∧ Q (.str (i ++ j)) H
def rB (K : PySem.W.Frag) : Op → R2
  | .add => fun x y H Q => rI0 (fun i j => .int (i + j)) x y H Q ∨ rAddS x y H Q ∨ rCatA K x y H Q ∨ rCat x y H Q
  | .sub => rI0 fun i j => .int (i - j)
  | .mul => fun x y H Q => rI CMul (fun i j => .int (i * j)) x y H Q ∨ rRep x y H Q
  | .mod => rI (fun _ j => 0 < j) fun i j => .int (i % j)
  | .fdiv => rI CDiv fun i j => .int (i / j)
  | .pow => rI CPow fun i j => .int (i ^ j.toNat)
  | .shl => rI CPow fun i j => .int (i * 2 ^ j.toNat)
  | .shr => rI (fun _ j => 0 ≤ j) fun i j => .int (i / 2 ^ j.toNat)
  | .band => rI0 fun i j => .int (Builtin.bitAnd i j)
theorem op_bin {X : Cx} : ∀ op : Op, OpR X (binaryOp (opOf op)) (rB X.K op)
  | .add => OpR.or op_add (OpR.or op_add_str (OpR.or op_catA op_cat))
  | .sub => op_sub
  | .mul => OpR.or op_mul op_rep
  | .mod => op_mod
  | .fdiv => op_fdiv
  | .pow => op_pow
  | .shl => op_shl
  | .shr => op_shr
  | .band => op_and
theorem ii {x y : D} {v w : V} {i j : Int} (hx : RepW K β A H x v) (hy : RepW K β A H y w) (ex : x = .int i) (ey : y = .int j) : v = .int i ∧ w = .int j := by
  subst ex ey
  exact ⟨repW_int hx, repW_int hy⟩
theorem bin_ok {op : Op} {x y d : D} {v w : V} (R : RE K β A H M ow σd σ) (hk : k ≠ .fr ∨ ∃ l, d = .lst l) (hx : RepW K β (avo A ow) H x v) (hy : RepW K β (avo A ow) H y w) (e : binD op x y = some d) (h : Post mg T K W β (avo A ow) k σ H Q (.ok d M)) : rB K op v w H Q := by
  have nk : (∀ l, d ≠ .lst l) → k ≠ .fr := fun z => hk.elim id fun ⟨l, q⟩ => absurd q (z l)
  have int : ∀ {i : Int}, d = .int i → Q (.int i) H := fun {i} q => by
    subst q
    exact post_same R (nk fun _ z => by cases z) rep_int h
  cases op with
  | add =>
    cases x <;> cases y <;> simp only [binD] at e <;> try (cases e; done)
    · have := repW_int hx; have := repW_int hy; subst_vars
      exact .inl ⟨_, _, rfl, rfl, int (Option.some.inj e).symm⟩
    · obtain ⟨rfl, s1⟩ := repW_str hx
      obtain ⟨rfl, s2⟩ := repW_str hy
      split at e
      · rename_i hl
        have := Option.some.inj e; subst this
        exact .inr (.inl ⟨_, _, rfl, rfl, hl, post_same R (nk fun _ z => by cases z) (rep_str (strOk_app s1 s2)) h⟩)
      · cases e
    · obtain ⟨a, vs, rfl, t1, r1⟩ := repW_tup hx
      obtain ⟨b, ws, rfl, t2, r2⟩ := repW_tup hy
      split at e
      · rename_i hl
        have := Option.some.inj e; subst this
        have hf := nk fun _ z => by cases z
        refine .inr (.inr (.inl ⟨a, b, vs, ws, rfl, rfl, t1.sq, t2.sq, by rw [← r1.length, ← r2.length]; exact hl, fun z => ?_, fun _ z => ?_, fun _ _ => post_tup R hf (r1.append r2) h⟩))
        · subst z
          have e1 : _ = [] := List.length_eq_zero_iff.mp r1.length
          subst e1
          exact post_same R hf (by simp only [Rep, List.nil_append]; exact ⟨b, ws, rfl, t2, r2⟩) h
        · subst z
          have e1 : _ = [] := List.length_eq_zero_iff.mp r2.length
          subst e1
          exact post_same R hf (by simp only [Rep, List.append_nil]; exact ⟨a, vs, rfl, t1, r1⟩) h
      · cases e
    · obtain ⟨a, vs, rfl, t1, r1⟩ := repW_lst hx
      obtain ⟨b, ws, rfl, t2, r2⟩ := repW_lst hy
      split at e
      · rename_i hl
        have := Option.some.inj e; subst this
        exact .inr (.inr (.inr ⟨a, b, vs, ws, rfl, rfl, t1, t2, by rw [← r1.length, ← r2.length]; exact hl, post_lst R (r1.append r2) h⟩))
      · cases e
  | sub =>
    cases x <;> cases y <;> simp only [binD] at e <;> try (cases e; done)
    have := repW_int hx; have := repW_int hy; subst_vars
    exact ⟨_, _, rfl, rfl, int (Option.some.inj e).symm⟩
  | mul =>
    cases x <;> cases y <;> simp only [binD] at e <;> try (cases e; done)
    · have := repW_int hx; have := repW_int hy; subst_vars
      split at e
      · rename_i hl
        exact .inl ⟨_, _, rfl, rfl, hl, int (Option.some.inj e).symm⟩
      · cases e
    · obtain ⟨a, vs, rfl, t1, r1⟩ := repW_lst hx
      have := repW_int hy; subst this
      split at e
      · rename_i hl
        have := Option.some.inj e; subst this
        refine .inr ⟨a, _, vs, rfl, rfl, t1, hl.1, hl.2.1, by rw [← r1.length]; exact hl.2.2, ?_⟩
        exact post_lst R (reps_flat r1 _) h
      · cases e
  | mod =>
    cases x <;> cases y <;> simp only [binD] at e <;> try (cases e; done)
    have := repW_int hx; have := repW_int hy; subst_vars
    split at e
    · rename_i hl
      exact ⟨_, _, rfl, rfl, hl, int (Option.some.inj e).symm⟩
    · cases e
  | fdiv =>
    cases x <;> cases y <;> simp only [binD] at e <;> try (cases e; done)
    have := repW_int hx; have := repW_int hy; subst_vars
    split at e
    · rename_i hl
      exact ⟨_, _, rfl, rfl, hl, int (Option.some.inj e).symm⟩
    · cases e
  | pow =>
    cases x <;> cases y <;> simp only [binD] at e <;> try (cases e; done)
    have := repW_int hx; have := repW_int hy; subst_vars
    split at e
    · rename_i hl
      exact ⟨_, _, rfl, rfl, hl, int (Option.some.inj e).symm⟩
    · cases e
  | shl =>
    cases x <;> cases y <;> simp only [binD] at e <;> try (cases e; done)
    have := repW_int hx; have := repW_int hy; subst_vars
    split at e
    · rename_i hl
      exact ⟨_, _, rfl, rfl, hl, int (Option.some.inj e).symm⟩
    · cases e
  | shr =>
    cases x <;> cases y <;> simp only [binD] at e <;> try (cases e; done)
    have := repW_int hx; have := repW_int hy; subst_vars
    split at e
    · rename_i hl
      exact ⟨_, _, rfl, rfl, hl, int (Option.some.inj e).symm⟩
    · cases e
  | band =>
    cases x <;> cases y <;> simp only [binD] at e <;> try (cases e; done)
    have := repW_int hx; have := repW_int hy; subst_vars
    exact ⟨_, _, rfl, rfl, int (Option.some.inj e).symm⟩
end
end CT

namespace CT
open PySem PySem.Spec PyProof.Rows L2

section
variable {mg : Str → Option Value} {T : Tb} {K : PySem.W.Frag} {W : WX} {β β' : List Addr} {A : Addr → Prop} {k : Kd} {σ : L2.St} {H H' H0 : Hp} {Q : VK} {M : Mem} {ow : Nat → Option Addr} {σd : Sg}
/-! ### comparisons -/
def cmOf : Cm → CmpOp
  | .eq => .Eq | .ne => .NotEq | .lt => .Lt | .le => .LtE | .gt => .Gt | .ge => .GtE | .isin => .In | .notin => .NotIn
def rInS (neg : Bool) : R2 := fun x y H Q => ∃ i j, x = .str i ∧ y = .str j ∧ Q (.bl (if neg then !(!(Builtin.Str.occurrences j i 0 j.length 1).isEmpty) else !(Builtin.Str.occurrences j i 0 j.length 1).isEmpty)) H
def rC (K : PySem.W.Frag) : Cm → R2
  | .eq => fun x y H Q => rEqP K x y H Q ∨ rD0 true x y H Q
  | .ne => fun x y H Q => rNeP K x y H Q ∨ rD0 false x y H Q
  | .lt => rI0 fun i j => .bl (decide (i < j))
  | .le => rI0 fun i j => .bl (decide (i ≤ j))
  | .gt => rI0 fun i j => .bl (decide (j < i))
  | .ge => rI0 fun i j => .bl (decide (j ≤ i))
  | .isin => fun x y H Q => rInP K false x y H Q ∨ rInS false x y H Q
  | .notin => fun x y H Q => rInP K true x y H Q ∨ rInS true x y H Q
theorem op_cmp {X : Cx} (hu : X.A.units + 64 < cLine) : ∀ c : Cm, OpR X (compareOp (cmOf c)) (rC X.K c)
  | .eq => OpR.or (op_eqP hu) (op_eq0 hu)
  | .ne => OpR.or (op_neP hu) (op_ne0 hu)
  | .lt => op_lt
  | .le => op_le
  | .gt => op_gt
  | .ge => op_ge
  | .isin => OpR.or (op_inP hu) op_in_str
  | .notin => OpR.or (op_notInP hu) op_notin_str
theorem repW_dct0 {v : V} (h : RepW K β A H (.dct [] []) v) : ∃ p, v = .ref p ∧ DEmp H p := by
  have go : ∀ a, ((∃ kvs : List (Key × V), H a = some (.dK kvs) ∧ ([] : List D) = kvs.map (fun p => keyD p.1) ∧ Reps K β A H [] (kvs.map (·.2))) ∨ (∃ kvs : List (List Key × V), H a = some (.dT kvs) ∧ ([] : List D) = kvs.map (fun p => .tup (p.1.map keyD)) ∧ Reps K β A H [] (kvs.map (·.2)))) → DEmp H a := fun a z => by
    rcases z with ⟨kvs, h1, h2, _⟩ | ⟨kvs, h1, h2, _⟩
    · have : kvs = [] := List.map_eq_nil_iff.mp h2.symm
      subst this
      exact .inl h1
    · have : kvs = [] := List.map_eq_nil_iff.mp h2.symm
      subst this
      exact .inr h1
  rcases h with h | ⟨a, rfl, _, h⟩
  · simp only [Rep] at h
    obtain ⟨a, rfl, _, _, h⟩ := h
    exact ⟨a, rfl, go a h⟩
  · exact ⟨a, rfl, go a h⟩
theorem eqD_ok {x y : D} {v w : V} {b : Bool} (hx : RepW K β A H x v) (hy : RepW K β A H y w) (e : eqD x y = some b) :
    (∃ d e, Dp K H v d ∧ Dp K H w e ∧ d.canLay0 = true ∧ e.canLay0 = true ∧ min d.depth e.depth ≤ deep ∧ PyData.eqv d e = b) ∨ (b = true ∧ ∃ p q, v = .ref p ∧ w = .ref q ∧ DEmp H p ∧ DEmp H q) := by
  unfold eqD at e
  split at e
  · rename_i h
    have := Option.some.inj e; subst this
    unfold eq0 at h
    split at h
    · obtain ⟨p, e1, h1⟩ := repW_dct0 hx
      obtain ⟨q, e2, h2⟩ := repW_dct0 hy
      exact .inr ⟨rfl, p, q, e1, e2, h1, h2⟩
    · cases h
  split at e
  · rename_i h
    obtain ⟨h1, h2, h3⟩ := h
    have := Option.some.inj e; subst this
    obtain ⟨a1, a2⟩ := hx.dp h1
    obtain ⟨b1, b2⟩ := hy.dp h2
    exact .inl ⟨_, _, a1, b1, a2, b2, by rw [depth_py, depth_py]; exact h3, deq_py x y h1 h2⟩
  · cases e
theorem RepW.dpL {ds : List D} {v : V} (p : D.plains ds = true) (h : RepW K β A H (.lst ds) v) : Dp K H v (.list (toPys ds)) ∧ PyData.canLayAll0 (toPys ds) = true := by
  have q := RepW.dp (d := .lst ds) (by simpa [D.plain] using p) h
  exact ⟨q.1, by simpa [toPy, PyData.canLay0] using q.2⟩
theorem RepW.dpT {ds : List D} {v : V} (p : D.plains ds = true) (h : RepW K β A H (.tup ds) v) : Dp K H v (.tuple (toPys ds)) ∧ PyData.canLayAll0 (toPys ds) = true := by
  have q := RepW.dp (d := .tup ds) (by simpa [D.plain] using p) h
  exact ⟨q.1, by simpa [toPy, PyData.canLay0] using q.2⟩
theorem inD_ok {x : D} {ys : List D} {v w : V} {b : Bool} (hx : RepW K β A H x v) (hy : RepW K β A H (.lst ys) w ∨ RepW K β A H (.tup ys) w) (e : inD x ys = some b) :
    ∃ d ds, Dp K H v d ∧ (Dp K H w (.list ds) ∨ Dp K H w (.tuple ds)) ∧ d.canLay0 = true ∧ PyData.canLayAll0 ds = true ∧ min (PyData.depthAll ds) d.depth ≤ deep ∧ (ds.any fun z => PyData.eqv z d) = b := by
  unfold inD at e
  split at e
  · rename_i h
    obtain ⟨h1, h2, h3⟩ := h
    have := Option.some.inj e; subst this
    obtain ⟨a1, a2⟩ := hx.dp h1
    rcases hy with hy | hy
    · obtain ⟨b1, b2⟩ := hy.dpL h2
      exact ⟨_, _, a1, .inl b1, a2, b2, by rw [depth_py, depths_py]; exact h3, any_py x h1 ys h2⟩
    · obtain ⟨b1, b2⟩ := hy.dpT h2
      exact ⟨_, _, a1, .inr b1, a2, b2, by rw [depth_py, depths_py]; exact h3, any_py x h1 ys h2⟩
  · cases e
theorem cmp_ok {c : Cm} {x y : D} {v w : V} {b : Bool} (hx : RepW K β A H x v) (hy : RepW K β A H y w) (e : cmpD c x y = some b) (h : Q (.bl b) H) : rC K c v w H Q := by
  have ineg : ∀ {o : Option Bool} {b : Bool}, o.map (!·) = some b → o = some (!b) := fun {o b} z => by
    cases o with
    | none => cases z
    | some c => cases z; simp
  cases c with
  | eq =>
    rcases eqD_ok hx hy (by simpa [cmpD] using e) with ⟨d, e', h1, h2, h3, h4, h5, h6⟩ | ⟨hb, p, q, h1, h2, h3, h4⟩
    · exact .inl ⟨d, e', h1, h2, h3, h4, h5, by rw [h6]; exact h⟩
    · subst hb; exact .inr ⟨p, q, h1, h2, h3, h4, h⟩
  | ne =>
    rcases eqD_ok hx hy (ineg (by simpa [cmpD] using e)) with ⟨d, e', h1, h2, h3, h4, h5, h6⟩ | ⟨hb, p, q, h1, h2, h3, h4⟩
    · exact .inl ⟨d, e', h1, h2, h3, h4, h5, by rw [h6, Bool.not_not]; exact h⟩
    · cases b <;> simp at hb
      exact .inr ⟨p, q, h1, h2, h3, h4, h⟩
  | lt =>
    cases x <;> cases y <;> simp only [cmpD] at e <;> try (cases e; done)
    have := repW_int hx; have := repW_int hy; subst_vars
    have := Option.some.inj e; subst this
    exact ⟨_, _, rfl, rfl, h⟩
  | le =>
    cases x <;> cases y <;> simp only [cmpD] at e <;> try (cases e; done)
    have := repW_int hx; have := repW_int hy; subst_vars
    have := Option.some.inj e; subst this
    exact ⟨_, _, rfl, rfl, h⟩
  | gt =>
    cases x <;> cases y <;> simp only [cmpD] at e <;> try (cases e; done)
    have := repW_int hx; have := repW_int hy; subst_vars
    have := Option.some.inj e; subst this
    exact ⟨_, _, rfl, rfl, h⟩
  | ge =>
    cases x <;> cases y <;> simp only [cmpD] at e <;> try (cases e; done)
    have := repW_int hx; have := repW_int hy; subst_vars
    have := Option.some.inj e; subst this
    exact ⟨_, _, rfl, rfl, h⟩
  | isin =>
    cases y with
    | tup ys =>
      obtain ⟨d, ds, h1, h2, h3, h4, h5, h6⟩ := inD_ok hx (.inr hy) (by cases x <;> simpa [cmpD] using e)
      exact .inl ⟨d, ds, h1, h2, h3, h4, h5, by rw [h6]; exact h⟩
    | lst ys =>
      obtain ⟨d, ds, h1, h2, h3, h4, h5, h6⟩ := inD_ok hx (.inl hy) (by cases x <;> simpa [cmpD] using e)
      exact .inl ⟨d, ds, h1, h2, h3, h4, h5, by rw [h6]; exact h⟩
    | str j =>
      cases x <;> simp only [cmpD] at e <;> try (cases e; done)
      obtain ⟨rfl, _⟩ := repW_str hx
      obtain ⟨rfl, _⟩ := repW_str hy
      have := Option.some.inj e; subst this
      exact .inr ⟨_, _, rfl, rfl, h⟩
    | _ => cases x <;> simp [cmpD] at e
  | notin =>
    cases y with
    | tup ys =>
      obtain ⟨d, ds, h1, h2, h3, h4, h5, h6⟩ := inD_ok hx (.inr hy) (ineg (b := b) (by cases x <;> simpa [cmpD] using e))
      exact .inl ⟨d, ds, h1, h2, h3, h4, h5, by rw [h6]; simpa using h⟩
    | lst ys =>
      obtain ⟨d, ds, h1, h2, h3, h4, h5, h6⟩ := inD_ok hx (.inl hy) (ineg (b := b) (by cases x <;> simpa [cmpD] using e))
      exact .inl ⟨d, ds, h1, h2, h3, h4, h5, by rw [h6]; simpa using h⟩
    | str j =>
      cases x <;> simp only [cmpD] at e <;> try (cases e; done)
      obtain ⟨rfl, _⟩ := repW_str hx
      obtain ⟨rfl, _⟩ := repW_str hy
      have := Option.some.inj e; subst this
      exact .inr ⟨_, _, rfl, rfl, h⟩
    | _ => cases x <;> simp [cmpD] at e

/-! ### truth -/
theorem isE {ds : List D} {vs : List V} (r : Reps K β A H ds vs) : (!ds.isEmpty) = !vs.isEmpty := by
  have := r.length
  cases ds <;> cases vs <;> first | rfl | simp at this
theorem tru_ok' {x : D} {v : V} {b : Bool} (hx : RepW K β A H x v) (e : truD x = some b) : TruV K v H b := by
  cases x with
  | non => rw [repW_non hx]; exact (Option.some.inj e).symm
  | bl _ => rw [repW_bl hx]; exact (Option.some.inj e).symm
  | int _ => rw [repW_int hx]; exact (Option.some.inj e).symm
  | str s =>
    obtain ⟨rfl, _⟩ := repW_str hx
    simp only [truD] at e
    split at e
    · rename_i h
      exact ⟨h, (Option.some.inj e).symm⟩
    · cases e
  | tup xs =>
    obtain ⟨a, vs, rfl, t, r⟩ := repW_tup hx
    exact .inr (.inl ⟨vs, t.sq, by rw [← isE r]; exact (Option.some.inj e).symm⟩)
  | lst xs =>
    obtain ⟨a, vs, rfl, t, r⟩ := repW_lst hx
    exact .inl ⟨vs, .inl (.inl t), by rw [← isE r]; exact (Option.some.inj e).symm⟩
  | _ => simp [truD] at e

/-! ### subscripts, slices -/
theorem atI_reps {ds : List D} {vs : List V} {i : Int} {d : D} (r : Reps K β A H ds vs) (e : atI ds i = some d) : ∃ v, atI vs i = some v ∧ Rep K β A H d v := by
  have hl := r.length
  unfold atI at e ⊢
  rw [hl] at e
  cases q : ixN vs.length i with
  | none => rw [q] at e; cases e
  | some j =>
    rw [q] at e
    simp only [Option.bind_some] at e ⊢
    exact r.get e
theorem ok1 (s : Str) (h : PyData.strOk s = true) {i : Int} {c : Nat} (e : atI s.cps.toList i = some c) : PyData.strOk ⟨#[c]⟩ = true := by
  obtain ⟨j, _, hj, _⟩ := atI_get e
  have hm : c ∈ s.cps.toList := List.mem_of_getElem? hj
  unfold PyData.strOk at *
  simp only [Array.all_eq_true'] at h
  have := h c (by simpa using hm)
  simpa using this
theorem idx_ok {x y d : D} {v w : V} (R : RE K β A H M ow σd σ) (hk : k ≠ .fr) (hx : RepW K β (avo A ow) H x v) (hy : RepW K β (avo A ow) H y w) (e : idxD x y = some d) (h : Post mg T K W β (avo A ow) k σ H Q (.ok d M)) : rIx K v w H Q := by
  cases x <;> cases y <;> simp only [idxD] at e <;> try (cases e; done)
  · obtain ⟨rfl, s1⟩ := repW_str hx
    have := repW_int hy; subst this
    split at e
    · rename_i hl
      cases q : atI (Str.cps _).toList _ with
      | none => rw [q] at e; cases e
      | some c =>
        rw [q] at e
        have := Option.some.inj e; subst this
        exact .inr (.inr ⟨_, _, c, rfl, rfl, hl, q, post_same R hk (rep_str (ok1 _ s1 q)) h⟩)
    · cases e
  · obtain ⟨a, vs, rfl, t, r⟩ := repW_tup hx
    have := repW_int hy; subst this
    obtain ⟨u, h1, h2⟩ := atI_reps r e
    exact .inr (.inl ⟨a, vs, _, u, rfl, rfl, t.sq, h1, post_same R hk h2 h⟩)
  · obtain ⟨a, vs, rfl, t, r⟩ := repW_lst hx
    have := repW_int hy; subst this
    obtain ⟨u, h1, h2⟩ := atI_reps r e
    exact .inl ⟨a, vs, _, u, rfl, rfl, .inl (.inl t), h1, post_same R hk h2 h⟩
theorem cutL_reps {ds : List D} {vs : List V} {lo hi : Option Int} (r : Reps K β A H ds vs) : Reps K β A H (cutL ds lo hi) (cutV vs lo hi) := by
  unfold cutL cutV
  rw [r.length]
  exact (r.drop _).take _
/-- slices of lists and tuples -/
def rSl (K : PySem.W.Frag) : V → Option Int → Option Int → Hp → VK → Prop := fun x lo hi H Q => rSlL K x lo hi H Q ∨ rSlA K x lo hi H Q
theorem sl_any {X : Cx} : SlR X (rSl X.K) := SlR.or sl_list sl_tupA
theorem reps_ints : ∀ ns : List Int, Reps K β A H (ns.map D.int) (ns.map V.int)
  | [] => Reps.nil
  | n :: ns => Reps.cons rep_int (reps_ints ns)
theorem cut_ok {x d : D} {v : V} {lo hi : Option Int} (R : RE K β A H M ow σd σ) (hk : k ≠ .fr ∨ ∃ l, d = .lst l) (hx : RepW K β (avo A ow) H x v) (e : cutD x lo hi = some d) (h : Post mg T K W β (avo A ow) k σ H Q (.ok d M)) : rSl K v lo hi H Q := by
  cases x <;> simp only [cutD] at e <;> try (cases e; done)
  · obtain ⟨a, vs, rfl, t, r⟩ := repW_tup hx
    have := Option.some.inj e; subst this
    have hf : k ≠ .fr := hk.elim id fun ⟨l, z⟩ => by cases z
    refine .inr ⟨a, vs, rfl, t.sq, fun z => ?_, fun _ => post_tup R hf (cutL_reps r) h⟩
    have e1 : cutL _ lo hi = _ := (show cutL _ lo hi = _ by unfold cutL; rw [r.length, z.1, z.2, Nat.sub_zero, List.drop_zero, ← r.length, List.take_length])
    rw [e1] at h
    exact post_same R hf (by simp only [Rep]; exact ⟨a, vs, rfl, t, r⟩) h
  · obtain ⟨a, vs, rfl, t, r⟩ := repW_lst hx
    have := Option.some.inj e; subst this
    exact .inl ⟨a, vs, rfl, .inl (.inl t), post_lst R (cutL_reps r) h⟩
  · rename_i ns
    have hx' : ∃ a, v = .ref a ∧ SqL K H a (ns.map V.int) := by
      rcases hx with hx | ⟨a, _, _, z⟩
      · simp only [Rep] at hx
        obtain ⟨a, rfl, t | t⟩ := hx
        · exact ⟨a, rfl, t.elim (fun z => .inl (.inr z.1)) .inr⟩
        · exact ⟨a, rfl, .inl (.inl t.1)⟩
      · exact z.elim
    obtain ⟨a, rfl, sq⟩ := hx'
    have := Option.some.inj e; subst this
    refine .inl ⟨a, ns.map V.int, rfl, sq, post_lst R ?_ h⟩
    have e1 : cutV (ns.map V.int) lo hi = (cutL ns lo hi).map V.int := by
      unfold cutV cutL
      rw [List.length_map, ← List.map_drop, ← List.map_take]
    rw [e1]
    exact reps_ints _
end
end CT

namespace CT
open PySem PySem.Spec PyProof.Rows L2

section
variable {mg : Str → Option Value} {T : Tb} {K : PySem.W.Frag} {W : WX} {β β' : List Addr} {A : Addr → Prop} {k : Kd} {σ : L2.St} {H H' H0 : Hp} {Q : VK} {M : Mem} {ow : Nat → Option Addr} {σd : Sg}
/-! ### built-in functions -/
abbrev RR := List V → Hp → VK → Prop
def bfName : Bf → Str
  | .len => "len" | .abs => "abs" | .int => "int" | .list => "list" | .tuple => "tuple" | .all => "all" | .any => "any" | .sum => "sum" | .max => "max" | .min => "min" | .sorted => "sorted"
def rLenR (K : PySem.W.Frag) : RR := fun xs H Q => (∃ p ys, xs = [.ref p] ∧ (SqL K H p ys ∨ SqT K H p ys) ∧ Q (.int ys.length) H) ∨ ∃ z, xs = [.str z] ∧ z.length ≤ sizeLine ∧ Q (.int z.length) H
def rLenD : RR := fun xs H Q => (∃ a kvs, xs = [V.ref a] ∧ H a = some (.dK kvs) ∧ Q (.int kvs.length) H) ∨ rLenT xs H Q
def rSortDI : RR := fun xs H Q => ∃ (a : Addr) (kvs : List (Key × V)) (ks : List Int), xs = [.ref a] ∧ Rd H a (.dK kvs) ∧ kvs.map (·.1) = ks.map Sum.inl ∧ ks.length < 64 ∧
    ∀ (ys : List Int) (p : Addr), ys.Perm ks → ys.Pairwise (· ≤ ·) → H p = none → Q (.ref p) (upd H p (.lst (ys.map V.int)))
def rAbs : RR := fun xs H Q => ∃ i, xs = [.int i] ∧ Q (.int (if i < 0 then -i else i)) H
def rInt : RR := fun xs H Q => (∃ i, xs = [.int i] ∧ Q (.int i) H) ∨ ∃ k, xs = [.bl k] ∧ Q (.int (if k then 1 else 0)) H
def rListR (K : PySem.W.Frag) : RR := fun xs H Q => ∃ p ys, xs = [.ref p] ∧ (SqL K H p ys ∨ SqT K H p ys) ∧ ∀ l, H l = none → Q (.ref l) (upd H l (.lst ys))
def rTupR (K : PySem.W.Frag) : RR := fun xs H Q => ∃ p ys, xs = [.ref p] ∧ ((SqL K H p ys ∧ ∀ l, H l = none → Q (.ref l) (upd H l (.tup ys))) ∨ (SqT K H p ys ∧ Q (.ref p) H))
def rMax2 : RR := fun xs H Q => ∃ i j, xs = [.int i, .int j] ∧ Q (.int (if j > i then j else i)) H
def rMin2 : RR := fun xs H Q => ∃ i j, xs = [.int i, .int j] ∧ Q (.int (if j < i then j else i)) H
def rBf (K : PySem.W.Frag) : Bf → RR
  | .len => fun xs H Q => rLenR K xs H Q ∨ rLenD xs H Q
  | .abs => rAbs
  | .int => rInt
  | .list => rListR K
  | .tuple => rTupR K
  | .all => rAll K
  | .any => rAny K
  | .sum => rSum K
  | .max => fun xs H Q => rMax2 xs H Q ∨ rMax K xs H Q
  | .min => fun xs H Q => rMin2 xs H Q ∨ rMin K xs H Q
  | .sorted => fun xs H Q => rSortedI K xs H Q ∨ rSortDI xs H Q
theorem pe_bf {X : Cx} (hc : X.calm = true) (f : Bf) {e : Expr} {es : List Expr} {p pos : Pos} {t : TA} (hg : Gl X (bfName f)) (hm : X.mg (bfName f) = none) (ha : PA X (e :: es) t)
    (he : starEach (e :: es) X.env = (false, eval e X.env) :: starEach es X.env) (hpl : (backTo pos (starEach es X.env)).any (·.1) = false) :
    PE X (.Call (.Name (bfName f) p) (e :: es) [] pos) (tCB (rBf X.K f) t) := by
  cases f with
  | len => exact pe_callB (CallR.or (CallR.or call_len_seq call_len_str) (CallR.or call_lenD call_len_dT)) hg hm PySem.boot_len ha (by decide +kernel) (by decide +kernel) he hpl
  | abs => exact pe_callB call_abs hg hm (by decide +kernel) ha (by decide +kernel) (by decide +kernel) he hpl
  | int => exact pe_callTy call_int1 hg hm (by decide +kernel) ha (by decide +kernel) (by decide +kernel) he hpl
  | list => exact pe_callTy call_list_of hg hm (by decide +kernel) ha (by decide +kernel) (by decide +kernel) he hpl
  | tuple => exact pe_callTy call_tuple_of hg hm (by decide +kernel) ha (by decide +kernel) (by decide +kernel) he hpl
  | all => exact pe_callB (cr_all hc) hg hm (by decide +kernel) ha (by decide +kernel) (by decide +kernel) he hpl
  | any => exact pe_callB (cr_any hc) hg hm (by decide +kernel) ha (by decide +kernel) (by decide +kernel) he hpl
  | sum => exact pe_callB (cr_sum hc) hg hm (by decide +kernel) ha (by decide +kernel) (by decide +kernel) he hpl
  | max => exact pe_callB (CallR.or (call_max2 hc) (cr_max hc)) hg hm (by decide +kernel) ha (by decide +kernel) (by decide +kernel) he hpl
  | min => exact pe_callB (CallR.or (call_min2 hc) (cr_min hc)) hg hm (by decide +kernel) ha (by decide +kernel) (by decide +kernel) he hpl
  | sorted => exact pe_callB (CallR.or cr_sortedI (call_sortedDI hc)) hg hm (by decide +kernel) ha (by decide +kernel) (by decide +kernel) he hpl

theorem repsW1 {d : D} {vs : List V} (h : RepsW K β A H [d] vs) : ∃ v, vs = [v] ∧ RepW K β A H d v := by
  simp only [RepsW] at h
  obtain ⟨v, r, rfl, h1, rfl⟩ := h
  exact ⟨v, rfl, h1⟩
theorem repsW2 {d e : D} {vs : List V} (h : RepsW K β A H [d, e] vs) : ∃ v w, vs = [v, w] ∧ RepW K β A H d v ∧ RepW K β A H e w := by
  simp only [RepsW] at h
  obtain ⟨v, r, rfl, h1, w, s, rfl, h2, rfl⟩ := h
  exact ⟨v, w, rfl, h1, h2⟩
theorem ints_reps : ∀ {ds : List D} {vs : List V} {ns : List Int}, Reps K β A H ds vs → intsD ds = some ns → vs = ns.map V.int ∧ ds = ns.map D.int
  | [], _, ns, h, e => by simp only [Reps] at h; subst h; cases e; exact ⟨rfl, rfl⟩
  | d :: ds, _, ns, h, e => by
    simp only [Reps] at h
    obtain ⟨v, r, rfl, h1, h2⟩ := h
    cases d <;> simp only [intsD] at e <;> try (cases e; done)
    cases q : intsD ds with
    | none => rw [q] at e; cases e
    | some m =>
      rw [q] at e
      have := Option.some.inj e; subst this
      obtain ⟨a, b⟩ := ints_reps h2 q
      simp only [Rep] at h1
      subst h1 a
      rw [b]
      exact ⟨by simp, by simp⟩
theorem bls_reps : ∀ {ds : List D} {vs : List V} {ns : List Bool}, Reps K β A H ds vs → blsD ds = some ns → vs = ns.map V.bl
  | [], _, ns, h, e => by simp only [Reps] at h; subst h; cases e; rfl
  | d :: ds, _, ns, h, e => by
    simp only [Reps] at h
    obtain ⟨v, r, rfl, h1, h2⟩ := h
    cases d <;> simp only [blsD] at e <;> try (cases e; done)
    cases q : blsD ds with
    | none => rw [q] at e; cases e
    | some m =>
      rw [q] at e
      have := Option.some.inj e; subst this
      have a := bls_reps h2 q
      simp only [Rep] at h1
      subst h1 a
      simp
theorem maxL_eq {ns : List Int} {m m' : Int} (e : maxL ns = some m) (h1 : m' ∈ ns) (h2 : ∀ y, y ∈ ns → y ≤ m') : m' = m := by
  cases ns with
  | nil => cases e
  | cons x r =>
    have := Option.some.inj e; subst this
    have key : ∀ (l : List Int) (a : Int), a ≤ l.foldl max a ∧ (∀ y ∈ l, y ≤ l.foldl max a) ∧ (l.foldl max a = a ∨ l.foldl max a ∈ l) := by
      intro l
      induction l with
      | nil => intro a; exact ⟨Int.le_refl _, by simp, .inl rfl⟩
      | cons z l ih =>
        intro a
        obtain ⟨k1, k2, k3⟩ := ih (max a z)
        simp only [List.foldl_cons]
        refine ⟨by omega, fun y hy => ?_, ?_⟩
        · rcases List.mem_cons.mp hy with rfl | hy
          · omega
          · exact k2 y hy
        · rcases k3 with k3 | k3
          · rw [k3]
            by_cases hz : a ≤ z
            · exact .inr (by rw [Int.max_eq_right hz]; exact List.mem_cons_self ..)
            · exact .inl (by omega)
          · exact .inr (List.mem_cons_of_mem _ k3)
    obtain ⟨k1, k2, k3⟩ := key r x
    have a1 : m' ≤ r.foldl max x := by
      rcases List.mem_cons.mp h1 with rfl | h
      · exact k1
      · exact k2 _ h
    have a2 : r.foldl max x ≤ m' := by
      rcases k3 with k3 | k3
      · rw [k3]; exact h2 _ (List.mem_cons_self ..)
      · exact h2 _ (List.mem_cons_of_mem _ k3)
    omega
theorem minL_eq {ns : List Int} {m m' : Int} (e : minL ns = some m) (h1 : m' ∈ ns) (h2 : ∀ y, y ∈ ns → m' ≤ y) : m' = m := by
  cases ns with
  | nil => cases e
  | cons x r =>
    have := Option.some.inj e; subst this
    have key : ∀ (l : List Int) (a : Int), l.foldl min a ≤ a ∧ (∀ y ∈ l, l.foldl min a ≤ y) ∧ (l.foldl min a = a ∨ l.foldl min a ∈ l) := by
      intro l
      induction l with
      | nil => intro a; exact ⟨Int.le_refl _, by simp, .inl rfl⟩
      | cons z l ih =>
        intro a
        obtain ⟨k1, k2, k3⟩ := ih (min a z)
        simp only [List.foldl_cons]
        refine ⟨by omega, fun y hy => ?_, ?_⟩
        · rcases List.mem_cons.mp hy with rfl | hy
          · omega
          · exact k2 y hy
        · rcases k3 with k3 | k3
          · rw [k3]
            by_cases hz : z ≤ a
            · exact .inr (by rw [Int.min_eq_right hz]; exact List.mem_cons_self ..)
            · exact .inl (by omega)
          · exact .inr (List.mem_cons_of_mem _ k3)
    obtain ⟨k1, k2, k3⟩ := key r x
    have a1 : r.foldl min x ≤ m' := by
      rcases List.mem_cons.mp h1 with rfl | h
      · exact k1
      · exact k2 _ h
    have a2 : m' ≤ r.foldl min x := by
      rcases k3 with k3 | k3
      · rw [k3]; exact h2 _ (List.mem_cons_self ..)
      · exact h2 _ (List.mem_cons_of_mem _ k3)
    omega
theorem maxL_pos {ns : List Int} {m : Int} (e : maxL ns = some m) : 0 < ns.length := by cases ns <;> first | (cases e; done) | simp
theorem minL_pos {ns : List Int} {m : Int} (e : minL ns = some m) : 0 < ns.length := by cases ns <;> first | (cases e; done) | simp
theorem insI_perm (x : Int) : ∀ l, (insI x l).Perm (x :: l)
  | [] => .refl _
  | y :: r => by
    unfold insI
    split
    · exact .refl _
    · exact ((insI_perm x r).cons y).trans (.swap x y r)
theorem sortI_perm : ∀ l, (sortI l).Perm l
  | [] => .refl _
  | x :: r => (insI_perm x (sortI r)).trans ((sortI_perm r).cons x)
theorem insI_sorted (x : Int) : ∀ l : List Int, l.Pairwise (· ≤ ·) → (insI x l).Pairwise (· ≤ ·)
  | [], _ => by simp [insI]
  | y :: r, h => by
    unfold insI
    split
    · rename_i hxy
      refine List.Pairwise.cons (fun z hz => ?_) h
      rcases List.mem_cons.mp hz with rfl | hz
      · exact hxy
      · exact Int.le_trans hxy (List.rel_of_pairwise_cons h hz)
    · rename_i hxy
      refine List.Pairwise.cons (fun z hz => ?_) (insI_sorted x r h.of_cons)
      rcases List.mem_cons.mp ((insI_perm x r).mem_iff.mp hz) with rfl | hz
      · omega
      · exact List.rel_of_pairwise_cons h hz
theorem sortI_sorted : ∀ l : List Int, (sortI l).Pairwise (· ≤ ·)
  | [] => .nil
  | x :: r => insI_sorted x _ (sortI_sorted r)
theorem sort_one {a b : List Int} (p : a.Perm b) (ha : a.Pairwise (· ≤ ·)) (hb : b.Pairwise (· ≤ ·)) : a = b :=
  List.Perm.eq_of_pairwise (le := (· ≤ ·)) (fun x y _ _ h1 h2 => Int.le_antisymm h1 h2) ha hb p

theorem repW_dct {ks ds : List D} {v : V} (h : RepW K β A H (.dct ks ds) v) : (∃ a kvs, v = .ref a ∧ H a = some (.dK kvs) ∧ ks = kvs.map fun p => keyD p.1) ∨ ∃ a, ∃ kvs : List (List Key × V), v = .ref a ∧ H a = some (.dT kvs) ∧ ks = kvs.map fun p => .tup (p.1.map keyD) := by
  rcases h with h | ⟨a, rfl, n, h⟩
  · simp only [Rep] at h
    obtain ⟨a, rfl, _, _, ⟨kvs, t, k, _⟩ | ⟨kvs, t, k, _⟩⟩ := h
    · exact .inl ⟨a, kvs, rfl, t, k⟩
    · exact .inr ⟨a, kvs, rfl, t, k⟩
  · rcases h with ⟨kvs, t, k, _⟩ | ⟨kvs, t, k, _⟩
    · exact .inl ⟨a, kvs, rfl, t, k⟩
    · exact .inr ⟨a, kvs, rfl, t, k⟩
theorem intsD_map : ∀ {ds : List D} {ns : List Int}, intsD ds = some ns → ds = ns.map D.int
  | [], ns, e => by cases e; rfl
  | d :: ds, ns, e => by
    cases d <;> simp only [intsD] at e <;> try (cases e; done)
    cases q : intsD ds with
    | none => rw [q] at e; cases e
    | some ms =>
      rw [q] at e
      have := Option.some.inj e; subst this
      rw [intsD_map q]; rfl
theorem keys_int : ∀ {kvs : List (Key × V)} {ns : List Int}, (kvs.map fun p => keyD p.1) = ns.map D.int → kvs.map (·.1) = ns.map Sum.inl
  | [], [], _ => rfl
  | [], _ :: _, e => by simp at e
  | _ :: _, [], e => by simp at e
  | (k, v) :: kvs, n :: ns, e => by
    simp only [List.map_cons, List.cons.injEq] at e ⊢
    refine ⟨?_, keys_int e.2⟩
    cases k with
    | inl i => have := e.1; simp only [keyD, D.int.injEq] at this; rw [this]
    | inr s => have := e.1; simp [keyD] at this
theorem bf_ok {f : Bf} {xs : List D} {d : D} {vs : List V} (R : RE K β A H M ow σd σ) (hk : k ≠ .fr ∨ ∃ l, d = .lst l) (hx : RepsW K β (avo A ow) H xs vs) (e : bltD f xs = some d) (h : Post mg T K W β (avo A ow) k σ H Q (.ok d M)) : rBf K f vs H Q := by
  have nk : (∀ l, d ≠ .lst l) → k ≠ .fr := fun z => hk.elim id fun ⟨l, q⟩ => absurd q (z l)
  have int : ∀ {i : Int}, d = .int i → Q (.int i) H := fun {i} q => by
    subst q
    exact post_same R (nk fun _ z => by cases z) rep_int h
  have bl : ∀ {i : Bool}, d = .bl i → Q (.bl i) H := fun {i} q => by
    subst q
    exact post_same R (nk fun _ z => by cases z) rep_bl h
  cases f with
  | len =>
    rcases xs with _ | ⟨x, _ | ⟨y, r⟩⟩
    · simp [bltD] at e
    · obtain ⟨v, rfl, hv⟩ := repsW1 hx
      cases x <;> simp only [bltD] at e <;> try (cases e; done)
      · obtain ⟨rfl, _⟩ := repW_str hv
        split at e
        · rename_i hl
          exact .inl (.inr ⟨_, rfl, hl, int (Option.some.inj e).symm⟩)
        · cases e
      · obtain ⟨a, ws, rfl, t, r⟩ := repW_tup hv
        exact .inl (.inl ⟨a, ws, rfl, .inr t.sq, int (by rw [← r.length]; exact (Option.some.inj e).symm)⟩)
      · obtain ⟨a, ws, rfl, t, r⟩ := repW_lst hv
        exact .inl (.inl ⟨a, ws, rfl, .inl (.inl (.inl t)), int (by rw [← r.length]; exact (Option.some.inj e).symm)⟩)
      · rcases repW_dct hv with ⟨a, kvs, rfl, t, hk⟩ | ⟨a, kvs, rfl, t, hk⟩
        · exact .inr (.inl ⟨a, kvs, rfl, t, int (by rw [← Option.some.inj e, hk, List.length_map])⟩)
        · exact .inr (.inr ⟨a, kvs, rfl, t, int (by rw [← Option.some.inj e, hk, List.length_map])⟩)
    · simp [bltD] at e
  | abs =>
    rcases xs with _ | ⟨x, _ | ⟨y, r⟩⟩
    · simp [bltD] at e
    · obtain ⟨v, rfl, hv⟩ := repsW1 hx
      cases x <;> simp only [bltD] at e <;> try (cases e; done)
      have := repW_int hv; subst this
      exact ⟨_, rfl, int (Option.some.inj e).symm⟩
    · simp [bltD] at e
  | int =>
    rcases xs with _ | ⟨x, _ | ⟨y, r⟩⟩
    · simp [bltD] at e
    · obtain ⟨v, rfl, hv⟩ := repsW1 hx
      cases x <;> simp only [bltD] at e <;> try (cases e; done)
      · have := repW_bl hv; subst this
        exact .inr ⟨_, rfl, int (Option.some.inj e).symm⟩
      · have := repW_int hv; subst this
        exact .inl ⟨_, rfl, int (Option.some.inj e).symm⟩
    · simp [bltD] at e
  | list =>
    rcases xs with _ | ⟨x, _ | ⟨y, r⟩⟩
    · simp [bltD] at e
    · obtain ⟨v, rfl, hv⟩ := repsW1 hx
      cases x <;> simp only [bltD] at e <;> try (cases e; done)
      · obtain ⟨a, ws, rfl, t, r⟩ := repW_tup hv
        have := Option.some.inj e; subst this
        exact ⟨a, ws, rfl, .inr t.sq, post_lst R r h⟩
      · obtain ⟨a, ws, rfl, t, r⟩ := repW_lst hv
        have := Option.some.inj e; subst this
        exact ⟨a, ws, rfl, .inl (.inl (.inl t)), post_lst R r h⟩
    · simp [bltD] at e
  | tuple =>
    rcases xs with _ | ⟨x, _ | ⟨y, r⟩⟩
    · simp [bltD] at e
    · obtain ⟨v, rfl, hv⟩ := repsW1 hx
      cases x <;> simp only [bltD] at e <;> try (cases e; done)
      · have hv' := hv
        obtain ⟨a, ws, rfl, t, r⟩ := repW_tup hv
        have := Option.some.inj e; subst this
        exact ⟨a, ws, rfl, .inr ⟨t.sq, post_same R (nk fun _ z => by cases z) (by simp only [Rep]; exact ⟨a, ws, rfl, t, r⟩) h⟩⟩
      · obtain ⟨a, ws, rfl, t, r⟩ := repW_lst hv
        have := Option.some.inj e; subst this
        exact ⟨a, ws, rfl, .inl ⟨.inl (.inl t), post_tup R (nk fun _ z => by cases z) r h⟩⟩
    · simp [bltD] at e
  | all =>
    rcases xs with _ | ⟨x, _ | ⟨y, r⟩⟩
    · simp [bltD] at e
    · obtain ⟨v, rfl, hv⟩ := repsW1 hx
      cases x <;> simp only [bltD] at e <;> try (cases e; done)
      obtain ⟨a, ws, rfl, t, r⟩ := repW_lst hv
      cases q : blsD _ with
      | none => rw [q] at e; cases e
      | some bs =>
        rw [q] at e
        have := bls_reps r q; subst this
        exact ⟨a, bs, rfl, .inl (.inl t), bl (Option.some.inj e).symm⟩
    · simp [bltD] at e
  | any =>
    rcases xs with _ | ⟨x, _ | ⟨y, r⟩⟩
    · simp [bltD] at e
    · obtain ⟨v, rfl, hv⟩ := repsW1 hx
      cases x <;> simp only [bltD] at e <;> try (cases e; done)
      obtain ⟨a, ws, rfl, t, r⟩ := repW_lst hv
      cases q : blsD _ with
      | none => rw [q] at e; cases e
      | some bs =>
        rw [q] at e
        have := bls_reps r q; subst this
        exact ⟨a, bs, rfl, .inl (.inl t), bl (Option.some.inj e).symm⟩
    · simp [bltD] at e
  | sum =>
    rcases xs with _ | ⟨x, _ | ⟨y, r⟩⟩
    · simp [bltD] at e
    · obtain ⟨v, rfl, hv⟩ := repsW1 hx
      cases x <;> simp only [bltD] at e <;> try (cases e; done)
      obtain ⟨a, ws, rfl, t, r⟩ := repW_lst hv
      cases q : intsD _ with
      | none => rw [q] at e; cases e
      | some ns =>
        rw [q] at e
        obtain ⟨q1, q2⟩ := ints_reps r q; subst q1
        exact ⟨a, ns, rfl, .inl (.inl t), int (Option.some.inj e).symm⟩
    · simp [bltD] at e
  | max =>
    rcases xs with _ | ⟨x, _ | ⟨y, _ | ⟨z, r⟩⟩⟩
    · simp [bltD] at e
    · obtain ⟨v, rfl, hv⟩ := repsW1 hx
      cases x <;> simp only [bltD] at e <;> try (cases e; done)
      obtain ⟨a, ws, rfl, t, r⟩ := repW_lst hv
      cases q : intsD _ with
      | none => rw [q] at e; cases e
      | some ns =>
        rw [q] at e
        simp only [Option.bind_some] at e
        cases q2 : maxL ns with
        | none => rw [q2] at e; cases e
        | some m =>
          rw [q2] at e
          obtain ⟨q1, _⟩ := ints_reps r q; subst q1
          exact .inr ⟨a, ns, rfl, .inl (.inl t), maxL_pos q2, fun m' h1 h2 => int (by rw [maxL_eq q2 h1 h2]; exact (Option.some.inj e).symm)⟩
    · obtain ⟨v, w, rfl, hv, hw⟩ := repsW2 hx
      cases x <;> cases y <;> simp only [bltD] at e <;> try (cases e; done)
      have := repW_int hv; have := repW_int hw; subst_vars
      exact .inl ⟨_, _, rfl, int (Option.some.inj e).symm⟩
    · cases x <;> cases y <;> simp [bltD] at e
  | min =>
    rcases xs with _ | ⟨x, _ | ⟨y, _ | ⟨z, r⟩⟩⟩
    · simp [bltD] at e
    · obtain ⟨v, rfl, hv⟩ := repsW1 hx
      cases x <;> simp only [bltD] at e <;> try (cases e; done)
      obtain ⟨a, ws, rfl, t, r⟩ := repW_lst hv
      cases q : intsD _ with
      | none => rw [q] at e; cases e
      | some ns =>
        rw [q] at e
        simp only [Option.bind_some] at e
        cases q2 : minL ns with
        | none => rw [q2] at e; cases e
        | some m =>
          rw [q2] at e
          obtain ⟨q1, _⟩ := ints_reps r q; subst q1
          exact .inr ⟨a, ns, rfl, .inl (.inl t), minL_pos q2, fun m' h1 h2 => int (by rw [minL_eq q2 h1 h2]; exact (Option.some.inj e).symm)⟩
    · obtain ⟨v, w, rfl, hv, hw⟩ := repsW2 hx
      cases x <;> cases y <;> simp only [bltD] at e <;> try (cases e; done)
      have := repW_int hv; have := repW_int hw; subst_vars
      exact .inl ⟨_, _, rfl, int (Option.some.inj e).symm⟩
    · cases x <;> cases y <;> simp [bltD] at e
  | sorted =>
    rcases xs with _ | ⟨x, _ | ⟨y, r⟩⟩
    · simp [bltD] at e
    · obtain ⟨v, rfl, hv⟩ := repsW1 hx
      cases x <;> simp only [bltD] at e <;> try (cases e; done)
      · obtain ⟨a, ws, rfl, t, r⟩ := repW_lst hv
        cases q : intsD _ with
        | none => rw [q] at e; cases e
        | some ns =>
          rw [q] at e
          obtain ⟨q1, _⟩ := ints_reps r q; subst q1
          have := Option.some.inj e; subst this
          refine .inl ⟨a, ns, rfl, .inl (.inl t), fun ns' p hp hs hn => ?_⟩
          have e1 : ns' = sortI ns := sort_one (hp.trans (sortI_perm ns).symm) hs (sortI_sorted ns)
          subst e1
          exact post_lst R (reps_ints _) h p hn
      · rename_i ks ds
        split at e
        · rename_i hc
          cases q : intsD ks with
          | none => rw [q] at e; cases e
          | some ns =>
            rw [q] at e
            have := Option.some.inj e; subst this
            have hks := intsD_map q
            rcases repW_dct hv with ⟨a, kvs, rfl, t, hk⟩ | ⟨a, kvs, rfl, t, hk⟩
            · refine .inr ⟨a, kvs, ns, rfl, .inl t, keys_int (hk.symm.trans hks), by rw [hks, List.length_map] at hc; exact hc.1, fun ns' p hp hs hn => ?_⟩
              have e1 : ns' = sortI ns := sort_one (hp.trans (sortI_perm ns).symm) hs (sortI_sorted ns)
              subst e1
              exact post_lst R (reps_ints _) h p hn
            · have hz := hk.symm.trans hks
              cases kvs with
              | nil => rw [hk] at hc; simp at hc
              | cons kv kvs =>
                cases ns with
                | nil => simp at hz
                | cons n ns => simp at hz
        · cases e
    · simp [bltD] at e

/-! ### isinstance -/
def tyName : Ty → String
  | .int => "int" | .bool => "bool" | .str => "str" | .tuple => "tuple" | .list => "list"
def tyStr : Ty → Str
  | .int => "int" | .bool => "bool" | .str => "str" | .tuple => "tuple" | .list => "list"
theorem boot_ty (t : Ty) : bootBuiltins (tyStr t) = some (.type (tyName t)) := by cases t <;> decide +kernel
theorem pe_ty {X : Cx} (t : Ty) {p : Pos} (hg : Gl X (tyStr t)) (hm : X.mg (tyStr t) = none) : PE X (.Name (tyStr t) p) (tC (.ty (tyName t))) :=
  pe_bltn hg hm (boot_ty t) rfl (by cases t <;> decide +kernel) (by cases t <;> decide +kernel)
/-- the type's name of data -/
def tyOf : D → String
  | .non => "NoneType" | .bl _ => "bool" | .int _ => "int" | .str _ => "str" | .tup _ => "tuple" | .lst _ => "list" | .dct _ _ => "dict" | _ => ""
theorem tyX_of {d : D} {v : V} (ht : tyable d = true) (h : RepW K β A H d v) : TyX K H v (.type (tyOf d)) := by
  cases d with
  | non => rw [repW_non h]; exact .base .non
  | bl _ => rw [repW_bl h]; exact .base (.bl _)
  | int _ => rw [repW_int h]; exact .base (.int _)
  | str _ => rw [(repW_str h).1]; exact .base (.str _)
  | tup xs =>
    obtain ⟨a, vs, rfl, t, r⟩ := repW_tup h
    rcases t with ⟨t | ⟨o, t⟩, n⟩ | ⟨o, its, n, h1, h2, _⟩
    · exact .base (.tup t)
    · exact .fTuple t
    · exact .kTuple h1 h2
  | lst xs =>
    obtain ⟨a, vs, rfl, t, r⟩ := repW_lst h
    exact .base (.lst t)
  | dct ks ds =>
    have go : ∀ a, ((∃ kvs : List (Key × V), H a = some (.dK kvs) ∧ ks = kvs.map (fun p => keyD p.1) ∧ Reps K β A H ds (kvs.map (·.2))) ∨ (∃ kvs : List (List Key × V), H a = some (.dT kvs) ∧ ks = kvs.map (fun p => .tup (p.1.map keyD)) ∧ Reps K β A H ds (kvs.map (·.2)))) → TyX K H (.ref a) (.type "dict") := fun a z => by
      rcases z with ⟨kvs, t, _⟩ | ⟨kvs, t, _⟩
      · exact .base (.dK t)
      · exact .base (.dT t)
    rcases h with h | ⟨a, rfl, _, h⟩
    · simp only [Rep] at h
      obtain ⟨a, rfl, _, _, h⟩ := h
      exact go a h
    · exact go a h
  | _ => simp [tyable] at ht
def isTyS (t : Ty) (n : String) : Bool := match t with
  | .int => n == "int" || n == "bool" | .bool => n == "bool" | .str => n == "str" | .tuple => n == "tuple" | .list => n == "list"
theorem kitTab : (["NoneType", "bool", "int", "str", "tuple", "list", "dict"].all fun n => [Ty.int, .bool, .str, .tuple, .list].all fun t => decide (kitB n (tyName t) = some (isTyS t n))) = true := by decide +kernel
theorem kit_isTy {K : PySem.W.Frag} (d : D) (hd : tyable d = true) (t : Ty) : PySem.W.kitOne K (.type (tyOf d)) (.type (tyName t)) = some (isTy t d) := by
  apply kit_ty
  have h := List.all_eq_true.mp kitTab (tyOf d) (by cases d <;> first | (simp [tyable] at hd; done) | simp [tyOf])
  have h2 := of_decide_eq_true (List.all_eq_true.mp h t (by cases t <;> simp))
  rw [h2]
  cases d <;> first | (simp [tyable] at hd; done) | (cases t <;> rfl)
theorem kit_isTys {K : PySem.W.Frag} (d : D) (hd : tyable d = true) : ∀ ts : List Ty, PySem.W.kitAny K (.type (tyOf d)) (ts.map fun t => .type (tyName t)) = some (ts.any fun t => isTy t d)
  | [] => rfl
  | t :: ts => by
    simp only [List.map_cons, List.any_cons]
    refine kitAny_cons (kit_isTy d hd t) (fun hb => ?_) (fun hb => by rw [hb]; rfl)
    rw [hb, Bool.false_or]
    exact kit_isTys d hd ts
end
end CT

namespace CT
open PySem PySem.Spec PyProof.Rows L2

/-! ### targets -/
mutual
def gOf (K : PySem.W.Frag) : Tgt → TG
  | .nm i => gName i
  | .tp ts => gTup K ts.length (gsOf K ts)
def gsOf (K : PySem.W.Frag) : List Tgt → TGs
  | [] => gNil
  | t :: ts => gCons (gOf K t) (gsOf K ts)
end
section
variable {mg : Str → Option Value} {T : Tb} {K : PySem.W.Frag} {W : WX} {β β' : List Addr} {A A' A2 : Addr → Prop} {k : Kd} {H H' H0 : Hp} {Q : VK} {M : Mem} {ow : Nat → Option Addr}
theorem RE.set {σd : Sg} {σ : L2.St} (R : RE K β A H M ow σd σ) (i : Nat) {d : D} {v : V} (r : Rep K β (avo A ow) H d v) : RE K β A H M ow (σd.set i (.v d)) (σ.set i (some v)) := by
  refine ⟨R.mem, R.inj, R.alive, R.av, by rw [List.length_set, List.length_set]; exact R.len, fun j s h => ?_, R.tab⟩
  by_cases hj : i = j
  · subst hj
    have hi : i < σd.length := by
      have := (List.getElem?_eq_some_iff.mp h).1
      rwa [List.length_set] at this
    rw [List.getElem?_set_self hi] at h
    cases h
    exact ⟨v, by rw [List.getElem?_set_self (by rw [← R.len]; exact hi)], r⟩
  · rw [List.getElem?_set_ne hj] at h
    rw [List.getElem?_set_ne hj]
    exact R.slot j s h
theorem RE.drop {σd : Sg} {σ : L2.St} (R : RE K β A H M ow σd σ) (i : Nat) (o : Option V) : RE K β A H M ow (σd.set i .no) (σ.set i o) := by
  refine ⟨R.mem, R.inj, R.alive, R.av, by rw [List.length_set, List.length_set]; exact R.len, fun j s h => ?_, R.tab⟩
  by_cases hj : i = j
  · subst hj
    have hi : i < σd.length := by
      have := (List.getElem?_eq_some_iff.mp h).1
      rwa [List.length_set] at this
    rw [List.getElem?_set_self hi] at h
    cases h
    exact True.intro
  · rw [List.getElem?_set_ne hj] at h
    rw [List.getElem?_set_ne hj]
    exact R.slot j s h
theorem RE.wipe {σd : Sg} {σ : L2.St} (R : RE K β A H M ow σd σ) : ∀ vs : List Nat, RE K β A H M ow (wipeG σd vs) (L2.wipe σ vs)
  | [] => R
  | v :: vs => (RE.wipe R vs).drop v none
/-- what two frames have in common outside of some slots -/
def Same2 (vs : List Nat) (σ σ' : L2.St) : Prop := σ.length = σ'.length ∧ ∀ j, j ∉ vs → σ[j]? = σ'[j]?
theorem wipe_get {σ : L2.St} : ∀ {vs : List Nat} (j : Nat), j < σ.length → (L2.wipe σ vs)[j]? = if j ∈ vs then some none else σ[j]?
  | [], j, _ => by simp [L2.wipe]
  | v :: vs, j, hj => by
    unfold L2.wipe
    by_cases h : v = j
    · subst h
      rw [List.getElem?_set_self (by rw [wipe_length]; exact hj)]
      simp
    · rw [List.getElem?_set_ne h, wipe_get j hj]
      simp [Ne.symm h]
theorem wipe_same {σ σ' : L2.St} {vs : List Nat} (h : Same2 vs σ σ') : L2.wipe σ' vs = L2.wipe σ vs := by
  apply List.ext_getElem?
  intro j
  by_cases hj : j < σ.length
  · rw [wipe_get j hj, wipe_get j (by rw [← h.1]; exact hj)]
    split
    · rfl
    · rename_i n
      exact (h.2 j n).symm
  · rw [List.getElem?_eq_none (by rw [wipe_length, ← h.1]; omega), List.getElem?_eq_none (by rw [wipe_length]; omega)]
theorem wipe_wipe (σ : L2.St) (vs : List Nat) : L2.wipe (L2.wipe σ vs) vs = L2.wipe σ vs :=
  wipe_same ⟨(wipe_length σ vs).symm, fun j n => by
    by_cases hj : j < σ.length
    · rw [wipe_get j hj, if_neg n]
    · rw [List.getElem?_eq_none (by omega), List.getElem?_eq_none (by rw [wipe_length]; omega)]⟩
mutual
theorem asg_ok : ∀ (t : Tgt) (d : D) (v : V) (σd σd' : Sg) (σ : L2.St) (Q : L2.St → Hp → Prop), RE K β A H M ow σd σ → Rep K β (avo A ow) H d v → asgT t d σd = some σd' →
    (∀ σ', RE K β A H M ow σd' σ' → Same2 t.slots σ σ' → Q σ' H) → gOf K t v σ H Q
  | .nm i, d, v, σd, σd', σ, Q, R, r, e, h => by
    simp only [asgT] at e
    have := Option.some.inj e; subst this
    exact h _ (R.set i r) ⟨by rw [List.length_set], fun j n => by rw [List.getElem?_set_ne (by simp [Tgt.slots] at n; omega)]⟩
  | .tp ts, d, v, σd, σd', σ, Q, R, r, e, h => by
    cases d <;> simp only [asgT] at e <;> try (cases e; done)
    simp only [Rep] at r
    obtain ⟨a, vs, rfl, t, r⟩ := r
    refine ⟨a, vs, rfl, t.sq, ?_, ?_⟩
    · have := asgs_len ts _ _ _ e
      rw [← r.length, this]
    · exact asgs_ok ts _ vs σd σd' σ Q R r e fun σ' R' s => h σ' R' (by simpa [Tgt.slots] using s)
theorem asgs_ok : ∀ (ts : List Tgt) (ds : List D) (vs : List V) (σd σd' : Sg) (σ : L2.St) (Q : L2.St → Hp → Prop), RE K β A H M ow σd σ → Reps K β (avo A ow) H ds vs → asgTs ts ds σd = some σd' →
    (∀ σ', RE K β A H M ow σd' σ' → Same2 (Tgt.slotss ts) σ σ' → Q σ' H) → gsOf K ts vs σ H Q
  | [], [], vs, σd, σd', σ, Q, R, r, e, h => by
    simp only [Reps] at r; subst r
    simp only [asgTs] at e
    have := Option.some.inj e; subst this
    exact ⟨rfl, h σ R ⟨rfl, fun _ _ => rfl⟩⟩
  | [], _ :: _, _, _, _, _, _, _, _, e, _ => by simp [asgTs] at e
  | _ :: _, [], _, _, _, _, _, _, _, e, _ => by simp [asgTs] at e
  | t :: ts, d :: ds, vs, σd, σd', σ, Q, R, r, e, h => by
    simp only [Reps] at r
    obtain ⟨v, vr, rfl, r1, r2⟩ := r
    simp only [asgTs] at e
    cases q : asgT t d σd with
    | none => rw [q] at e; cases e
    | some σ1 =>
      rw [q] at e
      refine ⟨v, vr, rfl, asg_ok t d v σd σ1 σ _ R r1 q fun σ' R' s => ?_⟩
      refine asgs_ok ts ds vr σ1 σd' σ' Q R' r2 e fun σ2 R2 s2 => h σ2 R2 ⟨s.1.trans s2.1, fun j n => ?_⟩
      simp only [Tgt.slotss, List.mem_append, not_or] at n
      exact (s.2 j n.1).trans (s2.2 j n.2)
theorem asgs_len : ∀ (ts : List Tgt) (ds : List D) (σd σd' : Sg), asgTs ts ds σd = some σd' → ds.length = ts.length
  | [], [], _, _, _ => rfl
  | [], _ :: _, _, _, e => by simp [asgTs] at e
  | _ :: _, [], _, _, e => by simp [asgTs] at e
  | t :: ts, d :: ds, σd, σd', e => by
    simp only [asgTs] at e
    cases q : asgT t d σd with
    | none => rw [q] at e; cases e
    | some σ1 =>
      rw [q] at e
      simp [asgs_len ts ds σ1 σd' e]
end

/-! ### sources -/
/-- bw: nothing of one's own is written meanwhile -/
def Rl (bw : Bool) (A : Addr → Prop) (β : List Addr) (H : Hp) (A' : Addr → Prop) (β' : List Addr) (H' : Hp) : Prop := match bw with
  | true => (∀ a, A' a → H a ≠ none → A a) ∧ Ext β H β' H'
  | false => Step A β H A' β' H'
theorem Rl.step {bw : Bool} (h : Rl bw A β H A' β' H') : Step A β H A' β' H' := by
  cases bw with
  | true => exact ⟨h.2.imp fun _ z => z.elim, h.1⟩
  | false => exact h
theorem Rl.lst {bw : Bool} (h : Rl bw A β H A' β' H') {a : Addr} {vs : List V} (t : H a = some (.lst vs)) (n : a ∉ β) (m : bw = false → ¬ A a) : H' a = some (.lst vs) := by
  cases bw with
  | true => exact h.2.keep _ _ t n (fun _ z => by cases z) (fun z => z.elim)
  | false => exact h.ext.keep _ _ t n (fun _ z => by cases z) (fun z => absurd z (m rfl))
structure Feeds (bw : Bool) (K : PySem.W.Frag) (A : Addr → Prop) (β : List Addr) (H : Hp) (J : It) (items : List D) : Prop where
  go : ∀ A' β' H', Rl bw A β H A' β' H' → ∀ i, i < items.length → J.go i H' ∧ ∀ x H2, J.yld i H' x H2 → Ext β' H' β' H2 ∧ (∀ M, RepM β' H' M → RepM β' H2 M) ∧ ∃ d, items[i]? = some d ∧ ((∀ b, b ∈ β' → H' b ≠ none) → Rep K β' A' H2 d x)
  stop : ∀ A' β' H', Rl bw A β H A' β' H' → ∀ i, items.length ≤ i → J.stop i H'
theorem sq_lst {xs ys : List V} {a : Addr} (h : H a = some (.lst xs)) (g : SqL K H a ys) (nk : K.lookup a = none ∨ True) : True := True.intro
/-- the script of a tuple -/
theorem feeds_tup {bw : Bool} {a : Addr} {vs : List V} {ds : List D} (t : TupAt K β H a vs) (r : Reps K β A H ds vs) : Feeds bw K A β H (Itt K a) ds := by
  refine ⟨fun A' β' H' e i hi => ?_, fun A' β' H' e i hi => ⟨vs, (t.mono e.step.ext).sq, by rw [← r.length]; exact hi⟩⟩
  have t' := t.mono e.step.ext
  obtain ⟨v, hv, rv⟩ := (r.step e.step).get (List.getElem?_eq_getElem hi)
  refine ⟨⟨vs, v, t'.sq, hv⟩, fun x H2 y => ?_⟩
  obtain ⟨rfl, y⟩ := y
  have := y vs t'.sq
  rw [hv] at this; cases this
  exact ⟨Ext.refl _ _, fun _ h => h, _, List.getElem?_eq_getElem hi, fun _ => rv⟩
theorem feeds_lst {bw : Bool} {a : Addr} {vs : List V} {ds : List D} (t : H a = some (.lst vs)) (n : a ∉ β) (m : bw = false → ¬ A a) (r : Reps K β A H ds vs) : Feeds bw K A β H (Itl K a) ds := by
  refine ⟨fun A' β' H' e i hi => ?_, fun A' β' H' e i hi => ⟨vs, .inl (.inl (e.lst t n m)), by rw [← r.length]; exact hi⟩⟩
  have t' := e.lst t n m
  obtain ⟨v, hv, rv⟩ := (r.step e.step).get (List.getElem?_eq_getElem hi)
  refine ⟨⟨vs, v, .inl (.inl t'), hv⟩, fun x H2 y => ?_⟩
  obtain ⟨rfl, y⟩ := y
  have := y vs (.inl (.inl t'))
  rw [hv] at this; cases this
  exact ⟨Ext.refl _ _, fun _ h => h, _, List.getElem?_eq_getElem hi, fun _ => rv⟩
theorem feeds_str {bw : Bool} {z : Str} (hz : PyData.strOk z = true) : Feeds bw K A β H (Its z) (z.cps.toList.map fun c => D.str ⟨#[c]⟩) := by
  refine ⟨fun A' β' H' e i hi => ?_, fun A' β' H' e i hi => ?_⟩
  · have hi' : i < z.cps.size := by simpa using hi
    refine ⟨hi', fun x H2 y => ?_⟩
    obtain ⟨rfl, c, hc, rfl⟩ := y
    refine ⟨Ext.refl _ _, fun _ h => h, .str ⟨#[c]⟩, by simp [hc], fun _ => rep_str ?_⟩
    have hm : c ∈ z.cps := Array.mem_of_getElem? hc
    unfold PyData.strOk at *
    simp only [Array.all_eq_true'] at hz
    have := hz c hm
    simpa using this
  · show z.cps.size ≤ i
    simpa using hi
theorem feeds_rng {bw : Bool} {lo : Int} {n : Nat} : Feeds bw K A β H (Itr lo n) ((List.range n).map fun (m : Nat) => D.int (lo + (m : Int))) := by
  refine ⟨fun A' β' H' e i hi => ?_, fun A' β' H' e i hi => ?_⟩
  · have hi' : i < n := by simpa using hi
    refine ⟨hi', fun x H2 y => ?_⟩
    obtain ⟨rfl, rfl⟩ := y
    exact ⟨Ext.refl _ _, fun _ h => h, .int (lo + i), by simp [hi'], fun _ => rep_int⟩
  · show n ≤ i
    simpa using hi
theorem enumL_length : ∀ (n : Int) (xs : List D), (enumL n xs).length = xs.length
  | _, [] => rfl
  | n, x :: r => by simp [enumL, enumL_length (n + 1) r]
theorem enumL_get : ∀ (n : Int) (xs : List D) (i : Nat) (x : D), xs[i]? = some x → (enumL n xs)[i]? = some (.tup [.int (n + i), x])
  | _, [], _, _, h => by simp at h
  | n, x :: r, 0, y, h => by simp at h; subst h; simp [enumL]
  | n, x :: r, i + 1, y, h => by
    have := enumL_get (n + 1) r i y (by simpa using h)
    simp only [enumL, List.getElem?_cons_succ, this]
    congr 4
    omega
theorem zipL_length : ∀ (xs ys : List D), (zipL xs ys).length = min xs.length ys.length
  | [], _ => by simp [zipL]
  | _ :: _, [] => by simp [zipL]
  | x :: xs, y :: ys => by simp [zipL, zipL_length xs ys, Nat.add_min_add_right]
theorem zipL_get : ∀ (xs ys : List D) (i : Nat) (x y : D), xs[i]? = some x → ys[i]? = some y → (zipL xs ys)[i]? = some (.tup [x, y])
  | [], _, _, _, _, h, _ => by simp at h
  | _ :: _, [], _, _, _, _, h => by simp at h
  | x :: xs, y :: ys, 0, _, _, h, g => by simp at h g; subst h g; simp [zipL]
  | x :: xs, y :: ys, i + 1, u, v, h, g => by simpa [zipL] using zipL_get xs ys i u v (by simpa using h) (by simpa using g)
theorem pair_ok {T : Addr} {x y : V} {d e : D} (hT : H T = none) (hb : ∀ b, b ∈ β → H b ≠ none) (rx : Rep K β A H d x) (ry : Rep K β A H e y) : Rep K β A (upd H T (.tup [x, y])) (.tup [d, e]) (.ref T) := by
  have ex : Ext β H β (upd H T (.tup [x, y])) := Ext.new hT
  simp only [Rep]
  refine ⟨T, [x, y], rfl, .inl ⟨.inl upd_same, fun z => hb T z hT⟩, ?_⟩
  exact Reps.mono ex (fun _ z _ => z) (Reps.cons rx (Reps.one ry))
theorem feeds_enum {bw : Bool} {a : Addr} {vs : List V} {ds : List D} (t : H a = some (.lst vs)) (n : a ∉ β) (m : bw = false → ¬ A a) (r : Reps K β A H ds vs) : Feeds bw K A β H (Ite K a) (enumL 0 ds) := by
  refine ⟨fun A' β' H' e i hi => ?_, fun A' β' H' e i hi => ⟨vs, .inl (.inl (e.lst t n m)), by rw [← r.length, ← enumL_length 0 ds]; exact hi⟩⟩
  rw [enumL_length] at hi
  have t' := e.lst t n m
  obtain ⟨v, hv, rv⟩ := (r.step e.step).get (List.getElem?_eq_getElem hi)
  refine ⟨⟨vs, v, .inl (.inl t'), hv⟩, fun x H2 y => ?_⟩
  obtain ⟨T, u, rfl, hT, rfl, y⟩ := y
  have := y vs (.inl (.inl t'))
  rw [hv] at this; cases this
  refine ⟨Ext.new hT, fun _ h => h.new hT, _, enumL_get 0 ds i _ (List.getElem?_eq_getElem hi), fun hb => ?_⟩
  rw [Int.zero_add]
  exact pair_ok hT hb rep_int rv
theorem feeds_zipL {bw : Bool} {a b : Addr} {vs ws : List V} {ds es : List D} (t : H a = some (.lst vs)) (n : a ∉ β) (m : bw = false → ¬ A a) (r : Reps K β A H ds vs)
    (t2 : H b = some (.lst ws)) (n2 : b ∉ β) (m2 : bw = false → ¬ A b) (r2 : Reps K β A H es ws) : Feeds bw K A β H (Itz K a b) (zipL ds es) := by
  refine ⟨fun A' β' H' e i hi => ?_, fun A' β' H' e i hi => ⟨vs, ws, .inl (.inl (e.lst t n m)), .inl (.inl (e.lst t2 n2 m2)), by
    rw [zipL_length, r.length, r2.length] at hi; omega⟩⟩
  rw [zipL_length] at hi
  have t' := e.lst t n m
  have t2' := e.lst t2 n2 m2
  obtain ⟨v, hv, rv⟩ := (r.step e.step).get (List.getElem?_eq_getElem (by omega : i < ds.length))
  obtain ⟨w, hw, rw'⟩ := (r2.step e.step).get (List.getElem?_eq_getElem (by omega : i < es.length))
  refine ⟨⟨vs, ws, v, w, .inl (.inl t'), .inl (.inl t2'), hv, hw⟩, fun x H2 y => ?_⟩
  obtain ⟨T, u, u2, rfl, hT, rfl, y1, y2⟩ := y
  have := y1 vs (.inl (.inl t'))
  rw [hv] at this; cases this
  have := y2 ws (.inl (.inl t2'))
  rw [hw] at this; cases this
  exact ⟨Ext.new hT, fun _ h => h.new hT, _, zipL_get ds es i _ _ (List.getElem?_eq_getElem (by omega)) (List.getElem?_eq_getElem (by omega)), fun hb => pair_ok hT hb rv rw'⟩
theorem feeds_zipT {bw : Bool} {a b : Addr} {vs ws : List V} {ds es : List D} (t : TupAt K β H a vs) (r : Reps K β A H ds vs) (t2 : TupAt K β H b ws) (r2 : Reps K β A H es ws) : Feeds bw K A β H (RZ.ItzT K a b) (zipL ds es) := by
  refine ⟨fun A' β' H' e i hi => ?_, fun A' β' H' e i hi => ⟨vs, ws, (t.mono e.step.ext).sq, (t2.mono e.step.ext).sq, by
    rw [zipL_length, r.length, r2.length] at hi; omega⟩⟩
  rw [zipL_length] at hi
  have t' := (t.mono e.step.ext).sq
  have t2' := (t2.mono e.step.ext).sq
  obtain ⟨v, hv, rv⟩ := (r.step e.step).get (List.getElem?_eq_getElem (by omega : i < ds.length))
  obtain ⟨w, hw, rw'⟩ := (r2.step e.step).get (List.getElem?_eq_getElem (by omega : i < es.length))
  refine ⟨⟨vs, ws, v, w, t', t2', hv, hw⟩, fun x H2 y => ?_⟩
  obtain ⟨T, u, u2, rfl, hT, rfl, y1, y2⟩ := y
  have := y1 vs t'
  rw [hv] at this; cases this
  have := y2 ws t2'
  rw [hw] at this; cases this
  exact ⟨Ext.new hT, fun _ h => h.new hT, _, zipL_get ds es i _ _ (List.getElem?_eq_getElem (by omega)) (List.getElem?_eq_getElem (by omega)), fun hb => pair_ok hT hb rv rw'⟩
end
end CT

namespace CT
open PySem PySem.Spec PyProof.Rows L2

/-! ### the terms beside the text -/
def visB (sc : Scope) (x : Str) : Bool := match sc.names.lookup x with
  | some .local => true
  | some .cell => true
  | some .free => true
  | _ => false
def glbB (sc : Scope) (x : Str) : Bool := match sc.names.lookup x with
  | some .globalImplicit => true
  | _ => false
def locB (df : Bool) (sc : Scope) (x : Str) : Bool := match sc.names.lookup x with
  | some .local => true
  | some .cell => df
  | _ => false
def nmOk (x : Str) : Bool := !(x == ("__debug__" : Str)) && !(x == ("__classdict__" : Str))
def notStar : Expr → Bool
  | .Starred _ _ => false
  | _ => true
def notSlice : Expr → Bool
  | .Slice _ _ _ _ => false
  | _ => true
def notSet : Expr → Bool
  | .Set _ _ _ => false
  | _ => true
def nb : IE → Bool
  | .bor _ => false
  | _ => true
def opIs : Op → Operator → Bool
  | op, o => decide (opOf op = o)
def cmIs : Cm → CmpOp → Bool
  | c, o => decide (cmOf c = o)
def tyIs (sc : Scope) (t : Ty) : Expr → Bool
  | .Name x _ => decide (tyStr t = x) && glbB sc x
  | _ => false
def tysAre (sc : Scope) : List Ty → List Expr → Bool
  | [], [] => true
  | t :: ts, e :: es => tyIs sc t e && tysAre sc ts es
  | _, _ => false
mutual
def mTg (df : Bool) (sc : Scope) (N : List Str) : Tgt → Expr → Bool
  | .nm i, .Name x _ => decide (N[i]? = some x) && locB df sc x
  | .tp ts, .Tuple es _ _ => mTgs df sc N ts es
  | _, _ => false
def mTgs (df : Bool) (sc : Scope) (N : List Str) : List Tgt → List Expr → Bool
  | [], [] => true
  | t :: ts, e :: es => notStar e && mTg df sc N t e && mTgs df sc N ts es
  | _, _ => false
end
/-- no super() -/
def baseOk : Expr → Bool
  | .Call (.Name _ _) [] [] _ => false
  | _ => true
def argsNo : Arguments → Bool
  | ⟨[], [], none, [], [], none, []⟩ => true
  | _ => false
def isTup : Expr → Bool
  | .Tuple _ _ _ => true
  | _ => false
section
variable (T : Tb) (N : List Str) (cm : Bool)
mutual
def mE : Scope → IE → Expr → Bool
  | sc, .var i, e => match e with | .Name x _ => decide (N[i]? = some x) && visB sc x && nmOk x | _ => false
  | sc, .bor i, e => match e with | .Name x _ => decide (N[i]? = some x) && visB sc x && nmOk x | _ => false
  | _, .non, e => match e with | .Constant .none _ _ => true | _ => false
  | _, .bl b, e => match e with | .Constant (.bool c) _ _ => decide (b = c) | _ => false
  | _, .int i, e => match e with | .Constant (.int j) _ _ => decide (i = j) | _ => false
  | _, .str s, e => match e with | .Constant (.str t) _ _ => decide (s = t) && PyData.strOk s | _ => false
  | sc, .glob x, e => match e with | .Name y _ => decide (x = y) && glbB sc y && nmOk y && (T.Cn x).isSome | _ => false
  | sc, .bin op a b, e => match e with | .BinOp x o y _ => opIs op o && mE sc a x && mE sc b y | _ => false
  | sc, .binL op a b, e => match e with | .BinOp x o y _ => opIs op o && mE sc a x && mE sc b y | _ => false
  | sc, .neg a, e => match e with | .UnaryOp .USub x _ => mE sc a x | _ => false
  | sc, .cmp c a b, e => match e with | .Compare x [o] [y] _ => cmIs c o && mE sc a x && mE sc b y && notSet y | _ => false
  | sc, .chain c d p q r, e => match e with | .Compare x [o, o'] [y, z] _ => cmIs c o && cmIs d o' && mE sc p x && mE sc q y && mE sc r z && notSet z | _ => false
  | sc, .isN a, e => match e with | .Compare x [.Is] [.Constant .none _ _] _ => mE sc a x | _ => false
  | sc, .notN a, e => match e with | .Compare x [.IsNot] [.Constant .none _ _] _ => mE sc a x | _ => false
  | sc, .not a, e => match e with | .UnaryOp .Not x _ => mE sc a x | _ => false
  | sc, .and a b, e => match e with
    | .BoolOp .And [x, y] _ => nb a && nb b && mE sc a x && mE sc b y
    | .BoolOp .And (x :: y :: z :: r) p => nb a && nb b && mE sc a x && mE sc b (.BoolOp .And (y :: z :: r) p)
    | _ => false
  | sc, .or a b, e => match e with
    | .BoolOp .Or [x, y] _ => nb a && nb b && mE sc a x && mE sc b y
    | .BoolOp .Or (x :: y :: z :: r) p => nb a && nb b && mE sc a x && mE sc b (.BoolOp .Or (y :: z :: r) p)
    | _ => false
  | sc, .ife t a b, e => match e with | .IfExp t' x y _ => nb a && nb b && mE sc t t' && mE sc a x && mE sc b y | _ => false
  | sc, .tup es, e => match e with | .Tuple xs _ _ => es.all nb && mEs sc es xs | _ => false
  | sc, .lst es, e => match e with | .List xs _ => es.all nb && mEs sc es xs | _ => false
  | sc, .idx a i, e => match e with | .Subscript x y _ => notSlice y && mE sc a x && mE sc i y | _ => false
  | sc, .slice a lo hi, e => match e with
    | .Subscript x (.Slice none none none _) _ => mE sc a x && lo.isEmpty && hi.isEmpty
    | .Subscript x (.Slice (some l) none none _) _ => mE sc a x && mEs sc lo [l] && hi.isEmpty
    | .Subscript x (.Slice none (some h) none _) _ => mE sc a x && lo.isEmpty && mEs sc hi [h]
    | .Subscript x (.Slice (some l) (some h) none _) _ => mE sc a x && mEs sc lo [l] && mEs sc hi [h]
    | _ => false
  | sc, .call f es, e => match e with
    | .Call (.Name x _) (y :: ys) [] _ => cm && decide (f = x) && glbB sc x && nmOk x && es.all nb && (match T.Fn f with | some (n, _) => n == es.length | none => false) && mEs sc es (y :: ys)
    | _ => false
  | sc, .blt f es, e => match e with
    | .Call (.Name x _) (y :: ys) [] _ => cm && decide (bfName f = x) && glbB sc x && mEs sc es (y :: ys)
    | _ => false
  | sc, .isi ts a, e => match e with
    | .Call (.Name x _) [y, .Name z p] [] _ => decide (x = ("isinstance" : Str)) && glbB sc x && mE sc a y && tysAre sc ts [.Name z p]
    | .Call (.Name x _) [y, .Tuple zs _ _] [] _ => decide (x = ("isinstance" : Str)) && glbB sc x && mE sc a y && tysAre sc ts zs && decide (ts.length ≤ 100)
    | _ => false
  | sc, .comp elt tg own k src ifs, e => match e with
    | .ListComp x [⟨t, i, fs, 0⟩] scope _ => cm && blkC N sc scope own && mTg false (relS scope sc) N tg t && tg.slots.all (fun j => (own.map (·.2)).contains j) && nb elt &&
        mE (relS scope sc) elt x && mEs (relS scope sc) ifs fs && decide (ifs.length ≤ 1) &&
        (match k with
        | .any => notSet i && mEs sc src [i]
        | .range1 => (match i with | .Call (.Name y _) [a] [] _ => decide (y = ("range" : Str)) && glbB sc y && mEs sc src [a] | _ => false)
        | .range2 => (match i with | .Call (.Name y _) [a, b] [] _ => decide (y = ("range" : Str)) && glbB sc y && mEs sc src [a, b] | _ => false)
        | .enum => false
        | .zip => (match i with | .Call (.Name y _) [a, b] [] _ => decide (y = ("zip" : Str)) && glbB sc y && mEs sc src [a, b] && isTup t | _ => false))
    | _ => false
  | sc, .tupS a es, e => match e with | .Tuple (.Starred x _ :: xs) _ _ => es.all nb && mE sc a x && mEs sc es xs | _ => false
  | sc, .join s a, e => match e with | .Call (.Attribute (.Constant (.str t) j p) m apos) [x] [] pos => decide (s = t) && PyData.strOk s && decide (m = ("join" : Str)) && (apos.endLine == pos.line) && mE sc a x | _ => false
  | sc, .int2 a, e => match e with | .Call (.Name y _) [x, .Constant (.int j) _ _] [] _ => cm && decide (y = ("int" : Str)) && decide (j = 2) && glbB sc y && nb a && mE sc a x | _ => false
  | sc, .isB ng b a, e => match e with
    | .Compare x [.IsNot] [.Constant (.bool c) _ _] _ => ng && decide (b = c) && nb a && mE sc a x
    | .Compare x [.Is] [.Constant (.bool c) _ _] _ => !ng && decide (b = c) && nb a && mE sc a x
    | _ => false
  | sc, .lam w f e, x => match x with
    | .Call (.Name y _) [.Lambda params body scope _] [] _ => cm && decide (f = y) && glbB sc y && nmOk y && decide (T.Wn f = some w) && LamX.lamSB sc scope && argsNo params && nb e && T.mL scope e body
    | _ => false
  | sc, .mkx c ns es, e => match e with
    | .Call (.Name x _) [] [] _ => cm && decide (c = x) && glbB sc x && ns.isEmpty && es.isEmpty && (T.XS "()" c).isSome
    | .Call (.Name x _) (y :: ys) [] _ => cm && decide (c = x) && glbB sc x && es.all nb && decide (T.XN c = some ns) && mEs sc es (y :: ys)
    | _ => false
  | _, .dct0, e => match e with | .Dict [] [] _ => true | _ => false
  | sc, .o1 o a, e => match o with
    | .exf n cs => (match e with | .Attribute (.Name x p) f _ => decide (f = n) && cs.all (fun c => match T.XN c with | some ns => ns.contains n | none => false) && mE sc a (.Name x p) | _ => false)
    | .isX h tab => (match e with | .Call (.Name x _) [y, .Name z _] [] _ => decide (x = ("isinstance" : Str)) && decide (z = h) && glbB sc x && glbB sc z && nmOk z && decide (z ≠ ("__name__" : Str)) && decide (h ≠ ("()" : Str)) && !tab.isEmpty && tab.all (fun q => decide (T.XS h q.1 = some q.2)) && mE sc a y | _ => false)
  | _, .o2 _ _ _, _ => false
  | sc, .rev a, e => match e with | .Subscript x (.Slice none none (some (.UnaryOp .USub (.Constant (.int j) _ _) _)) _) _ => decide (j = 1) && mE sc a x | _ => false
  | sc, .zipl a b, e => match e with | .Call (.Name l _) [.Call (.Name z _) [x, y] [] _] [] _ => cm && decide (l = ("list" : Str)) && decide (z = ("zip" : Str)) && glbB sc l && glbB sc z && mE sc a x && mE sc b y | _ => false
  | sc, .sset a, e => match e with | .Call (.Name l _) [.Call (.Name z _) [x] [] _] [] _ => cm && decide (l = ("sorted" : Str)) && decide (z = ("set" : Str)) && glbB sc l && glbB sc z && mE sc a x | _ => false
  | sc, .dcomp kx vx tg own k src, e => match e with
    | .DictComp x y [⟨t, i, [], 0⟩] scope _ => cm && blkC N sc scope own && mTg false (relS scope sc) N tg t && tg.slots.all (fun j => (own.map (·.2)).contains j) && nb kx && nb vx &&
        mE (relS scope sc) kx x && mE (relS scope sc) vx y &&
        (match k with
        | .any => notSet i && mEs sc src [i]
        | .range1 => (match i with | .Call (.Name y _) [a] [] _ => decide (y = ("range" : Str)) && glbB sc y && mEs sc src [a] | _ => false)
        | .range2 => (match i with | .Call (.Name y _) [a, b] [] _ => decide (y = ("range" : Str)) && glbB sc y && mEs sc src [a, b] | _ => false)
        | .enum => false
        | .zip => (match i with | .Call (.Name y _) [a, b] [] _ => decide (y = ("zip" : Str)) && glbB sc y && mEs sc src [a, b] && isTup t | _ => false))
    | _ => false
def mEs : Scope → List IE → List Expr → Bool
  | _, [], [] => true
  | sc, a :: as, e :: es => mE sc a e && mEs sc as es
  | _, _, _ => false
end
/-- a source's term beside its text -/
def mSrc (sc : Scope) (k : SK) (src : List IE) (t i : Expr) : Bool := match k with
  | .any => notSet i && mEs T N cm sc src [i]
  | .range1 => (match i with | .Call (.Name y _) [a] [] _ => decide (y = ("range" : Str)) && glbB sc y && mEs T N cm sc src [a] | _ => false)
  | .range2 => (match i with | .Call (.Name y _) [a, b] [] _ => decide (y = ("range" : Str)) && glbB sc y && mEs T N cm sc src [a, b] | _ => false)
  | .enum => false
  | .zip => (match i with | .Call (.Name y _) [a, b] [] _ => decide (y = ("zip" : Str)) && glbB sc y && mEs T N cm sc src [a, b] && isTup t | _ => false)
end
def kd (T : Tb) : IE → Kd
  | .bor _ => .br
  | .lst _ => .fr
  | .dct0 => .fr
  | .binL _ _ _ => .fr
  | .comp _ _ _ _ _ _ => .fr
  | .blt .list _ => .fr
  | .blt .sorted _ => .fr
  | .zipl _ _ => .fr
  | .sset _ => .fr
  | .dcomp _ _ _ _ _ _ => .fr
  | .call f _ => (match T.Fn f with | some (_, true) => .fr | _ => .pl)
  | _ => .pl
end CT

namespace CT
open PySem PySem.Spec PyProof.Rows L2

/-! ### defs that try what they are given -/
def mXI (names : List Str) (x : Str) : XI → Expr → Bool
  | .k s, e => match e with | .Constant (.str t) _ _ => decide (s = t) && PyData.strOk s | _ => false
  | .f j, e => match e with | .Attribute (.Name y _) n _ => decide (x = y) && decide (names[j]? = some n) | _ => false
def mXIs (names : List Str) (x : Str) : List XI → List Expr → Bool
  | [], [] => true
  | i :: is, e :: es => mXI names x i e && mXIs names x is es
  | _, _ => false
/-- one clause: class, name (of the error), what is given back -/
def mHd (XN : Str → Option (List Str)) (N : List Str) (sc : Scope) (h : Str × Bool × List XI) : ExceptHandler → Bool
  | .ExceptHandler (some (.Name c _)) nm [.Return (some (.Tuple es _ _)) _] _ => decide (c = h.1) && glbB sc c && nmOk c && (match XN c with
    | some names => (match nm with
      | some x => h.2.1 && decide (N[1]? = some x) && locB false sc x && nmOk x && decide (x ≠ "") && mXIs names x h.2.2 es && decide (h.2.2.length ≤ 100)
      | none => !h.2.1 && mXIs [] "" h.2.2 es && decide (h.2.2.length ≤ 100))
    | none => false)
  | _ => false
def mHds (XN : Str → Option (List Str)) (N : List Str) (sc : Scope) : List (Str × Bool × List XI) → List ExceptHandler → Bool
  | [], [] => true
  | h :: hs, e :: es => mHd XN N sc h e && mHds XN N sc hs es
  | _, _ => false
def mWr (XN : Str → Option (List Str)) (N : List Str) (sc : Scope) (a : Str) (W : WrD) : List Stmt → Bool
  | [.Try [.Return (some (.Tuple [.Constant (.str t) _ _, .Call (.Name x _) [] [] _] _ _)) _] (h :: hds) [] [] _] => decide (t = W.told) && PyData.strOk t && decide (x = a) && decide (N[0]? = some a) && visB sc a && nmOk a && mHds XN N sc W.hs (h :: hds)
  | _ => false
/-! ### a def's promise by its meaning -/
def PostF (mg : Str → Option Value) (T : Tb) (K : PySem.W.Frag) (β : List Addr) (A : Addr → Prop) (fr : Bool) (H : Hp) (Q : VK) (E : XK) : Res D → Prop
  | .ok d M' => ∀ β' v H', Ext β H β' H' → RepM β' H' M' → RepF (if fr then .fr else .pl) K β' A H H' d v → Q v H'
  | .exc c fs M' => ∀ β' cls dx H', Ext β H β' H' → RepM β' H' M' → XRep mg T K β' A H' c fs cls dx → E cls dx H'
  | .stuck => False
def spOf (mg : Str → Option Value) (T : Tb) (K : PySem.W.Frag) (n : Nat) (fr : Bool) (F : List D → Mem → Res D) : Sp := fun vs H Q E =>
  LamX.Tabs lamTabs H ∧ ∃ β A M ds, RepM β H M ∧ (∀ a, A a → H a ≠ none) ∧ Reps K β A H ds vs ∧ ds.length = n ∧ PostF mg T K β A fr H Q E (F ds M)
def bltNames : List Str := ["len", "abs", "int", "list", "tuple", "all", "any", "sum", "max", "min", "sorted", "isinstance", "range", "enumerate", "zip", "bool", "str", "set", "dict"]
/-- what the class that is called h is -/
def ClsNm (mg : Str → Option Value) (h : Str) (v : V) (cv : Value) : Prop := (∃ C, mg h = some (.ref C) ∧ v = .ref C ∧ cv = .ref C) ∨ (mg h = none ∧ ∃ t, bootBuiltins h = some (.type t) ∧ v = .ty t ∧ cv = .type t)
/-- the exception classes, held as values -/
structure XFacts (K : PySem.W.Frag) (mg : Str → Option Value) (T : Tb) : Prop where
  cl : ∀ c names, T.XN c = some names → ∃ C, PySem.W.nsIn K mainGlobals c = some (some (.ref C)) ∧ mg c = some (.ref C)
  is : ∀ (h c : Str) (b : Bool), h ≠ ("()" : Str) → T.XS h c = some b → ∃ C v cv, PySem.W.nsIn K mainGlobals c = some (some (.ref C)) ∧ ExcC K C ∧ ClsNm mg h v cv ∧ PySem.W.kitOne K (.ref C) cv = some b
  zero : ∀ (c : Str) (b : Bool), T.XS ("()" : Str) c = some b → ∃ C bm B n i, PySem.W.nsIn K mainGlobals c = some (some (.ref C)) ∧ mg c = some (.ref C) ∧ PySem.W.keepIn K (.ref C) = true ∧ (c == ("__debug__" : Str)) = false ∧ ExcBaseFacts B n i bm ∧ PySem.W.excIn K C bm n = true
structure Fx (P : Program) (w : World) (K : PySem.W.Frag) (mg : Str → Option Value) (base : Heap) (T : Tb) (Γ : Fns) (k : Nat) : Prop where
  con : ∀ x d, T.Cn x = some d → ∃ u v, mg x = some u ∧ RelV v u ∧ ∀ β A H, Rep K β A H d v
  blt : ∀ x ∈ bltNames, mg x = none
  fn : ∀ x n fr, T.Fn x = some (n, fr) → ∃ f fd ps, ps.length = n ∧ mg x = some (.ref f) ∧ PySem.W.keepIn K (.ref f) = true ∧ Binds K fd ps [] ∧ FnOk P w K mg base (L2.CX P w) k f fd ps (spOf mg T K n fr (Γ x))
  xc : ∀ c names, T.XN c = some names → 2 ≤ k ∧ (c == ("__debug__" : Str)) = false ∧ ∃ C fI, CTX.XcTxt P K mg c C fI names
  xm : ∀ c h nc nh C Ch, T.XN c = some nc → T.XN h = some nh → mg c = some (.ref C) → mg h = some (.ref Ch) → PySem.W.exmOne K (.ref C) (.ref Ch) = some (decide (c = h))
  wr : ∀ x W, T.Wn x = some W → ∃ st g fd a Ng, Fun K x x st g fd ∧ mg x = some (.ref g) ∧ Binds K fd [a] [] ∧ FnScope Ng [a] (defScope st) ∧ mWr T.XN Ng (defScope st) a W (defBody st) = true
  xx : XFacts K mg T
theorem Fx.no {P : Program} {w : World} {K : PySem.W.Frag} {mg : Str → Option Value} {base : Heap} {T : Tb} {Γ : Fns} {k : Nat} (F : Fx P w K mg base T Γ k) : Fx P w K mg base T.no Γ k := ⟨F.con, F.blt, F.fn, F.xc, F.xm, F.wr, ⟨F.xx.cl, F.xx.is, F.xx.zero⟩⟩
/-- what the making of lambdas wants -/
structure LamOk (X : Cx) (T : Tb) (k : Nat) (N : List Str) : Prop where
  mE : ∀ s e x, T.mL s e x = true → mE T.no N true s e x = true
  room : Room (k + 2) X.A
  tab : ∃ c P, (P, X.env.qual ++ "<lambda>") ∈ lamTabs ∧ (∀ p ∈ lamTabs, p.1 = P → p.2 = X.env.qual ++ "<lambda>") ∧ X.env.code = .ref c ∧ LamX.TabB X.base X.mg c P
structure CxOk (X : Cx) (T : Tb) (Γ : Fns) (k : Nat) (cm : Bool) (sc : Scope) (N : List Str) : Prop where
  n : X.N = N
  nd : N.Nodup
  sc : X.env.scope = sc
  calm : cm = true → X.calm = true
  room : cm = true → Room k X.A
  un : X.A.units + 64 < cLine
  fx : Fx X.prog X.w X.K X.mg X.base T Γ k
  lam : cm = true → (∃ s e x, T.mL s e x = true) → LamOk X T k N

section
variable {X : Cx} {T : Tb} {Γ : Fns} {k : Nat} {cm : Bool} {sc : Scope} {N : List Str} {W : WX}
theorem mE_star : ∀ {ie : IE} {e : Expr}, mE T N cm sc ie e = true → notStar e = true := fun {ie e} h => by
  cases e <;> first | rfl | (cases ie <;> simp [mE] at h <;> (split at h <;> cases h))
theorem mE_slice : ∀ {ie : IE} {e : Expr}, mE T N cm sc ie e = true → notSlice e = true := fun {ie e} h => by
  cases e <;> first | rfl | (cases ie <;> simp [mE] at h <;> (split at h <;> cases h))
theorem star_cons {e : Expr} {es : List Expr} {env : Env} (h : notStar e = true) : starEach (e :: es) env = (false, eval e env) :: starEach es env := by
  cases e <;> first | rfl | (simp [notStar] at h)
theorem star_none {env : Env} {pos : Pos} : ∀ {es : List Expr}, es.all notStar = true → (backTo pos (starEach es env)).any (·.1) = false
  | [], _ => rfl
  | e :: es, h => by
    simp only [List.all_cons, Bool.and_eq_true] at h
    rw [star_cons h.1]
    show (false || (backTo pos (starEach es env)).any (·.1)) = false
    rw [star_none h.2]; rfl
theorem mEs_star : ∀ {ies : List IE} {es : List Expr}, mEs T N cm sc ies es = true → es.all notStar = true
  | [], [], _ => rfl
  | [], _ :: _, h => by simp [mEs] at h
  | _ :: _, [], h => by simp [mEs] at h
  | i :: is, e :: es, h => by
    simp only [mEs, Bool.and_eq_true] at h
    simp only [List.all_cons, Bool.and_eq_true]
    exact ⟨mE_star h.1, mEs_star h.2⟩
theorem mEs_len : ∀ {ies : List IE} {es : List Expr}, mEs T N cm sc ies es = true → ies.length = es.length
  | [], [], _ => rfl
  | [], _ :: _, h => by simp [mEs] at h
  | _ :: _, [], h => by simp [mEs] at h
  | i :: is, e :: es, h => by
    simp only [mEs, Bool.and_eq_true] at h
    simp [mEs_len h.2]
theorem vis_of {x : Str} (h : visB sc x = true) : Vis sc x := by
  unfold visB at h
  split at h
  · exact .inl (by assumption)
  · exact .inr (.inl (by assumption))
  · exact .inr (.inr (by assumption))
  · cases h
theorem glb_of {x : Str} (hs : X.env.scope = sc) (h : glbB sc x = true) : Gl X x := by
  unfold glbB at h
  split at h
  · show X.env.scope.names.lookup x = _
    rw [hs]; assumption
  · cases h
theorem nm_of {x : Str} (h : nmOk x = true) : (x == ("__debug__" : Str)) = false ∧ (x == ("__classdict__" : Str)) = false := by
  unfold nmOk at h
  simpa using h
theorem mem_blt {x : Str} (C : CxOk X T Γ k cm sc N) (h : x ∈ bltNames) : X.mg x = none := C.fx.blt x h
theorem set_folded {i : Expr} {env : Env} (h : notSet i = true) : ∀ x, foldedSetIterable i env x = pure x := by
  intro x
  cases i <;> first | rfl | (simp [notSet] at h)
theorem nomark' {y : Expr} {op : CmpOp} (h : notSet y = true) : behindInMarks op y = false := by
  cases y <;> first | rfl | (simp [notSet] at h)
theorem PE.weak {e : Expr} {mg : Str → Option Value} {c : Sg → Mem → Res D} {kk : Kd} (h : PE X e (tE mg T X.K W kk c)) : PE X e (tE mg T X.K W .br c) := pe_imp h fun _ _ _ q => tE_weak q
theorem PE.plain {e : Expr} {mg : Str → Option Value} {c : Sg → Mem → Res D} {kk : Kd} (hk : kk ≠ .br) (h : PE X e (tE mg T X.K W kk c)) : PE X e (tE mg T X.K W .pl c) := pe_imp h fun _ _ _ q => tE_plain hk q
theorem nb_kd {ie : IE} (h : nb ie = true) : kd T ie ≠ .br := by
  cases ie with
  | bor i => simp [nb] at h
  | call f es => simp only [kd]; split <;> simp
  | blt f es => cases f <;> simp [kd]
  | _ => simp [kd]

/-- a constant -/
theorem tE_c {mg : Str → Option Value} {d : D} {v : V} {kk : Kd} (hk : kk ≠ .fr) (r : ∀ β A H, Rep X.K β A H d v) {σ : L2.St} {H : Hp} {Q : VK} (h : tE mg T X.K W kk (fun _ M => .ok d M) σ H Q) : tC v σ H Q := by
  obtain ⟨β, A, M, ow, σd, R, p⟩ := h
  exact post_same (k := kk) R hk (r _ _ _) p

/-- as a test -/
theorem pt_of {mg : Str → Option Value} {e : Expr} {c : Sg → Mem → Res D} (h : PE X e (tE mg T X.K W .br c)) (he : ∀ whole, isTrue e X.env whole = (do let v ← whole; standAt e.pos; holding [v] (truthy v))) :
    PT X e (fun σ H Q => tE mg T X.K W .br c σ H fun x H' => ∃ k, TruV X.K x H' k ∧ Q k H') := pt_truth h he
end
/-- what is behind a test -/
def PostT (mg : Str → Option Value) (T : Tb) (K : PySem.W.Frag) (W : WX) (β : List Addr) (A : Addr → Prop) (σ : L2.St) (H : Hp) (Q : Bool → Hp → Prop) : Res D → Prop
  | .ok d M' => ∃ b, truD d = some b ∧ ∀ β' H', Ext β H β' H' → RepM β' H' M' → Q b H'
  | .exc c fs M' => ∀ β' cls dx H', Ext β H β' H' → RepM β' H' M' → XRep mg T K β' A H' c fs cls dx → W cls dx σ H'
  | .stuck => False
def tT (mg : Str → Option Value) (T : Tb) (K : PySem.W.Frag) (W : WX) (c : Sg → Mem → Res D) : TT := fun σ H Q =>
  ∃ β A M ow σd, RE K β A H M ow σd σ ∧ PostT mg T K W β (avo A ow) σ H Q (c σd M)
section
variable {mg : Str → Option Value} {T : Tb} {K : PySem.W.Frag} {W : WX} {β β' : List Addr} {A : Addr → Prop} {σ : L2.St} {H H' : Hp} {Q : Bool → Hp → Prop}
theorem PostT.later {r : Res D} (e : Ext β H β' H') (h : PostT mg T K W β A σ H Q r) : PostT mg T K W β' A σ H' Q r := by
  cases r with
  | ok d M =>
    obtain ⟨b, hb, h⟩ := h
    exact ⟨b, hb, fun β2 H2 e2 m2 => h β2 H2 (e.trans e2) m2⟩
  | exc c fs M => exact fun β2 cls dx H2 e2 m2 x => h β2 cls dx H2 (e.trans e2) m2 x
  | stuck => exact h
/-- a test by truth, from a value -/
theorem tT_val {c : Sg → Mem → Res D} (h : tT mg T K W c σ H Q) : tE mg T K W .br c σ H fun x H' => ∃ k, TruV K x H' k ∧ Q k H' := by
  obtain ⟨β, A, M, ow, σd, R, p⟩ := h
  refine ⟨β, A, M, ow, σd, R, ?_⟩
  cases q : c σd M with
  | ok d M' =>
    rw [q] at p
    obtain ⟨b, hb, p⟩ := p
    exact fun β' v H' e m r => ⟨b, tru_ok' r hb, p β' H' e m⟩
  | exc c fs M' => rw [q] at p; exact p
  | stuck => rw [q] at p; exact p
end
end CT

namespace CT
open PySem PySem.Spec PyProof.Rows L2
/-! ### the turns of a comprehension, of a source -/
section
variable {mg : Str → Option Value} {T : Tb} {K : PySem.W.Frag} {W : WX} {β β' : List Addr} {A A' : Addr → Prop} {σ : L2.St} {H H' : Hp} {M : Mem} {ow : Nat → Option Addr} {σd : Sg}
/-- a source's reading by its meaning -/
def PostI (mg : Str → Option Value) (T : Tb) (K : PySem.W.Frag) (W : WX) (β : List Addr) (A : Addr → Prop) (bw : Bool) (σ : L2.St) (H : Hp) (R : It → Hp → Prop) : Res (List D) → Prop
  | .ok items M' => ∀ β' J H', Ext β H β' H' → RepM β' H' M' → Feeds bw K A β' H' J items → R J H'
  | .exc c fs M' => ∀ β' cls dx H', Ext β H β' H' → RepM β' H' M' → XRep mg T K β' A H' c fs cls dx → W cls dx σ H'
  | .stuck => False
def tI (mg : Str → Option Value) (T : Tb) (K : PySem.W.Frag) (W : WX) (bw : Bool) (c : Sg → Mem → Res (List D)) : TI := fun σ H R =>
  ∃ β A M ow σd, RE K β A H M ow σd σ ∧ PostI mg T K W β (avo A ow) bw σ H R (c σd M)
theorem PostI.later {bw : Bool} {R : It → Hp → Prop} {r : Res (List D)} (e : Ext β H β' H') (h : PostI mg T K W β A bw σ H R r) : PostI mg T K W β' A bw σ H' R r := by
  cases r with
  | ok d M => exact fun β2 v H2 e2 m2 r2 => h β2 v H2 (e.trans e2) m2 r2
  | exc c fs M => exact fun β2 cls dx H2 e2 m2 x => h β2 cls dx H2 (e.trans e2) m2 x
  | stuck => exact h
/-- the source's meaning -/
def semI (Γ : Fns) (Cn : Str → Option D) (k : SK) (src : List IE) (σ : Sg) (M : Mem) : Res (List D) := (semEs Γ Cn src σ M).bind fun xs M1 => .of (srcD k xs) M1
/-- items as the readings of the kit want them -/
theorem tI_list {bw : Bool} {kk : Kd} {ca : Sg → Mem → Res (List D)} {g : SK} {R : It → Hp → Prop} {t : List V → Hp → (It → Hp → Prop) → Prop}
    (hop : ∀ β A ow M H1 σd xs vs, RE K β A H1 M ow σd σ → RepsK kk K β (avo A ow) H1 xs vs → PostI mg T K W β (avo A ow) bw σ H1 R (.of (srcD g xs) M) → t vs H1 R)
    (h : tI mg T K W bw (fun σd M => (ca σd M).bind fun xs M1 => .of (srcD g xs) M1) σ H R) : tA mg T K W kk ca σ H fun vs H1 => t vs H1 R := by
  obtain ⟨β, A, M, ow, σd, RR, p⟩ := h
  refine ⟨β, A, M, ow, σd, RR, ?_⟩
  cases q : ca σd M with
  | ok d M' =>
    dsimp only at p; rw [q] at p
    exact fun β' v H' e m r => hop β' A ow M' H' σd d v (RR.mono e m) r (PostI.later e p)
  | exc c fs M' => dsimp only at p; rw [q] at p; exact p
  | stuck => dsimp only at p; rw [q] at p; exact p
theorem postI_some {bw : Bool} {R : It → Hp → Prop} {o : Option (List D)} {xs : List D} (e : o = some xs) (h : PostI mg T K W β A bw σ H R (.of o M)) : PostI mg T K W β A bw σ H R (.ok xs M) := by
  subst e; exact h
theorem postI_none {bw : Bool} {R : It → Hp → Prop} {o : Option (List D)} (e : o = none) (h : PostI mg T K W β A bw σ H R (.of o M)) : False := by
  subst e; exact h
/-- a list that stands, seen as borrowed or not -/
def LstAt (bw : Bool) (K : PySem.W.Frag) (β : List Addr) (A : Addr → Prop) (H : Hp) (ds : List D) (v : V) : Prop :=
  ∃ a vs, v = .ref a ∧ H a = some (.lst vs) ∧ a ∉ β ∧ (bw = false → ¬ A a) ∧ Reps K β A H ds vs
theorem lstAt_w {ds : List D} {v : V} (h : RepW K β A H (.lst ds) v) : LstAt true K β A H ds v := by
  rcases h with h | ⟨a, rfl, n, vs, h, r⟩
  · simp only [Rep] at h
    obtain ⟨a, vs, rfl, t, n, _, r⟩ := h
    exact ⟨a, vs, rfl, t, n, fun z => (nomatch z), r⟩
  · exact ⟨a, vs, rfl, h, n, fun z => (nomatch z), r⟩
theorem lstAt_p {ds : List D} {v : V} {bw : Bool} (h : Rep K β A H (.lst ds) v) : LstAt bw K β A H ds v := by
  simp only [Rep] at h
  obtain ⟨a, vs, rfl, t, n, m, r⟩ := h
  exact ⟨a, vs, rfl, t, n, fun _ => m, r⟩
def ItemAt (bw : Bool) (K : PySem.W.Frag) (β : List Addr) (A : Addr → Prop) (H : Hp) (d : D) (v : V) : Prop := match bw with
  | true => RepW K β A H d v
  | false => Rep K β A H d v
theorem itemAt_lst {ds : List D} {v : V} {bw : Bool} (h : ItemAt bw K β A H (.lst ds) v) : LstAt bw K β A H ds v := by
  cases bw with
  | true => exact lstAt_w h
  | false => exact lstAt_p h
theorem itemAt_w {d : D} {v : V} {bw : Bool} (h : ItemAt bw K β A H d v) : RepW K β A H d v := by
  cases bw with
  | true => exact h
  | false => exact .inl h
/-- one, two arguments -/
theorem itemsAt {bw : Bool} {kk : Kd} (hk : kk = if bw then .br else .pl) : ∀ {xs : List D} {vs : List V}, RepsK kk K β A H xs vs → Paired (ItemAt bw K β A H) xs vs := by
  subst hk
  cases bw with
  | true =>
    intro xs
    induction xs with
    | nil => intro vs h; have h : vs = [] := by simpa [RepsK, RepsW] using h
             subst h; exact .nil
    | cons d ds ih =>
      intro vs h
      have h' : RepsW K β A H (d :: ds) vs := h
      simp only [RepsW] at h'
      obtain ⟨v, r, rfl, h1, h2⟩ := h'
      exact .cons h1 (ih h2)
  | false =>
    intro xs
    induction xs with
    | nil => intro vs h; have h : vs = [] := by simpa [RepsK, Reps] using h
             subst h; exact .nil
    | cons d ds ih =>
      intro vs h
      have h' : Reps K β A H (d :: ds) vs := h
      simp only [Reps] at h'
      obtain ⟨v, r, rfl, h1, h2⟩ := h'
      exact .cons h1 (ih h2)
end

/-! ### comprehensions -/
section
variable {mg : Str → Option Value} {T : Tb} {K : PySem.W.Frag} {W : WX} {σ : L2.St} {H : Hp} {Q : VK}
/-- tests -/
def tTs (mg : Str → Option Value) (T : Tb) (K : PySem.W.Frag) (W : WX) (c : Sg → Mem → Res Bool) : TT := fun σ H Q =>
  ∃ β A M ow σd, RE K β A H M ow σd σ ∧ match c σd M with
    | .ok b M' => ∀ β' H', Ext β H β' H' → RepM β' H' M' → Q b H'
    | .exc c fs M' => ∀ β' cls dx H', Ext β H β' H' → RepM β' H' M' → XRep mg T K β' (avo A ow) H' c fs cls dx → W cls dx σ H'
    | .stuck => False
def turnG (Γ : Fns) (Cn : Str → Option D) (elt : IE) (tg : Tgt) (own : List (Str × Nat)) (ifs : List IE) (σ : Sg) (x : D) (M : Mem) : Res (Option D) :=
  match asgT tg x (wipeG σ (own.map (·.2))) with
  | some σ' => (semIf Γ Cn ifs σ' M).bind fun b M1 => match b with | true => (semE Γ Cn elt σ' M1).bind fun y M2 => .ok (some y) M2 | false => .ok none M1
  | none => .stuck
abbrev WF : WX := fun _ _ _ _ => False
/-- the comprehension's reading -/
theorem comp_ok {Γ : Fns} {Cn : Str → Option D} {elt : IE} {tg : Tgt} {own : List (Str × Nat)} {kk : Kd} {ci : Sg → Mem → Res (List D)} {ifs : List IE} {ke : Kd} (hk : ke ≠ .br) (hsl : ∀ j ∈ tg.slots, j ∈ own.map (·.2))
    (h : tE mg T K W kk (fun σ M => (ci σ M).bind fun items M1 => (compL (turnG Γ Cn elt tg own ifs σ) items 0 M1).bind fun ys M2 => .ok (.lst ys) M2) σ H Q) :
    tLc (tI mg T K W true ci) (gOf K tg) (tTs mg T K WF (semIf Γ Cn ifs)) (tE mg T K WF ke (semE Γ Cn elt)) (own.map (·.2)) σ H Q := by
  obtain ⟨β, A, M, ow, σd, R, p⟩ := h
  refine ⟨β, A, M, ow, σd, R, ?_⟩
  cases q : ci σd M with
  | exc c fs M' => dsimp only at p; rw [q] at p; exact p
  | stuck => dsimp only at p; rw [q] at p; exact p
  | ok items M1 =>
    dsimp only at p; rw [q] at p
    have p : Post mg T K W β (avo A ow) kk σ H Q ((compL (turnG Γ Cn elt tg own ifs σd) items 0 M1).bind fun ys M2 => .ok (.lst ys) M2) := p
    intro β1 J H1 e1 m1 F Dn hD
    have p := Post.later e1 p
    have R1 : RE K β1 A H1 M1 ow σd σ := R.mono e1 m1
    obtain ⟨nD, aD⟩ := R1.fresh hD
    -- the new list at Dn is avoided meanwhile
    let AD : Addr → Prop := fun a => A a ∨ a = Dn
    have gAD : ∀ a, AD a → H1 a ≠ none → A a := fun a z n => z.elim id fun z => by subst z; exact absurd hD n
    have gV : ∀ a, avo AD ow a → H1 a ≠ none → avo A ow a := fun a z n => z.elim (fun z => .inl (gAD a z n)) .inr
    have hDO : ∀ a, a = Dn → AD a := fun a z => .inr z
    have RD : ∀ {β2 : List Addr} {H2 : Hp} {M2 : Mem}, Ext β1 H1 β2 H2 → RepM β2 H2 M2 → H2 Dn ≠ none → RE K β2 AD H2 M2 ow σd σ := fun {β2 H2 M2} e m n =>
      R1.monoO (O := Nil) e (fun _ z => z.elim) m (fun a z => z.elim (fun z => e.dom a (R1.av a z)) fun z => by subst z; exact n) gAD
    -- the invariant
    refine ⟨fun i m Hc => m = items.length - i ∧ i ≤ items.length ∧ ∃ β2 M2 acc vs, Ext β1 H1 β2 Hc ∧ RepM β2 Hc M2 ∧ Hc Dn = some (.lst vs) ∧ Dn ∉ β2 ∧ Reps K β2 (avo AD ow) Hc acc vs ∧
      Post mg T K W β1 (avo A ow) kk σ H1 Q ((compL (turnG Γ Cn elt tg own ifs σd) (items.drop i) acc.length M2).bind fun ys M3 => .ok (.lst (acc ++ ys)) M3), ⟨items.length, by simp, Nat.zero_le _, β1, M1, [], [], Ext.new hD, m1.new hD, upd_same, nD, Reps.nil, ?_⟩, ?_⟩
    · simpa using p
    · rintro i m Hc ⟨rfl, hi, β2, M2, acc, vs, e2, m2, hDc, nD2, rA, pc⟩
      have rl : Rl true (avo A ow) β1 H1 (avo AD ow) β2 Hc := ⟨gV, e2⟩
      have R2 : RE K β2 AD Hc M2 ow σd σ := RD e2 m2 (by rw [hDc]; simp)
      by_cases hlt : i < items.length
      · refine .inr ⟨(F.go _ _ _ rl i hlt).1, fun Hn => ∃ β2 M2 acc vs, Ext β1 H1 β2 Hn ∧ RepM β2 Hn M2 ∧ Hn Dn = some (.lst vs) ∧ Dn ∉ β2 ∧ Reps K β2 (avo AD ow) Hn acc vs ∧
          Post mg T K W β1 (avo A ow) kk σ H1 Q ((compL (turnG Γ Cn elt tg own ifs σd) (items.drop (i + 1)) acc.length M2).bind fun ys M3 => .ok (.lst (acc ++ ys)) M3), fun Hn hn => ⟨items.length - (i + 1), by omega, rfl, hlt, hn⟩, fun x Hy hy => ?_⟩
        obtain ⟨ey, my, d, hd, rd⟩ := (F.go _ _ _ rl i hlt).2 x Hy hy
        have rd := rd fun b hb => m2.live hb
        have e3 := e2.trans ey
        have R3 : RE K β2 AD Hy M2 ow σd σ := R2.mono ey (my _ m2)
        have hdrop : items.drop i = d :: items.drop (i + 1) := by
          obtain ⟨h1, h2⟩ := List.getElem?_eq_some_iff.mp hd
          rw [List.drop_eq_getElem_cons h1, h2]
        rw [hdrop] at pc
        have hDy : Hy Dn = some (.lst vs) := ey.keep _ _ hDc nD2 (fun _ z => by cases z) (fun z => z.elim)
        have rA3 : Reps K β2 (avo AD ow) Hy acc vs := rA.mono ey (fun _ z _ => z)
        -- the turn
        cases qa : asgT tg d (wipeG σd (own.map (·.2))) with
        | none =>
          have : turnG Γ Cn elt tg own ifs σd d M2 = .stuck := by unfold turnG; rw [qa]
          simp only [compL, this] at pc
          exact pc.elim
        | some σ' =>
          refine asg_ok tg d x _ σ' _ _ (R3.wipe (own.map (·.2))) rd qa fun σ2 RA s2 => ⟨?_, ?_⟩
          · have hs : Same2 (own.map (·.2)) (L2.wipe σ (own.map (·.2))) σ2 := ⟨s2.1, fun j n => s2.2 j fun z => n (hsl j z)⟩
            rw [wipe_same hs, wipe_wipe]
          · refine ⟨β2, AD, M2, ow, σ', RA, ?_⟩
            have tu : turnG Γ Cn elt tg own ifs σd d M2 = (semIf Γ Cn ifs σ' M2).bind fun b M1 => match b with | true => (semE Γ Cn elt σ' M1).bind fun y M2 => .ok (some y) M2 | false => .ok none M1 := by unfold turnG; rw [qa]
            cases qb : semIf Γ Cn ifs σ' M2 with
            | stuck =>
              simp only [compL, tu, qb, Res.bind] at pc
              exact pc.elim
            | exc c fs M' =>
              simp only [compL, tu, qb, Res.bind] at pc
              exact fun _ _ _ _ _ _ _ => pc.elim
            | ok b M3 =>
              intro β3 H3 e4 m3
              have e5 := e3.trans e4
              have hD3 : H3 Dn = some (.lst vs) := e4.keep _ _ hDy nD2 (fun _ z => by cases z) (fun z => z.elim)
              have nD3 : Dn ∉ β3 := e4.notin (by rw [hDy]; simp) nD2
              have rA4 : Reps K β3 (avo AD ow) H3 acc vs := rA3.mono e4 (fun _ z _ => z)
              cases b with
              | false =>
                simp only [compL, tu, qb, Res.bind] at pc
                exact ⟨β3, M3, acc, vs, e5, m3, hD3, nD3, rA4, pc⟩
              | true =>
                have RA3 := RA.mono e4 m3
                refine ⟨β3, AD, M3, ow, σ', RA3, ?_⟩
                cases qe : semE Γ Cn elt σ' M3 with
                | stuck =>
                  simp only [compL, tu, qb, qe, Res.bind] at pc
                  exact pc.elim
                | exc c fs M' =>
                  simp only [compL, tu, qb, qe, Res.bind] at pc
                  exact fun _ _ _ _ _ _ _ => pc.elim
                | ok y M4 =>
                  intro β4 w H4 e6 m4 rw4
                  have hc : compL (turnG Γ Cn elt tg own ifs σd) (d :: items.drop (i + 1)) acc.length M2 = if acc.length < sizeLine then (compL (turnG Γ Cn elt tg own ifs σd) (items.drop (i + 1)) (acc.length + 1) M4).bind (fun ys M2 => .ok (y :: ys) M2) else .stuck := by
                    simp only [compL, tu, qb, qe, Res.bind]
                  rw [hc] at pc
                  by_cases hlen : acc.length < sizeLine
                  · rw [if_pos hlen] at pc
                    have e7 := e5.trans e6
                    have hD4 : H4 Dn = some (.lst vs) := e6.keep _ _ hD3 nD3 (fun _ z => by cases z) (fun z => z.elim)
                    have nD4 : Dn ∉ β4 := e6.notin (by rw [hD3]; simp) nD3
                    have rA5 : Reps K β4 (avo AD ow) H4 acc vs := rA4.mono e6 (fun _ z _ => z)
                    have rw5 : Rep K β4 (avo AD ow) H4 y w := RepF.plain hk (fun a z => RA3.avoLive z) rw4
                    have hvl : vs.length = acc.length := rA.length.symm
                    have wr : ExtO (fun a => a = Dn) β4 H4 β4 (upd H4 Dn (.lst (vs ++ [w]))) := ExtO.write hD4
                    have rA6 : Reps K β4 (avo AD ow) (upd H4 Dn (.lst (vs ++ [w]))) (acc ++ [y]) (vs ++ [w]) := Reps.monoO wr (fun a z _ => .inl (hDO a z)) (fun _ z _ => z) _ _ (rA5.append (Reps.one rw5))
                    refine ⟨vs, hD4, by rw [hvl]; exact hlen, β4, M4, acc ++ [y], vs ++ [w], e7.past hD wr, m4.upd nD4, upd_same, nD4, rA6, ?_⟩
                    have el : (acc ++ [y]).length = acc.length + 1 := by simp
                    rw [el]
                    have eb : ∀ r : Res (List D), ((r.bind fun ys M2 => Res.ok (y :: ys) M2).bind fun ys M3 => Res.ok (D.lst (acc ++ ys)) M3) = r.bind fun ys M3 => .ok (.lst (acc ++ [y] ++ ys)) M3 := fun r => by
                      cases r <;> simp
                    have pc' := pc
                    rw [show (compL (turnG Γ Cn elt tg own ifs σd) (List.drop (i + 1) items) (acc.length + 1) M4).bind (fun ys M3 => Res.ok (D.lst (acc ++ [y] ++ ys)) M3) = _ from (eb _).symm]
                    exact pc'
                  · rw [if_neg hlen] at pc
                    exact pc.elim
      · have ei : i = items.length := by omega
        subst ei
        rw [List.drop_length] at pc
        simp only [compL, Res.bind, List.append_nil] at pc
        refine .inl ⟨F.stop _ _ _ rl _ (Nat.le_refl _), ?_⟩
        refine pc β2 (.ref Dn) Hc e2 m2 ?_
        have rA' : Reps K β2 (avo A ow) Hc acc vs := rA.mono (Ext.refl _ _) (fun a z _ => z.elim (fun z => .inl (.inl z)) .inr)
        have o : Own K β2 (avo A ow) Hc (.lst acc) Dn := ⟨nD2, vs, hDc, rA'⟩
        cases kk with
        | fr => exact ⟨Dn, rfl, hD, nD2, vs, hDc, rA.mono (Ext.refl _ _) fun z q _ => q.elim (fun q => q.elim (fun q => .inl (.inl q)) .inr) (fun q => .inl (.inr q))⟩
        | br => exact .inr ⟨Dn, rfl, o⟩
        | pl => exact o.rep aD
end
end CT

namespace CT
open PySem PySem.Spec PyProof.Rows L2
/-! ### dict comprehensions -/
section
variable {K : PySem.W.Frag} {β : List Addr} {A : Addr → Prop} {H : Hp}
/-- a dict of the data beside one of the heap -/
def RepKV (K : PySem.W.Frag) (β : List Addr) (A : Addr → Prop) (H : Hp) (acc : List (Key × D)) (kvs : List (Key × V)) : Prop := acc.map (·.1) = kvs.map (·.1) ∧ Reps K β A H (acc.map (·.2)) (kvs.map (·.2))
theorem RepKV.nil : RepKV K β A H [] [] := ⟨rfl, Reps.nil⟩
theorem RepKV.length {acc : List (Key × D)} {kvs : List (Key × V)} (h : RepKV K β A H acc kvs) : acc.length = kvs.length := by
  have := congrArg List.length h.1
  simpa using this
theorem reps_put {k : Key} {d : D} {v : V} (r : Rep K β A H d v) : ∀ {acc : List (Key × D)} {kvs : List (Key × V)}, acc.map (·.1) = kvs.map (·.1) → Reps K β A H (acc.map (·.2)) (kvs.map (·.2)) →
    Reps K β A H ((acc.map fun p => if p.1 = k then (p.1, d) else p).map (·.2)) ((kvs.map fun p => if p.1 = k then (p.1, v) else p).map (·.2))
  | [], [], _, h => h
  | [], _ :: _, e, _ => by simp at e
  | _ :: _, [], e, _ => by simp at e
  | p :: acc, q :: kvs, e, h => by
    simp only [List.map_cons, List.cons.injEq] at e
    simp only [List.map_cons, Reps] at h
    obtain ⟨u, s, hu, h1, h2⟩ := h
    obtain ⟨rfl, rfl⟩ := List.cons.inj hu
    simp only [List.map_cons]
    refine Reps.cons ?_ (reps_put r e.2 h2)
    rw [e.1]
    by_cases hk : q.1 = k
    · rw [if_pos hk, if_pos hk]; exact r
    · rw [if_neg hk, if_neg hk]; exact h1
theorem any_keys {k : Key} : ∀ {acc : List (Key × D)} {kvs : List (Key × V)}, acc.map (·.1) = kvs.map (·.1) → (acc.any fun p => decide (p.1 = k)) = kvs.any fun p => decide (p.1 = k)
  | [], [], _ => rfl
  | [], _ :: _, e => by simp at e
  | _ :: _, [], e => by simp at e
  | p :: acc, q :: kvs, e => by
    simp only [List.map_cons, List.cons.injEq] at e
    simp only [List.any_cons, e.1, any_keys e.2]
theorem map_keep {α : Type} {k : Key} {d : α} : ∀ (acc : List (Key × α)), ((acc.map fun p => if p.1 = k then (p.1, d) else p).map (·.1)) = acc.map (·.1)
  | [] => rfl
  | p :: acc => by
    simp only [List.map_cons, map_keep acc]
    congr 1
    split <;> rfl
theorem RepKV.put {acc : List (Key × D)} {kvs : List (Key × V)} {k : Key} {d : D} {v : V} (h : RepKV K β A H acc kvs) (r : Rep K β A H d v) : RepKV K β A H (putD acc k d) (putK kvs k v) := by
  unfold putD putK
  rw [any_keys h.1]
  split
  · exact ⟨by rw [map_keep, map_keep]; exact h.1, reps_put r h.1 h.2⟩
  · refine ⟨by rw [List.map_append, List.map_append, h.1]; rfl, ?_⟩
    rw [List.map_append, List.map_append]
    exact h.2.append (Reps.one r)
theorem keyOf_rep {d : D} {v : V} {k : Key} (r : Rep K β A H d v) (e : keyOf d = some k) : v = kV k := by
  cases d <;> simp only [keyOf] at e <;> try (cases e; done)
  · simp only [Rep] at r; subst r; cases e; rfl
  · simp only [Rep] at r; obtain ⟨rfl, _⟩ := r; cases e; rfl
end
section
variable {mg : Str → Option Value} {T : Tb} {K : PySem.W.Frag} {W : WX} {σ : L2.St} {H : Hp} {Q : VK}
def turnK (Γ : Fns) (Cn : Str → Option D) (kx vx : IE) (tg : Tgt) (own : List (Str × Nat)) (σ : Sg) (x : D) (M : Mem) : Res (D × D) :=
  match asgT tg x (wipeG σ (own.map (·.2))) with
  | some σ' => (semE Γ Cn kx σ' M).bind fun y M1 => (semE Γ Cn vx σ' M1).bind fun z M2 => .ok (y, z) M2
  | none => .stuck
theorem dcomp_ok {Γ : Fns} {Cn : Str → Option D} {kx vx : IE} {tg : Tgt} {own : List (Str × Nat)} {kk : Kd} {ci : Sg → Mem → Res (List D)} {k1 k2 : Kd} (hk1 : k1 ≠ .br) (hk : k2 ≠ .br) (hsl : ∀ j ∈ tg.slots, j ∈ own.map (·.2))
    (h : tE mg T K W kk (fun σ M => (ci σ M).bind fun items M1 => (compKL (turnK Γ Cn kx vx tg own σ) items [] M1).bind fun kvs M2 => .ok (.dct (kvs.map fun p => keyD p.1) (kvs.map (·.2))) M2) σ H Q) :
    tDc (tI mg T K W true ci) (gOf K tg) (fun σ H Q => Q true H) (tE mg T K WF k1 (semE Γ Cn kx)) (tE mg T K WF k2 (semE Γ Cn vx)) (own.map (·.2)) σ H Q := by
  obtain ⟨β, A, M, ow, σd, R, p⟩ := h
  refine ⟨β, A, M, ow, σd, R, ?_⟩
  cases q : ci σd M with
  | exc c fs M' => dsimp only at p; rw [q] at p; exact p
  | stuck => dsimp only at p; rw [q] at p; exact p
  | ok items M1 =>
    dsimp only at p; rw [q] at p
    have p : Post mg T K W β (avo A ow) kk σ H Q ((compKL (turnK Γ Cn kx vx tg own σd) items [] M1).bind fun kvs M2 => .ok (.dct (kvs.map fun p => keyD p.1) (kvs.map (·.2))) M2) := p
    intro β1 J H1 e1 m1 F Dn hD
    have p := Post.later e1 p
    have R1 : RE K β1 A H1 M1 ow σd σ := R.mono e1 m1
    obtain ⟨nD, aD⟩ := R1.fresh hD
    let AD : Addr → Prop := fun a => A a ∨ a = Dn
    have gAD : ∀ a, AD a → H1 a ≠ none → A a := fun a z n => z.elim id fun z => by subst z; exact absurd hD n
    have gV : ∀ a, avo AD ow a → H1 a ≠ none → avo A ow a := fun a z n => z.elim (fun z => .inl (gAD a z n)) .inr
    have hDO : ∀ a, a = Dn → AD a := fun a z => .inr z
    have RD : ∀ {β2 : List Addr} {H2 : Hp} {M2 : Mem}, Ext β1 H1 β2 H2 → RepM β2 H2 M2 → H2 Dn ≠ none → RE K β2 AD H2 M2 ow σd σ := fun {β2 H2 M2} e m n =>
      R1.monoO (O := Nil) e (fun _ z => z.elim) m (fun a z => z.elim (fun z => e.dom a (R1.av a z)) fun z => by subst z; exact n) gAD
    refine ⟨fun i m Hc => m = items.length - i ∧ i ≤ items.length ∧ ∃ β2 M2 acc vs, Ext β1 H1 β2 Hc ∧ RepM β2 Hc M2 ∧ Hc Dn = some (.dK vs) ∧ Dn ∉ β2 ∧ RepKV K β2 (avo AD ow) Hc acc vs ∧
      Post mg T K W β1 (avo A ow) kk σ H1 Q ((compKL (turnK Γ Cn kx vx tg own σd) (items.drop i) acc M2).bind fun kvs M3 => .ok (.dct (kvs.map fun p => keyD p.1) (kvs.map (·.2))) M3), ⟨items.length, by simp, Nat.zero_le _, β1, M1, [], [], Ext.new hD, m1.new hD, upd_same, nD, RepKV.nil, ?_⟩, ?_⟩
    · simpa using p
    · rintro i m Hc ⟨rfl, hi, β2, M2, acc, vs, e2, m2, hDc, nD2, rA, pc⟩
      have rl : Rl true (avo A ow) β1 H1 (avo AD ow) β2 Hc := ⟨gV, e2⟩
      have R2 : RE K β2 AD Hc M2 ow σd σ := RD e2 m2 (by rw [hDc]; simp)
      by_cases hlt : i < items.length
      · refine .inr ⟨(F.go _ _ _ rl i hlt).1, fun Hn => ∃ β2 M2 acc vs, Ext β1 H1 β2 Hn ∧ RepM β2 Hn M2 ∧ Hn Dn = some (.dK vs) ∧ Dn ∉ β2 ∧ RepKV K β2 (avo AD ow) Hn acc vs ∧
          Post mg T K W β1 (avo A ow) kk σ H1 Q ((compKL (turnK Γ Cn kx vx tg own σd) (items.drop (i + 1)) acc M2).bind fun kvs M3 => .ok (.dct (kvs.map fun p => keyD p.1) (kvs.map (·.2))) M3), fun Hn hn => ⟨items.length - (i + 1), by omega, rfl, hlt, hn⟩, fun x Hy hy => ?_⟩
        obtain ⟨ey, my, d, hd, rd⟩ := (F.go _ _ _ rl i hlt).2 x Hy hy
        have rd := rd fun b hb => m2.live hb
        have e3 := e2.trans ey
        have R3 : RE K β2 AD Hy M2 ow σd σ := R2.mono ey (my _ m2)
        have hdrop : items.drop i = d :: items.drop (i + 1) := by
          obtain ⟨h1, h2⟩ := List.getElem?_eq_some_iff.mp hd
          rw [List.drop_eq_getElem_cons h1, h2]
        rw [hdrop] at pc
        have hDy : Hy Dn = some (.dK vs) := ey.keep _ _ hDc nD2 (fun _ z => by cases z) (fun z => z.elim)
        have rA3 : RepKV K β2 (avo AD ow) Hy acc vs := ⟨rA.1, rA.2.mono ey (fun _ z _ => z)⟩
        cases qa : asgT tg d (wipeG σd (own.map (·.2))) with
        | none =>
          have : turnK Γ Cn kx vx tg own σd d M2 = .stuck := by unfold turnK; rw [qa]
          simp only [compKL, this] at pc
          exact pc.elim
        | some σ' =>
          refine asg_ok tg d x _ σ' _ _ (R3.wipe (own.map (·.2))) rd qa fun σ2 RA s2 => ⟨?_, ?_⟩
          · have hs : Same2 (own.map (·.2)) (L2.wipe σ (own.map (·.2))) σ2 := ⟨s2.1, fun j n => s2.2 j fun z => n (hsl j z)⟩
            rw [wipe_same hs, wipe_wipe]
          · show if true = true then _ else _
            rw [if_pos rfl]
            refine ⟨β2, AD, M2, ow, σ', RA, ?_⟩
            have tu : turnK Γ Cn kx vx tg own σd d M2 = (semE Γ Cn kx σ' M2).bind fun y M1 => (semE Γ Cn vx σ' M1).bind fun z M2 => .ok (y, z) M2 := by unfold turnK; rw [qa]
            cases qb : semE Γ Cn kx σ' M2 with
            | stuck =>
              simp only [compKL, tu, qb, Res.bind] at pc
              exact pc.elim
            | exc c fs M' =>
              simp only [compKL, tu, qb, Res.bind] at pc
              exact fun _ _ _ _ _ _ _ => pc.elim
            | ok y M3 =>
              intro β3 w3 H3 e4 m3 ry
              have RA3 := RA.mono e4 m3
              refine ⟨β3, AD, M3, ow, σ', RA3, ?_⟩
              cases qe : semE Γ Cn vx σ' M3 with
              | stuck =>
                simp only [compKL, tu, qb, qe, Res.bind] at pc
                exact pc.elim
              | exc c fs M' =>
                simp only [compKL, tu, qb, qe, Res.bind] at pc
                exact fun _ _ _ _ _ _ _ => pc.elim
              | ok z M4 =>
                intro β4 w H4 e6 m4 rw4
                simp only [compKL, tu, qb, qe, Res.bind] at pc
                cases qk : keyOf y with
                | none => rw [qk] at pc; exact pc.elim
                | some ky =>
                  rw [qk] at pc
                  by_cases hlen : acc.length < sizeLine
                  · simp only [if_pos hlen] at pc
                    have e7 := (e3.trans e4).trans e6
                    have hD4 : H4 Dn = some (.dK vs) := (e4.trans e6).keep _ _ hDy nD2 (fun _ z => by cases z) (fun z => z.elim)
                    have nD4 : Dn ∉ β4 := (e4.trans e6).notin (by rw [hDy]; simp) nD2
                    have rA5 : RepKV K β4 (avo AD ow) H4 acc vs := ⟨rA3.1, rA3.2.mono (e4.trans e6) (fun _ z _ => z)⟩
                    have ry5 := keyOf_rep (RepF.plain hk1 (fun a z => RA.avoLive z) ry) qk
                    have rw5 : Rep K β4 (avo AD ow) H4 z w := RepF.plain hk (fun a z => RA3.avoLive z) rw4
                    have wr : ExtO (fun a => a = Dn) β4 H4 β4 (upd H4 Dn (.dK (putK vs ky w))) := ExtO.writeK hD4
                    have rA6 := rA5.put (k := ky) rw5
                    refine ⟨vs, ky, ry5, hD4, by rw [← rA5.length]; exact hlen, β4, M4, putD acc ky z, putK vs ky w, e7.past hD wr, m4.upd nD4, upd_same, nD4, ⟨rA6.1, Reps.monoO wr (fun a z _ => .inl (hDO a z)) (fun _ z _ => z) _ _ rA6.2⟩, pc⟩
                  · simp only [if_neg hlen] at pc
                    exact pc.elim
      · have ei : i = items.length := by omega
        subst ei
        rw [List.drop_length] at pc
        simp only [compKL, Res.bind] at pc
        refine .inl ⟨F.stop _ _ _ rl _ (Nat.le_refl _), ?_⟩
        refine pc β2 (.ref Dn) Hc e2 m2 ?_
        have ks : acc.map (fun p => keyD p.1) = vs.map fun p => keyD p.1 := by
          have := congrArg (List.map keyD) rA.1
          rw [List.map_map, List.map_map] at this
          exact this
        have mk : ∀ A' : Addr → Prop, (∀ z, A' z → avo AD ow z) → Own K β2 A' Hc (.dct (acc.map fun p => keyD p.1) (acc.map (·.2))) Dn := fun A' hA => ⟨nD2, .inl ⟨vs, hDc, ks, rA.2.mono (Ext.refl _ _) fun z q _ => hA z q⟩⟩
        cases kk with
        | fr => exact ⟨Dn, rfl, hD, mk _ fun z q => q.elim (fun q => q.elim (fun q => .inl (.inl q)) .inr) fun q => .inl (.inr q)⟩
        | br => exact .inr ⟨Dn, rfl, mk _ fun z q => q.elim (fun z => .inl (.inl z)) .inr⟩
        | pl => exact (mk _ fun z q => q.elim (fun z => .inl (.inl z)) .inr).rep aD
end
end CT

namespace CT
open PySem PySem.Spec PyProof.Rows L2
section
variable {mg : Str → Option Value} {T : Tb} {K : PySem.W.Frag} {W : WX} {σ : L2.St} {H : Hp} {Q : VK} {QB : Bool → Hp → Prop} {kk : Kd} {ca cb cc : Sg → Mem → Res D}
/-! ### readings, value by value -/
theorem tE_bind {k1 : Kd} {f : D → Sg → Mem → Res D} (h : tE mg T K W kk (fun σ M => (ca σ M).bind fun x M1 => f x σ M1) σ H Q) :
    tE mg T K W k1 ca σ H fun v H1 => ∃ β A M ow σd x, RE K β A H1 M ow σd σ ∧ RepF k1 K β (avo A ow) H H1 x v ∧ (k1 ≠ .br → Rep K β (avo A ow) H1 x v) ∧ Post mg T K W β (avo A ow) kk σ H1 Q (f x σd M) := by
  obtain ⟨β, A, M, ow, σd, R, p⟩ := h
  refine ⟨β, A, M, ow, σd, R, ?_⟩
  cases q : ca σd M with
  | ok d M' =>
    dsimp only at p; rw [q] at p
    exact fun β' v H' e m r => ⟨β', A, M', ow, σd, d, R.mono e m, r, fun hk => RepF.plain hk (fun a z => R.avoLive z) r, Post.later e p⟩
  | exc c fs M' => dsimp only at p; rw [q] at p; exact p
  | stuck => dsimp only at p; rw [q] at p; exact p
theorem tT_bind {k1 : Kd} {f : D → Sg → Mem → Res D} (h : tT mg T K W (fun σ M => (ca σ M).bind fun x M1 => f x σ M1) σ H QB) :
    tE mg T K W k1 ca σ H fun v H1 => ∃ β A M ow σd x, RE K β A H1 M ow σd σ ∧ RepF k1 K β (avo A ow) H H1 x v ∧ PostT mg T K W β (avo A ow) σ H1 QB (f x σd M) := by
  obtain ⟨β, A, M, ow, σd, R, p⟩ := h
  refine ⟨β, A, M, ow, σd, R, ?_⟩
  cases q : ca σd M with
  | ok d M' =>
    dsimp only at p; rw [q] at p
    exact fun β' v H' e m r => ⟨β', A, M', ow, σd, d, R.mono e m, r, PostT.later e p⟩
  | exc c fs M' => dsimp only at p; rw [q] at p; exact p
  | stuck => dsimp only at p; rw [q] at p; exact p
/-- a test first -/
theorem tE_test {f : Bool → Sg → Mem → Res D} (h : tE mg T K W kk (fun σ M => (ca σ M).bind fun x M1 => match truD x with | some b => f b σ M1 | none => .stuck) σ H Q) :
    tT mg T K W ca σ H fun b H1 => tE mg T K W kk (f b) σ H1 Q := by
  obtain ⟨β, A, M, ow, σd, R, p⟩ := h
  refine ⟨β, A, M, ow, σd, R, ?_⟩
  cases q : ca σd M with
  | ok d M' =>
    dsimp only at p; rw [q] at p
    have p : Post mg T K W β (avo A ow) kk σ H Q (match truD d with | some b => f b σd M' | none => .stuck) := p
    cases qt : truD d with
    | none => rw [qt] at p; exact p.elim
    | some b =>
      rw [qt] at p
      exact ⟨b, qt, fun β' H' e m => ⟨β', A, M', ow, σd, R.mono e m, Post.later e p⟩⟩
  | exc c fs M' => dsimp only at p; rw [q] at p; exact p
  | stuck => dsimp only at p; rw [q] at p; exact p
theorem tT_test {f : D → Bool → Sg → Mem → Res D} (h : tT mg T K W (fun σ M => (ca σ M).bind fun x M1 => match truD x with | some b => f x b σ M1 | none => .stuck) σ H QB) :
    tT mg T K W ca σ H fun b H1 => ∃ x, truD x = some b ∧ tT mg T K W (f x b) σ H1 QB := by
  obtain ⟨β, A, M, ow, σd, R, p⟩ := h
  refine ⟨β, A, M, ow, σd, R, ?_⟩
  cases q : ca σd M with
  | ok d M' =>
    dsimp only at p; rw [q] at p
    have p : PostT mg T K W β (avo A ow) σ H QB (match truD d with | some b => f d b σd M' | none => .stuck) := p
    cases qt : truD d with
    | none => rw [qt] at p; exact p.elim
    | some b =>
      rw [qt] at p
      exact ⟨b, qt, fun β' H' e m => ⟨d, qt, β', A, M', ow, σd, R.mono e m, PostT.later e p⟩⟩
  | exc c fs M' => dsimp only at p; rw [q] at p; exact p
  | stuck => dsimp only at p; rw [q] at p; exact p
theorem tT_now {x : D} {b : Bool} (e : truD x = some b) (h : tT mg T K W (fun _ M => .ok x M) σ H QB) : QB b H := by
  obtain ⟨β, A, M, ow, σd, R, b', e', p⟩ := h
  rw [e] at e'
  cases e'
  exact p β H (Ext.refl _ _) R.mem
theorem tE_mono {Q' : VK} (h : tE mg T K W kk ca σ H Q) (i : ∀ v H', Q v H' → Q' v H') : tE mg T K W kk ca σ H Q' := by
  obtain ⟨β, A, M, ow, σd, R, p⟩ := h
  refine ⟨β, A, M, ow, σd, R, ?_⟩
  cases q : ca σd M with
  | ok d M' => rw [q] at p; exact fun β' v H' e m r => i _ _ (p β' v H' e m r)
  | exc c fs M' => rw [q] at p; exact p
  | stuck => rw [q] at p; exact p
theorem tT_mono {Q' : Bool → Hp → Prop} (h : tT mg T K W ca σ H QB) (i : ∀ v H', QB v H' → Q' v H') : tT mg T K W ca σ H Q' := by
  obtain ⟨β, A, M, ow, σd, R, p⟩ := h
  refine ⟨β, A, M, ow, σd, R, ?_⟩
  cases q : ca σd M with
  | ok d M' =>
    rw [q] at p
    obtain ⟨b, e, p⟩ := p
    exact ⟨b, e, fun β' H' e m => i _ _ (p β' H' e m)⟩
  | exc c fs M' => rw [q] at p; exact p
  | stuck => rw [q] at p; exact p
/-- a slice's part -/
def tO (mg : Str → Option Value) (T : Tb) (K : PySem.W.Frag) (W : WX) (cs : Sg → Mem → Res (List D)) : TO := fun σ H Q =>
  ∃ β A M ow σd, RE K β A H M ow σd σ ∧ match cs σd M with
    | .ok l M' => ∃ p, partD l = some p ∧ ∀ β' H', Ext β H β' H' → RepM β' H' M' → Q p H'
    | .exc c fs M' => ∀ β' cls dx H', Ext β H β' H' → RepM β' H' M' → XRep mg T K β' (avo A ow) H' c fs cls dx → W cls dx σ H'
    | .stuck => False
theorem po_imp {X : Cx} {e : Option Expr} {t t' : TO} (h : PO X e t) (i : ∀ σ H Q, t' σ H Q → t σ H Q) : PO X e t' := ⟨fun pins s σ H Q I q => h.run pins s σ H Q I (i σ H Q q)⟩
theorem po_nil {X : Cx} {Γ : Fns} {Cn : Str → Option D} : PO X none (tO mg T K W (semEs Γ Cn [])) := po_imp po_none fun σ H Q q => by
  obtain ⟨β, A, M, ow, σd, R, p⟩ := q
  obtain ⟨p, e, q⟩ := p
  cases e
  exact q β H (Ext.refl _ _) R.mem
theorem po_one {X : Cx} {Γ : Fns} {Cn : Str → Option D} {i : IE} {e : Expr} {k1 : Kd} (h : PE X e (tE mg T K W k1 (semE Γ Cn i))) : PO X (some e) (tO mg T K W (semEs Γ Cn [i])) := po_imp (po_some h) fun σ H Q q => by
  obtain ⟨β, A, M, ow, σd, R, p⟩ := q
  refine ⟨β, A, M, ow, σd, R, ?_⟩
  cases q : semE Γ Cn i σd M with
  | ok d M' =>
    simp only [semEs, q, Res.bind] at p
    obtain ⟨o, e, p⟩ := p
    intro β' v H' e' m r
    obtain ⟨i, rfl⟩ : ∃ i, d = .int i := by cases d <;> first | exact ⟨_, rfl⟩ | (simp [partD] at e)
    have := repW_int r.weak; subst this
    cases e
    exact ⟨_, rfl, p β' H' e' m⟩
  | exc c fs M' =>
    simp only [semEs, q, Res.bind] at p
    exact p
  | stuck => simp only [semEs, q, Res.bind] at p
theorem rdSl {k1 : Kd} {cl ch : Sg → Mem → Res (List D)} {r : V → Option Int → Option Int → Hp → VK → Prop}
    (hop : ∀ β A ow M H1 σd x v p q, RE K β A H1 M ow σd σ → RepW K β (avo A ow) H1 x v → Post mg T K W β (avo A ow) kk σ H1 Q (.of (cutD x p q) M) → r v p q H1 Q)
    (h : tE mg T K W kk (fun σ M => (ca σ M).bind fun x M1 => (cl σ M1).bind fun l M2 => match partD l with | some p => (ch σ M2).bind fun h M3 => (match partD h with | some q => .of (cutD x p q) M3 | none => .stuck) | none => .stuck) σ H Q) :
    tSl r (tE mg T K W k1 ca) (tO mg T K W cl) (tO mg T K W ch) σ H Q := by
  obtain ⟨β, A, M, ow, σd, R, p⟩ := h
  refine ⟨β, A, M, ow, σd, R, ?_⟩
  dsimp only at p
  cases q : ca σd M with
  | exc c fs M' => rw [q] at p; exact p
  | stuck => rw [q] at p; exact p
  | ok x M1 =>
    simp only [q, Res.bind] at p
    intro β1 v H1 e1 m1 rx
    have R1 := R.mono e1 m1
    have p := Post.later e1 p
    refine ⟨β1, A, M1, ow, σd, R1, ?_⟩
    cases ql : cl σd M1 with
    | exc c fs M' => simp only [ql] at p; exact p
    | stuck => simp only [ql] at p; exact p
    | ok l M2 =>
      simp only [ql] at p
      cases pl : partD l with
      | none => simp only [pl] at p; exact p.elim
      | some p1 =>
        simp only [pl] at p
        refine ⟨p1, pl, fun β2 H2 e2 m2 => ?_⟩
        have R2 := R1.mono e2 m2
        have p := Post.later e2 p
        refine ⟨β2, A, M2, ow, σd, R2, ?_⟩
        cases qh : ch σd M2 with
        | exc c fs M' => simp only [qh] at p; exact p
        | stuck => simp only [qh] at p; exact p
        | ok h M3 =>
          simp only [qh] at p
          cases ph : partD h with
          | none => simp only [ph] at p; exact p.elim
          | some p2 =>
            simp only [ph] at p
            refine ⟨p2, ph, fun β3 H3 e3 m3 => ?_⟩
            exact hop β3 A ow M3 H3 σd x v p1 p2 (R2.mono e3 m3) ((rx.weak.mono e2).mono e3) (Post.later e3 p)
/-- a value's own truth, told of a value's reading -/
theorem postT_bl {β : List Addr} {A : Addr → Prop} {ow : Nat → Option Addr} {σd : Sg} {M : Mem} {b : Bool} (R : RE K β A H M ow σd σ) (h : PostT mg T K W β (avo A ow) σ H QB (.ok (.bl b) M)) : QB b H := by
  obtain ⟨b', e, p⟩ := h
  cases e
  exact p β H (Ext.refl _ _) R.mem
end
section
variable {X : Cx} {a b c : Expr} {ta tb tc : TT} {pos : Pos}
theorem pt_ife (hc : PT X c tc) (ha : PT X a ta) (hb : PT X b tb) : PT X (.IfExp c a b pos) (fun σ H Q => tc σ H fun k H1 => if k = true then ta σ H1 Q else tb σ H1 Q) := by
  refine ⟨fun pins s σ H Q I h => ?_⟩
  show wpAny _ _ (do if ← isTrue c X.env (eval c X.env) then isTrue a X.env (eval a X.env) else isTrue b X.env (eval b X.env)) _ _ s
  refine wpAny_bind (thn (hc.run pins s σ H _ I h) fun d s1 ⟨H1, I1, q1⟩ => ?_)
  cases d with
  | true => exact ha.run pins s1 σ H1 Q I1 q1
  | false => exact hb.run pins s1 σ H1 Q I1 q1
end
/-- whether a test is read by its value's truth -/
def byTruth : Expr → Bool
  | .UnaryOp .Not _ _ => false
  | .BoolOp _ _ _ => false
  | .IfExp _ _ _ _ => false
  | .Compare _ _ _ _ => false
  | _ => true
theorem truth_he {e : Expr} {env : Env} (h : byTruth e = true) : ∀ whole, isTrue e env whole = (do let v ← whole; standAt e.pos; holding [v] (truthy v)) := by
  intro whole
  cases e with
  | UnaryOp op x p => cases op <;> first | rfl | (simp [byTruth] at h)
  | BoolOp _ _ _ => simp [byTruth] at h
  | IfExp _ _ _ _ => simp [byTruth] at h
  | Compare _ _ _ _ => simp [byTruth] at h
  | _ => rfl
end CT

namespace CT
open PySem PySem.Spec PyProof.Rows L2
section
variable {X : Cx} {T : Tb} {Γ : Fns} {k : Nat} {cm : Bool} {sc : Scope} {N : List Str} {W : WX}
/-! ### sources -/
theorem semI_one {Cn : Str → Option D} {s : IE} {g : SK} {σ : Sg} {M : Mem} : semI Γ Cn g [s] σ M = (semE Γ Cn s σ M).bind fun x M1 => .of (srcD g [x]) M1 := by
  unfold semI
  simp only [semEs]
  cases semE Γ Cn s σ M <;> rfl
theorem ofOk {α : Type} {o : Option α} {M : Mem} {P : Res α → Prop} (h : P (.of o M)) (hs : ¬ P .stuck) : ∃ a, o = some a := by
  cases o with
  | some a => exact ⟨a, rfl⟩
  | none => exact absurd h hs
theorem pi_any {s : IE} {i t : Expr} {bw : Bool} {kk : Kd} (hk : kk = if bw then .br else .pl) (he : PE X i (tE X.mg T X.K W kk (semE Γ T.Cn s))) : PI X t i (tI X.mg T X.K W bw (semI Γ T.Cn .any [s])) := by
  refine pi_imp (pi_or (pi_list he) (pi_or (pi_tup he) (pi_str he))) fun σ H R h => ?_
  obtain ⟨β, A, M, ow, σd, RR, p⟩ := h
  rw [semI_one] at p
  cases q : semE Γ T.Cn s σd M with
  | stuck => rw [q] at p; exact p.elim
  | exc c fs M' =>
    rw [q] at p
    exact .inl ⟨β, A, M, ow, σd, RR, by rw [q]; exact p⟩
  | ok d M' =>
    rw [q] at p
    have p : PostI X.mg T X.K W β (avo A ow) bw σ H R (.of (srcD .any [d]) M') := p
    have key : ∀ {β' : List Addr} {v : V} {H' : Hp}, RepF kk X.K β' (avo A ow) H H' d v → ItemAt bw X.K β' (avo A ow) H' d v := fun {β' v H'} r => by
      subst hk
      cases bw with
      | true => exact r
      | false => exact r
    cases d with
    | lst ds =>
      refine .inl ⟨β, A, M, ow, σd, RR, ?_⟩
      rw [q]
      intro β' v H' e m r
      obtain ⟨a, vs, rfl, t, n, na, rr⟩ := itemAt_lst (key r)
      exact ⟨a, rfl, ⟨vs, .inl (.inl t)⟩, p β' _ H' e m (feeds_lst t n na rr)⟩
    | tup ds =>
      refine .inr (.inl ⟨β, A, M, ow, σd, RR, ?_⟩)
      rw [q]
      intro β' v H' e m r
      obtain ⟨a, vs, rfl, t, rr⟩ := repW_tup (itemAt_w (key r))
      exact ⟨a, rfl, ⟨vs, t.sq⟩, p β' _ H' e m (feeds_tup t rr)⟩
    | str z =>
      refine .inr (.inr ⟨β, A, M, ow, σd, RR, ?_⟩)
      rw [q]
      intro β' v H' e m r
      obtain ⟨rfl, hz⟩ := repW_str (itemAt_w (key r))
      exact ⟨z, rfl, p β' _ H' e m (feeds_str hz)⟩
    | _ => exact p.elim
/-- a call's source -/
theorem pi_args {src : List IE} {t : List V → Hp → (It → Hp → Prop) → Prop} {g : SK} {bw : Bool} {kk : Kd} {tg i : Expr} (h : PI X tg i (fun σ H R => tA X.mg T X.K W kk (semEs Γ T.Cn src) σ H fun vs H1 => t vs H1 R))
    (hop : ∀ σ R β A ow M H1 σd xs vs, RE X.K β A H1 M ow σd σ → RepsK kk X.K β (avo A ow) H1 xs vs → PostI X.mg T X.K W β (avo A ow) bw σ H1 R (.of (srcD g xs) M) → t vs H1 R) : PI X tg i (tI X.mg T X.K W bw (semI Γ T.Cn g src)) :=
  pi_imp h fun σ H R q => tI_list (hop σ R) q

theorem srcD_r1 {xs items : List D} (e : srcD .range1 xs = some items) : ∃ n, xs = [.int n] ∧ in62 n = true ∧ items = rangeL 0 n := by
  rcases xs with _ | ⟨x, _ | ⟨y, r⟩⟩
  · simp [srcD] at e
  · cases x <;> simp [srcD] at e
    exact ⟨_, rfl, e.1, e.2.symm⟩
  · cases x <;> simp [srcD] at e
theorem srcD_r2 {xs items : List D} (e : srcD .range2 xs = some items) : ∃ n m, xs = [.int n, .int m] ∧ in62 n = true ∧ in62 m = true ∧ items = rangeL n m := by
  rcases xs with _ | ⟨x, _ | ⟨y, _ | ⟨z, r⟩⟩⟩
  · simp [srcD] at e
  · cases x <;> simp [srcD] at e
  · cases x <;> cases y <;> simp [srcD] at e
    exact ⟨_, _, rfl, e.1.1, e.1.2, e.2.symm⟩
  · cases x <;> cases y <;> simp [srcD] at e
theorem srcD_en {xs items : List D} (e : srcD .enum xs = some items) : (∃ ds, xs = [.lst ds] ∧ items = enumL 0 ds) ∨ ∃ ds, xs = [.tup ds] ∧ items = enumL 0 ds := by
  rcases xs with _ | ⟨x, _ | ⟨y, r⟩⟩
  · simp [srcD] at e
  · cases x <;> simp [srcD] at e
    · exact .inr ⟨_, rfl, e.symm⟩
    · exact .inl ⟨_, rfl, e.symm⟩
  · cases x <;> simp [srcD] at e
theorem srcD_zp {xs items : List D} (e : srcD .zip xs = some items) : (∃ ds es, xs = [.lst ds, .lst es] ∧ items = zipL ds es) ∨ ∃ ds es, xs = [.tup ds, .tup es] ∧ items = zipL ds es := by
  rcases xs with _ | ⟨x, _ | ⟨y, _ | ⟨z, r⟩⟩⟩
  · simp [srcD] at e
  · cases x <;> simp [srcD] at e
  · cases x <;> cases y <;> simp [srcD] at e
    · exact .inr ⟨_, _, rfl, e.symm⟩
    · exact .inl ⟨_, _, rfl, e.symm⟩
  · cases x <;> cases y <;> simp [srcD] at e
theorem sndI {src : List IE} {bw : Bool} {kk : Kd} (C : CxOk X T Γ k cm sc N) (hk : kk = if bw then .br else .pl) (g : SK) (t i : Expr) (hm : mSrc T N cm sc g src t i = true)
    (he : ∀ s, src = [s] → mE T N cm sc s i = true → PE X i (tE X.mg T X.K W kk (semE Γ T.Cn s))) (ha : ∀ es, mEs T N cm sc src es = true → PA X es (tA X.mg T X.K W kk (semEs Γ T.Cn src))) :
    PI X t i (tI X.mg T X.K W bw (semI Γ T.Cn g src)) := by
  have star : ∀ {e : Expr} {es : List Expr}, mEs T N cm sc src (e :: es) = true → starEach (e :: es) X.env = (false, eval e X.env) :: starEach es X.env ∧ es.all notStar = true := fun {e es} h => by
    have := mEs_star h
    simp only [List.all_cons, Bool.and_eq_true] at this
    exact ⟨star_cons this.1, this.2⟩
  cases g with
  | any =>
    simp only [mSrc, Bool.and_eq_true] at hm
    cases src with
    | nil => simp [mEs] at hm
    | cons s r =>
      cases r with
      | cons _ _ => simp [mEs] at hm
      | nil =>
        simp only [mEs, Bool.and_eq_true] at hm
        exact pi_any hk (he s rfl hm.2.1)
  | range1 =>
    simp only [mSrc] at hm
    split at hm
    · rename_i y p a pos
      simp only [Bool.and_eq_true, decide_eq_true_eq] at hm
      obtain ⟨⟨rfl, h2⟩, h3⟩ := hm
      have s := star h3
      refine pi_args (pi_range1 (glb_of C.sc h2) (mem_blt C (by decide +kernel)) (ha _ h3) s.1) fun σ R β A ow M H1 σd xs vs RR r p => ?_
      obtain ⟨items, e⟩ := ofOk (P := PostI X.mg T X.K W β (avo A ow) bw σ H1 R) p (fun z => z)
      have p := postI_some e p
      have pr := itemsAt hk r
      obtain ⟨n, rfl, h62, rfl⟩ := srcD_r1 e
      cases pr with
      | cons r1 r2 =>
        cases r2
        have := repW_int (itemAt_w r1); subst this
        simp only [in62, decide_eq_true_eq] at h62
        refine ⟨n, rfl, h62.1, h62.2, p β _ H1 (Ext.refl _ _) RR.mem ?_⟩
        have := feeds_rng (bw := bw) (K := X.K) (A := avo A ow) (β := β) (H := H1) (lo := 0) (n := n.toNat)
        unfold rangeL
        rw [Int.sub_zero]
        exact this
    · cases hm
  | range2 =>
    simp only [mSrc] at hm
    split at hm
    · rename_i y p a b pos
      simp only [Bool.and_eq_true, decide_eq_true_eq] at hm
      obtain ⟨⟨rfl, h2⟩, h3⟩ := hm
      have s := star h3
      have s2 : starEach [b] X.env = [(false, eval b X.env)] := by
        have := s.2
        simp only [List.all_cons, Bool.and_eq_true] at this
        exact star_cons this.1
      refine pi_args (pi_range2 (glb_of C.sc h2) (mem_blt C (by decide +kernel)) (ha _ h3) (by rw [s.1, s2]) s2) fun σ R β A ow M H1 σd xs vs RR r p => ?_
      obtain ⟨items, e⟩ := ofOk (P := PostI X.mg T X.K W β (avo A ow) bw σ H1 R) p (fun z => z)
      have p := postI_some e p
      have pr := itemsAt hk r
      obtain ⟨n, m, rfl, h62, h63, rfl⟩ := srcD_r2 e
      cases pr with
      | cons r1 r2 =>
        cases r2 with
        | cons r2 r3 =>
          cases r3
          have := repW_int (itemAt_w r1); subst this
          have := repW_int (itemAt_w r2); subst this
          simp only [in62, decide_eq_true_eq] at h62 h63
          refine ⟨n, m, rfl, ⟨h62.1, h62.2, h63.1, h63.2⟩, p β _ H1 (Ext.refl _ _) RR.mem ?_⟩
          exact feeds_rng
    · cases hm
  | enum => simp [mSrc] at hm
  | zip =>
    simp only [mSrc] at hm
    split at hm
    · rename_i y p a b pos
      simp only [Bool.and_eq_true, decide_eq_true_eq] at hm
      obtain ⟨⟨⟨rfl, h2⟩, h3⟩, h4⟩ := hm
      have s := star h3
      cases t <;> simp only [isTup] at h4 <;> try (cases h4; done)
      refine pi_args (RZ.pi_zipA (glb_of C.sc h2) (mem_blt C (by decide +kernel)) (ha _ h3) s.1 (star_none s.2)) fun σ R β A ow M H1 σd xs vs RR r p => ?_
      obtain ⟨items, e⟩ := ofOk (P := PostI X.mg T X.K W β (avo A ow) bw σ H1 R) p (fun z => z)
      have p := postI_some e p
      have pr := itemsAt hk r
      rcases srcD_zp e with ⟨ds, es, rfl, rfl⟩ | ⟨ds, es, rfl, rfl⟩
      · cases pr with
        | cons r1 r2 =>
          cases r2 with
          | cons r2 r3 =>
            cases r3
            obtain ⟨a1, vs, rfl, t1, n1, na1, rr1⟩ := itemAt_lst r1
            obtain ⟨a2, ws, rfl, t2, n2, na2, rr2⟩ := itemAt_lst r2
            exact ⟨a1, a2, vs, ws, rfl, .inl ⟨.inl (.inl t1), .inl (.inl t2), p β _ H1 (Ext.refl _ _) RR.mem (feeds_zipL t1 n1 na1 rr1 t2 n2 na2 rr2)⟩⟩
      · cases pr with
        | cons r1 r2 =>
          cases r2 with
          | cons r2 r3 =>
            cases r3
            obtain ⟨a1, vs, rfl, t1, rr1⟩ := repW_tup (itemAt_w r1)
            obtain ⟨a2, ws, rfl, t2, rr2⟩ := repW_tup (itemAt_w r2)
            exact ⟨a1, a2, vs, ws, rfl, .inr ⟨t1.sq, t2.sq, p β _ H1 (Ext.refl _ _) RR.mem (feeds_zipT t1 rr1 t2 rr2)⟩⟩
    · cases hm
end
end CT

namespace CT
open PySem PySem.Spec PyProof.Rows L2
section
variable {T : Tb} {Γ : Fns} {k : Nat} {cm : Bool} {N : List Str}
theorem CxOk.blk {X : Cx} {sc : Scope} (C : CxOk X T Γ k cm sc N) (s : Shared) (H : Hp) (scope : Scope) (A : Addr) (cl : List (Str × Addr)) (fp : List Addr) : CxOk (X.blk s H scope (compEnvC scope cl A X.env) fp) T Γ k cm (relS scope sc) N :=
  ⟨C.n, C.nd, by rw [← C.sc]; rfl, C.calm, C.room, C.un, C.fx, fun h1 h2 => let l := C.lam h1 h2; ⟨l.mE, l.room, l.tab⟩⟩
theorem locB_of {X : Cx} {df : Bool} {sc : Scope} {x : Str} (hs : X.env.scope = sc) (hf : df = true → X.fn x = true) (h : locB df sc x = true) : Loc X.env.scope x ∧ (X.fn x = true ∨ X.env.scope.names.lookup x = some .local) := by
  unfold locB at h
  rw [hs]
  split at h
  · rename_i q
    exact ⟨.inl q, .inr q⟩
  · rename_i q
    exact ⟨.inr q, .inl (hf h)⟩
  · cases h
theorem assign_len {env : Env} : ∀ {es : List Expr}, (assignEach es env).length = es.length
  | [] => rfl
  | e :: es => by
    have := assign_len (env := env) (es := es)
    cases e <;> simp [assignEach, this]
theorem assign_star {env : Env} : ∀ {es : List Expr}, es.all notStar = true → (assignEach es env).findIdx? (·.1) = none
  | [], _ => rfl
  | e :: es, h => by
    simp only [List.all_cons, Bool.and_eq_true] at h
    have := assign_star (env := env) (es := es) h.2
    cases e <;> first | (simp [notStar] at h; done) | simp [assignEach, List.findIdx?_cons, this]
theorem assign_cons {env : Env} {e : Expr} {es : List Expr} (h : notStar e = true) : (assignEach (e :: es) env).map (·.2) = assign e env :: (assignEach es env).map (·.2) := by
  cases e <;> first | rfl | (simp [notStar] at h)
mutual
theorem sndG : ∀ (t : Tgt) (X : Cx) (df : Bool) (sc : Scope) (e : Expr), X.N = N → N.Nodup → X.env.scope = sc → (df = true → ∀ x, X.fn x = true) → X.calm = true → mTg df sc N t e = true → PG X e (gOf X.K t)
  | .nm i, X, df, sc, e, hn, nd, hs, hf, hc, h => by
    unfold mTg at h
    split at h
    · rename_i q
      cases q
      rename_i x p
      simp only [Bool.and_eq_true, decide_eq_true_eq] at h
      obtain ⟨h1, h2⟩ := locB_of hs (fun z => hf z x) h.2
      exact pg_name (by rw [hn]; exact nd) (by rw [hn]; exact h.1) h1 h2
    · rename_i q; cases q
    · cases h
  | .tp ts, X, df, sc, e, hn, nd, hs, hf, hc, h => by
    unfold mTg at h
    split at h
    · rename_i q; cases q
    · rename_i q
      cases q
      rename_i es k p
      obtain ⟨h1, h2, h3⟩ := sndGs ts X df sc es hn nd hs hf hc h
      exact pg_tup hc h1 (by rw [assign_len, h2]) (assign_star h3)
    · cases h
theorem sndGs : ∀ (ts : List Tgt) (X : Cx) (df : Bool) (sc : Scope) (es : List Expr), X.N = N → N.Nodup → X.env.scope = sc → (df = true → ∀ x, X.fn x = true) → X.calm = true → mTgs df sc N ts es = true → PGs X es (gsOf X.K ts) ∧ es.length = ts.length ∧ es.all notStar = true
  | [], X, df, sc, es, hn, nd, hs, hf, hc, h => by
    cases es with
    | nil => exact ⟨pgs_nil, rfl, rfl⟩
    | cons _ _ => simp [mTgs] at h
  | t :: ts, X, df, sc, es, hn, nd, hs, hf, hc, h => by
    cases es with
    | nil => simp [mTgs] at h
    | cons e es =>
      simp only [mTgs, Bool.and_eq_true] at h
      obtain ⟨h1, h2, h3⟩ := sndGs ts X df sc es hn nd hs hf hc h.2
      exact ⟨pgs_cons (sndG t X df sc e hn nd hs hf hc h.1.2) h1 (assign_cons h.1.1), by simp [h2], by simp [h.1.1, h3]⟩
end
/-- the types' tuple of an isinstance -/
theorem snd_tys {X : Cx} {sc : Scope} (C : CxOk X T Γ k cm sc N) : ∀ (ts : List Ty) (es : List Expr), tysAre sc ts es = true → ∃ t, PA X es t ∧ es.all notStar = true ∧ ∀ σ H Q, Q (ts.map fun t => V.ty (tyName t)) H → t σ H Q
  | [], [], _ => ⟨_, pa_nil, rfl, fun _ _ _ q => q⟩
  | [], _ :: _, h => by simp [tysAre] at h
  | _ :: _, [], h => by simp [tysAre] at h
  | t :: ts, e :: es, h => by
    simp only [tysAre, Bool.and_eq_true] at h
    obtain ⟨u, h1, h2, h3⟩ := snd_tys C ts es h.2
    have ht := h.1
    unfold tyIs at ht
    split at ht
    · simp only [Bool.and_eq_true, decide_eq_true_eq] at ht
      obtain ⟨rfl, hg⟩ := ht
      refine ⟨_, pa_cons (pe_ty t (glb_of C.sc hg) (mem_blt C (by cases t <;> decide +kernel))) h1, by simp [notStar, h2], fun σ H Q q => ?_⟩
      exact h3 σ H _ q
    · cases ht
theorem clsVs : ∀ ts : List Ty, Paired ClsV (ts.map fun t => V.ty (tyName t)) (ts.map fun t => Value.type (tyName t))
  | [] => .nil
  | t :: ts => .cons (.ty _) (clsVs ts)
end
end CT

namespace CT
open PySem PySem.Spec PyProof.Rows L2
/-! ### list(zip(a, b)) -/
theorem wpAny_alive {M : Model} {A : Around} {E : Value → Shared → Prop} {s : Shared} {a : Addr} {Q : Option Obj → Shared → Prop} (h : Q (s.heap.get? a) s) : wpAny M A (loadIfAlive a) Q E s := fun Γ p _ => by
  unfold loadIfAlive
  rw [Sem.wp_loadIfAlive]
  exact (Sem.wp_pure ..).mpr h
abbrev ZipAt (h : Heap) (z TI TO : Addr) (f0 f1 : Value) : Prop :=
  h.get? z = some { cls := .type "zip", dict := none, data := .fields #[f0, f1, .bool false, .ref TI, .ref TO], slots := #[] }
/-- what is drawn from: lists, tuples -/
structure ZK (prog : Program) (w : World) where
  It : Heap → Addr → Addr → Nat → Prop
  Sq : Heap → Addr → Array Value → Prop
  draw : ∀ {A : Around} {E : Value → Shared → Prop} {s : Shared} {it l : Addr} {i : Nat} {items : Array Value} {x : Value} {Q : Value → Shared → Prop}, It s.heap it l i → Sq s.heap l items → items[i]? = some x →
    (∀ h', It h' it l (i + 1) → Heap.SameBut it s.heap h' → Q x { s with heap := h' }) → wpAny (model prog w) A (Builtin.SmallTypes.nextOf (.ref it)) Q E s
  fin : ∀ {A : Around} {E : Value → Shared → Prop} {s : Shared} {it l : Addr} {i : Nat} {items : Array Value} {Q : Value → Shared → Prop}, A.handled = none → It s.heap it l i → Sq s.heap l items → items[i]? = none →
    (∀ h' e, Heap.ExtBut it s.heap h' → (∃ o, h'.get? e = some o ∧ o.cls = .type "StopIteration") → E (.ref e) { s with heap := h' }) → wpAny (model prog w) A (Builtin.SmallTypes.nextOf (.ref it)) Q E s
  itAt : ∀ {h h' : Heap} {it l : Addr} {i : Nat}, It h it l i → (∀ o, h.get? it = some o → h'.get? it = some o) → It h' it l i
  sqAt : ∀ {h h' : Heap} {l : Addr} {xs : Array Value}, Sq h l xs → (∀ o, h.get? l = some o → h'.get? l = some o) → Sq h' l xs
  itO : ∀ {h : Heap} {it l : Addr} {i : Nat}, It h it l i → ∃ o, h.get? it = some o
  nx0 : ∀ {A : Around} {E : Value → Shared → Prop} {s : Shared} {z TI TO i1 i2 l1 l2 : Addr} {k1 k2 : Nat} {xs ys : Array Value} {x y a b : Value} {Q : Option Value → Shared → Prop}, ZipApart z TI TO i1 i2 l1 l2 →
    ZipAt s.heap z TI TO .none (.bool false) → IsPair s.heap TI (.ref i1) (.ref i2) → IsPair s.heap TO a b → It s.heap i1 l1 k1 → It s.heap i2 l2 k2 → Sq s.heap l1 xs → Sq s.heap l2 ys → xs[k1]? = some x → ys[k2]? = some y →
    (∀ h', ZipAt h' z TI TO (rawInt s.heap.objs.size) (.bool false) → IsPair h' TO x y → It h' i1 l1 (k1 + 1) → It h' i2 l2 (k2 + 1) → IsPair h' s.heap.objs.size x y → h'.objs.size = s.heap.objs.size + 1 →
      (∀ c o, c ≠ z → c ≠ TO → c ≠ i1 → c ≠ i2 → s.heap.get? c = some o → h'.get? c = some o) → Q (some (.ref s.heap.objs.size)) { s with heap := h' }) → wpAny (model prog w) A (pyNext (.ref z)) Q E s
  nxE : ∀ {A : Around} {E : Value → Shared → Prop} {s : Shared} {z TI TO i1 i2 l1 l2 : Addr} {k1 k2 : Nat} {xs ys : Array Value} {a b : Value} {Q : Option Value → Shared → Prop}, A.handled = none → ZipApart z TI TO i1 i2 l1 l2 →
    ZipAt s.heap z TI TO .none (.bool false) → IsPair s.heap TI (.ref i1) (.ref i2) → IsPair s.heap TO a b → It s.heap i1 l1 k1 → It s.heap i2 l2 k2 → Sq s.heap l1 xs → Sq s.heap l2 ys → (xs[k1]? = none ∨ ys[k2]? = none) →
    (∀ h', (∀ c o, c ≠ z → c ≠ TO → c ≠ i1 → c ≠ i2 → s.heap.get? c = some o → h'.get? c = some o) → Q none { s with heap := h' }) → wpAny (model prog w) A (pyNext (.ref z)) Q E s
section
variable {prog : Program} {w : World} {A : Around} {E : Value → Shared → Prop} {s : Shared}
theorem owned_busy {z TI TO T : Addr} {bb : Bool} {oT : Obj} {Q : Bool → Shared → Prop} (hz : ZipAt s.heap z TI TO (rawInt T) (.bool bb)) (hT : s.heap.get? T = some oT)
    (hQ : ∀ h₁, ZipAt h₁ z TI TO (rawInt T) (.bool true) → Heap.SameBut z s.heap h₁ → Q false { s with heap := h₁ }) : wpAny (model prog w) A (Builtin.SmallTypes.ownedTupleIsFree (.ref z)) Q E s := by
  unfold Builtin.SmallTypes.ownedTupleIsFree
  refine wpAny_bind (wpAny_field hz rfl (x := rawInt T) rfl ?_)
  refine wpAny_bind (wpAny_alive ?_)
  rw [Int.toNat_natCast, hT]
  simp only [Option.isNone_some, Bool.false_eq_true, if_false]
  refine wpAny_bind (wpAny_field hz rfl (x := .bool bb) rfl ?_)
  cases bb with
  | false =>
    show wpAny _ _ (setField (.ref z) 1 (.bool true) >>= fun _ => pure false) _ _ _
    exact wpAny_bind (wpAny_setField_rec hz (by simp) fun h₁ hz₁ hs₁ => wpAny_pure (hQ h₁ hz₁ hs₁))
  | true => exact wpAny_pure (hQ s.heap hz ⟨rfl, fun _ _ => rfl⟩)
theorem plain_next (Z : ZK prog w) {z TI TO i1 i2 l1 l2 T : Addr} {k1 k2 : Nat} {xs ys : Array Value} {x y : Value} {bb : Bool} {oT : Obj} {Q : Value → Shared → Prop} (D : ZipApart z TI TO i1 i2 l1 l2)
    (hz : ZipAt s.heap z TI TO (rawInt T) (.bool bb)) (hT : s.heap.get? T = some oT) (hTI : IsPair s.heap TI (.ref i1) (.ref i2))
    (h1 : Z.It s.heap i1 l1 k1) (h2 : Z.It s.heap i2 l2 k2) (hl1 : Z.Sq s.heap l1 xs) (hl2 : Z.Sq s.heap l2 ys) (hx : xs[k1]? = some x) (hy : ys[k2]? = some y)
    (hQ : ∀ h', ZipAt h' z TI TO (rawInt T) (.bool true) → Z.It h' i1 l1 (k1 + 1) → Z.It h' i2 l2 (k2 + 1) → IsPair h' s.heap.objs.size x y → h'.objs.size = s.heap.objs.size + 1 →
      (∀ c o, c ≠ z → c ≠ i1 → c ≠ i2 → s.heap.get? c = some o → h'.get? c = some o) → Q (.ref s.heap.objs.size) { s with heap := h' }) :
    wpAny (model prog w) A (Builtin.«zip.__next__» ⟨[.ref z], []⟩) (fun fin s' => ∃ v, fin = .done (.ret v) ∧ Q v s') E s := by
  show wpAny _ _ (field (.ref z) 2 >>= _) _ _ _
  refine wpAny_bind (wpAny_field hz rfl (x := .bool false) rfl ?_)
  show wpAny _ _ (field (.ref z) 3 >>= _) _ _ _
  refine wpAny_bind (wpAny_field hz rfl (x := .ref TI) rfl ?_)
  refine wpAny_bind (wpAny_seqItems hTI rfl ?_)
  show wpAny _ _ (Builtin.SmallTypes.ownedTupleIsFree (.ref z) >>= _) _ _ _
  refine wpAny_bind (owned_busy hz hT fun h₁ hz₁ hs₁ => ?_)
  simp only [Bool.false_eq_true, if_false]
  refine wpAny_bind ?_
  rw [← Array.forIn_toList]
  simp only [List.forIn_cons, List.forIn_nil]
  refine wpAny_bind (wpAny_bind (wpAny_holding ?_))
  show wpAny _ _ (Builtin.SmallTypes.nextOf (.ref i1) >>= _) _ _ _
  have k1' : ∀ c o, c ≠ z → s.heap.get? c = some o → h₁.get? c = some o := fun c o n e => hs₁.extBut _ _ n e
  refine wpAny_bind (Z.draw (s := { s with heap := h₁ }) (Z.itAt h1 fun o e => k1' _ o D.i1z e) (Z.sqAt hl1 fun o e => k1' _ o D.l1z e) hx fun h₂ h1₂ hs₂ => wpAny_pure ?_)
  refine wpAny_pure ?_
  dsimp only
  refine wpAny_bind (wpAny_bind (wpAny_holding ?_))
  show wpAny _ _ (Builtin.SmallTypes.nextOf (.ref i2) >>= _) _ _ _
  have k2' : ∀ c o, c ≠ z → c ≠ i1 → s.heap.get? c = some o → h₂.get? c = some o := fun c o n n' e => hs₂.extBut _ _ n' (k1' c o n e)
  refine wpAny_bind (Z.draw (s := { s with heap := h₂ }) (Z.itAt h2 fun o e => k2' _ o D.i2z D.i12.symm e) (Z.sqAt hl2 fun o e => k2' _ o D.l2z D.l2i1 e) hy fun h₃ h2₃ hs₃ => wpAny_pure ?_)
  have k3' : ∀ c o, c ≠ z → c ≠ i1 → c ≠ i2 → s.heap.get? c = some o → h₃.get? c = some o := fun c o n n' n2 e => hs₃.extBut _ _ n2 (k2' c o n n' e)
  refine wpAny_pure ?_
  dsimp only
  refine wpAny_pure ?_
  dsimp only
  refine wpAny_bind (wpAny_newTuple ?_ (by show 2 ≤ sizeLine; decide))
  have hsz : h₃.objs.size = s.heap.objs.size := by rw [hs₃.1, hs₂.1, hs₁.1]
  refine wpAny_pure ⟨_, rfl, ?_⟩
  show Q (.ref h₃.objs.size) _
  rw [hsz]
  have hz₃ : ZipAt h₃ z TI TO (rawInt T) (.bool true) := hs₃.extBut _ _ D.i2z.symm (hs₂.extBut _ _ D.i1z.symm hz₁)
  have hp : (h₃.push { cls := .type "tuple", data := .seq #[x, y] }).get? h₃.objs.size = some { cls := .type "tuple", data := .seq #[x, y] } := Heap.get?_push_size h₃ rfl
  rw [hsz] at hp
  refine hQ _ (Heap.get?_push_of_some _ hz₃) (Z.itAt h1₂ fun o e => Heap.get?_push_of_some _ (hs₃.extBut _ _ D.i12 e)) (Z.itAt h2₃ fun o e => Heap.get?_push_of_some _ e) hp (by rw [Heap.size_push, hsz]) fun c o n n' n2 e => Heap.get?_push_of_some _ (k3' c o n n' n2 e)
theorem plain_end (Z : ZK prog w) {z TI TO i1 i2 l1 l2 T : Addr} {k1 k2 : Nat} {xs ys : Array Value} {bb : Bool} {oT : Obj} {Q : PySem.Fin → Shared → Prop} (hh : A.handled = none) (D : ZipApart z TI TO i1 i2 l1 l2)
    (hz : ZipAt s.heap z TI TO (rawInt T) (.bool bb)) (hT : s.heap.get? T = some oT) (hTI : IsPair s.heap TI (.ref i1) (.ref i2))
    (h1 : Z.It s.heap i1 l1 k1) (h2 : Z.It s.heap i2 l2 k2) (hl1 : Z.Sq s.heap l1 xs) (hl2 : Z.Sq s.heap l2 ys) (hend : xs[k1]? = none ∨ ys[k2]? = none)
    (hE : ∀ h' e, (∀ c o, c ≠ z → c ≠ i1 → c ≠ i2 → s.heap.get? c = some o → h'.get? c = some o) → (∃ o, h'.get? e = some o ∧ o.cls = .type "StopIteration") → E (.ref e) { s with heap := h' }) :
    wpAny (model prog w) A (Builtin.«zip.__next__» ⟨[.ref z], []⟩) Q E s := by
  show wpAny _ _ (field (.ref z) 2 >>= _) _ _ _
  refine wpAny_bind (wpAny_field hz rfl (x := .bool false) rfl ?_)
  show wpAny _ _ (field (.ref z) 3 >>= _) _ _ _
  refine wpAny_bind (wpAny_field hz rfl (x := .ref TI) rfl ?_)
  refine wpAny_bind (wpAny_seqItems hTI rfl ?_)
  show wpAny _ _ (Builtin.SmallTypes.ownedTupleIsFree (.ref z) >>= _) _ _ _
  refine wpAny_bind (owned_busy hz hT fun h₁ hz₁ hs₁ => ?_)
  simp only [Bool.false_eq_true, if_false]
  refine wpAny_bind ?_
  rw [← Array.forIn_toList]
  simp only [List.forIn_cons, List.forIn_nil]
  refine wpAny_bind (wpAny_bind (wpAny_holding ?_))
  show wpAny _ _ (Builtin.SmallTypes.nextOf (.ref i1) >>= _) _ _ _
  have k1' : ∀ c o, c ≠ z → s.heap.get? c = some o → h₁.get? c = some o := fun c o n e => hs₁.extBut _ _ n e
  cases hx : xs[k1]? with
  | none =>
    exact wpAny_bind (Z.fin (s := { s with heap := h₁ }) hh (Z.itAt h1 fun o e => k1' _ o D.i1z e) (Z.sqAt hl1 fun o e => k1' _ o D.l1z e) hx fun h₂ e hs₂ he => hE h₂ e (fun c o n n' n2 x => hs₂ _ _ n' (k1' c o n x)) he)
  | some x =>
    have hy : ys[k2]? = none := by rcases hend with h | h; rw [hx] at h; cases h; exact h
    refine wpAny_bind (Z.draw (s := { s with heap := h₁ }) (Z.itAt h1 fun o e => k1' _ o D.i1z e) (Z.sqAt hl1 fun o e => k1' _ o D.l1z e) hx fun h₂ h1₂ hs₂ => wpAny_pure ?_)
    refine wpAny_pure ?_
    dsimp only
    refine wpAny_bind (wpAny_bind (wpAny_holding ?_))
    show wpAny _ _ (Builtin.SmallTypes.nextOf (.ref i2) >>= _) _ _ _
    have k2' : ∀ c o, c ≠ z → c ≠ i1 → s.heap.get? c = some o → h₂.get? c = some o := fun c o n n' e => hs₂.extBut _ _ n' (k1' c o n e)
    exact wpAny_bind (Z.fin (s := { s with heap := h₂ }) hh (Z.itAt h2 fun o e => k2' _ o D.i2z D.i12.symm e) (Z.sqAt hl2 fun o e => k2' _ o D.l2z D.l2i1 e) hy fun h₃ e hs₃ he => hE h₃ e (fun c o n n' n2 x => hs₃ _ _ n2 (k2' c o n n' x)) he)
def zkL : ZK prog w where
  It := Heap.IsListIter
  Sq := Heap.IsList
  draw := wpAny_nextOf_list_item
  fin := wpAny_nextOf_list_end
  itAt := fun h k => h.at k
  sqAt := fun h k => h.at k
  itO := fun ⟨o, e, _⟩ => ⟨o, e⟩
  nx0 := wpAny_pyNext_zip_item
  nxE := wpAny_pyNext_zip_end
def zkT : ZK prog w where
  It := Heap.IsTupleIter
  Sq := Heap.IsTuple
  draw := RZ.nextOf_tuple_item
  fin := RZ.nextOf_tuple_end
  itAt := fun h k => h.at k
  sqAt := fun h k => h.at k
  itO := fun ⟨o, e, _⟩ => ⟨o, e⟩
  nx0 := RZ.pyNext_zipT_item
  nxE := RZ.pyNext_zipT_end
/-- the iterator at its i-th turn -/
structure ZTurn (Z : ZK prog w) (z TI TO i1 i2 l1 l2 S : Addr) (xs ys : Array Value) (i : Nat) (h : Heap) : Prop where
  z0 : i = 0 → ZipAt h z TI TO .none (.bool false) ∧ ∃ a b, IsPair h TO a b
  zn : 0 < i → ∃ (T : Addr) (bb : Bool) (oT : Obj), ZipAt h z TI TO (rawInt T) (.bool bb) ∧ h.get? T = some oT ∧ T ∉ [S, z, TO, i1, i2]
  ti : IsPair h TI (.ref i1) (.ref i2)
  a1 : Z.It h i1 l1 i
  a2 : Z.It h i2 l2 i
  q1 : Z.Sq h l1 xs
  q2 : Z.Sq h l2 ys
theorem ZTurn.zo {Z : ZK prog w} {z TI TO i1 i2 l1 l2 S : Addr} {xs ys : Array Value} {i : Nat} {h : Heap} (t : ZTurn Z z TI TO i1 i2 l1 l2 S xs ys i h) : ∃ f0 f1, ZipAt h z TI TO f0 f1 := by
  rcases Nat.eq_zero_or_pos i with e | e
  · exact ⟨_, _, (t.z0 e).1⟩
  · obtain ⟨T, bb, oT, h1, _⟩ := t.zn e
    exact ⟨_, _, h1⟩
theorem ZTurn.next {Z : ZK prog w} {z TI TO i1 i2 l1 l2 S : Addr} {xs ys : Array Value} {i : Nat} {x y : Value} {Q : Option Value → Shared → Prop} (D : ZipApart z TI TO i1 i2 l1 l2) (hS : S ∉ [z, TI, TO, i1, i2, l1, l2]) (hSl : S < s.heap.objs.size) (hTO : TO < s.heap.objs.size)
    (t : ZTurn Z z TI TO i1 i2 l1 l2 S xs ys i s.heap) (hx : xs[i]? = some x) (hy : ys[i]? = some y)
    (hQ : ∀ h', ZTurn Z z TI TO i1 i2 l1 l2 S xs ys (i + 1) h' → IsPair h' s.heap.objs.size x y → h'.objs.size = s.heap.objs.size + 1 → s.heap.objs.size ∉ [S, z, TO, i1, i2] →
      (∀ c o, c ∉ [z, TO, i1, i2] → s.heap.get? c = some o → h'.get? c = some o) → Q (some (.ref s.heap.objs.size)) { s with heap := h' }) : wpAny (model prog w) A (pyNext (.ref z)) Q E s := by
  obtain ⟨f0, f1, hz⟩ := t.zo
  have hzl : z < s.heap.objs.size := Heap.lt_size hz
  have hi1 : i1 < s.heap.objs.size := let ⟨_, e⟩ := Z.itO t.a1; Heap.lt_size e
  have hi2 : i2 < s.heap.objs.size := let ⟨_, e⟩ := Z.itO t.a2; Heap.lt_size e
  have fr : s.heap.objs.size ∉ [S, z, TO, i1, i2] := by
    simp only [List.mem_cons, List.not_mem_nil, or_false, not_or]
    exact ⟨Nat.ne_of_gt hSl, Nat.ne_of_gt hzl, Nat.ne_of_gt hTO, Nat.ne_of_gt hi1, Nat.ne_of_gt hi2⟩
  rcases Nat.eq_zero_or_pos i with e | e
  · obtain ⟨hz, a, b, hTO'⟩ := t.z0 e
    refine Z.nx0 D hz t.ti hTO' t.a1 t.a2 t.q1 t.q2 hx hy fun h' b1 b2 b3 b4 b5 b6 b7 => ?_
    have k : ∀ c o, c ∉ [z, TO, i1, i2] → s.heap.get? c = some o → h'.get? c = some o := fun c o n q => by
      simp only [List.mem_cons, List.not_mem_nil, or_false, not_or] at n
      exact b7 c o n.1 n.2.1 n.2.2.1 n.2.2.2 q
    exact hQ h' ⟨fun q => absurd q (by omega), fun _ => ⟨_, _, _, b1, b5, fr⟩, b7 _ _ D.TIz D.TITO D.TIi1 D.TIi2 t.ti, b3, b4, Z.sqAt t.q1 fun o q => b7 _ o D.l1z D.l1TO D.l1i1 D.l1i2 q, Z.sqAt t.q2 fun o q => b7 _ o D.l2z D.l2TO D.l2i1 D.l2i2 q⟩ b5 b6 fr k
  · obtain ⟨T, bb, oT, hz, hT, nT⟩ := t.zn e
    have hTy : s.TypeIs (.ref z) "zip" := ⟨_, hz, rfl⟩
    have nT' := nT
    simp only [List.mem_cons, List.not_mem_nil, or_false, not_or] at nT'
    unfold pyNext
    refine wpAny_bind (wpAny_attempt (wpAny_callSpecial?_slot (name := Str.ofString "__next__") hTy F.slot_zip_next
      (wpAny_call_entry F.slot_zip_next hTy F.entry_zip_next (plain_next Z D hz hT t.ti t.a1 t.a2 t.q1 t.q2 hx hy fun h' b1 b3 b4 b5 b6 b7 => wpAny_pure ?_) (F.args_zip_next_1 _))))
    have k : ∀ c o, c ∉ [z, TO, i1, i2] → s.heap.get? c = some o → h'.get? c = some o := fun c o n q => by
      simp only [List.mem_cons, List.not_mem_nil, or_false, not_or] at n
      exact b7 c o n.1 n.2.2.1 n.2.2.2 q
    exact hQ h' ⟨fun q => absurd q (by omega), fun _ => ⟨T, _, oT, b1, b7 _ _ nT'.2.1 nT'.2.2.2.1 nT'.2.2.2.2 hT, nT⟩, b7 _ _ D.TIz D.TIi1 D.TIi2 t.ti, b3, b4, Z.sqAt t.q1 fun o q => b7 _ o D.l1z D.l1i1 D.l1i2 q, Z.sqAt t.q2 fun o q => b7 _ o D.l2z D.l2i1 D.l2i2 q⟩ b5 b6 fr k
theorem ZTurn.fin {Z : ZK prog w} {z TI TO i1 i2 l1 l2 S : Addr} {xs ys : Array Value} {i : Nat} {Q : Option Value → Shared → Prop} (hh : A.handled = none) (D : ZipApart z TI TO i1 i2 l1 l2)
    (t : ZTurn Z z TI TO i1 i2 l1 l2 S xs ys i s.heap) (hend : xs[i]? = none ∨ ys[i]? = none)
    (hQ : ∀ h', (∀ c o, c ∉ [z, TO, i1, i2] → s.heap.get? c = some o → h'.get? c = some o) → Q none { s with heap := h' }) : wpAny (model prog w) A (pyNext (.ref z)) Q E s := by
  rcases Nat.eq_zero_or_pos i with e | e
  · obtain ⟨hz, a, b, hTO'⟩ := t.z0 e
    refine Z.nxE hh D hz t.ti hTO' t.a1 t.a2 t.q1 t.q2 hend fun h' b7 => hQ h' fun c o n q => ?_
    simp only [List.mem_cons, List.not_mem_nil, or_false, not_or] at n
    exact b7 c o n.1 n.2.1 n.2.2.1 n.2.2.2 q
  · obtain ⟨T, bb, oT, hz, hT, nT⟩ := t.zn e
    have hTy : s.TypeIs (.ref z) "zip" := ⟨_, hz, rfl⟩
    unfold pyNext
    refine wpAny_bind (wpAny_attempt (wpAny_callSpecial?_slot (name := Str.ofString "__next__") hTy F.slot_zip_next
      (wpAny_call_entry F.slot_zip_next hTy F.entry_zip_next (plain_end Z hh D hz hT t.ti t.a1 t.a2 t.q1 t.q2 hend fun h' e b7 he => ?_) (F.args_zip_next_1 _))))
    obtain ⟨o, ho, hc⟩ := he
    refine wpAny_bind (wpAny_isInstance (T := "StopIteration") (b := true) ⟨o, ho, hc⟩ isSubtype_stop ?_)
    refine wpAny_pure (hQ _ fun c o n q => ?_)
    simp only [List.mem_cons, List.not_mem_nil, or_false, not_or] at n
    exact b7 c o n.1 n.2.2.1 n.2.2.2 q
end
end CT

namespace CT
open PySem PySem.Spec PyProof.Rows L2
theorem wpAny_pyIter_zipG {prog : Program} {w : World} {A : Around} {E : Value → Shared → Prop} {s : Shared} {z TI TO : Addr} {f0 f1 : Value} {Q : Value → Shared → Prop} (hz : ZipAt s.heap z TI TO f0 f1) (h : Q (.ref z) s) : wpAny (model prog w) A (pyIter (.ref z)) Q E s :=
  wpAny_pyIter_slot ⟨_, hz, rfl⟩ F.slot_zip_iter (wpAny_call_entry F.slot_zip_iter ⟨_, hz, rfl⟩ F.entry_zip_iter (show wpAny _ _ (ret (.ref z)) _ _ s from wpAny_pure ⟨_, rfl, "zip", _, ⟨_, hz, rfl⟩, F.slot_zip_next.lookup, h⟩) (F.args_zip_iter_1 _))
theorem zip_no_len : typeLookup (.type "zip") "__len__" = pure none := by rw [typeLookup_type, builtinLookup_eq_fast]; kernel_rfl
theorem zip_no_hint : typeLookup (.type "zip") "__length_hint__" = pure none := by rw [typeLookup_type, builtinLookup_eq_fast]; kernel_rfl
/-- the pairs so far, S the list -/
structure Prs (H1 H : Hp) (S : Addr) (xs ys vs : List V) (i : Nat) : Prop where
  new : H1 S = none
  lst : H S = some (.lst vs)
  len : vs.length = i
  old : ∀ c o, H1 c = some o → H c = some o
  it : ∀ j x y, j < i → xs[j]? = some x → ys[j]? = some y → ∃ T, vs[j]? = some (.ref T) ∧ H T = some (.tup [x, y]) ∧ H1 T = none
section
variable {X : Cx}
theorem turnedL {pins : List (Addr × Obj)} {σ : L2.St} {H : Hp} {s : Shared} {h' : Heap} {t' : Nat} {ch : List Addr} (I : Inv X pins σ H s) (k : ∀ b o, b ∉ ch → s.heap.get? b = some o → h'.get? b = some o) (hf : ∀ b ∈ ch, FpOk X pins H b) :
    Inv X pins σ H { s with heap := h', toks := t' } := by
  have nit : ∀ b u, H b = some u → b ∉ ch := fun b u e z => by
    have q := (hf b z).1
    rw [q] at e
    cases e
  refine I.step (ch := ch) (g' := s.gens) (d' := s.drawn)
    (fun b hb => ⟨(hf b hb).2.2.2.1, (hf b hb).2.1, (hf b hb).2.2.2.2.1, (hf b hb).2.2.2.2.2⟩)
    (fun b o _ _ hc e _ => k b o hc e) (fun b o _ _ hc e _ => ⟨o.slots, k b o hc e⟩) (fun b o _ e n => n) (fun b o hc e => ⟨o, k b o hc e⟩) (fun b xs e => e)
    (fun b o u e => e) (fun b ps e => ⟨#[], by rw [e]; simp⟩) (fun m hm => ?_) (fun b u e => ?_) I.bare
  · obtain ⟨o, es, ep, ho, r⟩ := hm
    exact ⟨o, es, ep, k _ o (fun z => (hf _ z).2.1 rfl) ho, r⟩
  · refine (I.hok b u e).stay (fun c v hc q => k c v (hc.elim (fun z => z ▸ nit b u e) fun z => nit c _ z) q) (fun _ q => q) fun _ _ q => q
theorem zip_loop (Z : ZK X.prog X.w) {z TI TO i1 i2 l1 l2 S : Addr} {A : Around} (hA : A.in1.handled = none) {xs ys : List V} {us ws : List Value} {H1 : Hp} {σ : L2.St} {pins : List (Addr × Obj)} {R : Result → Shared → Prop} (D : ZipApart z TI TO i1 i2 l1 l2) (hS : S ∉ [z, TI, TO, i1, i2, l1, l2])
    (rx : Vals xs us) (ry : Vals ys ws) (hn : min xs.length ys.length ≤ sizeLine) (res : Value) (hR : ∀ s' H' vs, Inv X pins σ H' s' → Prs H1 H' S xs ys vs (min xs.length ys.length) → R (.ok (.ret res)) s') :
    ∀ (k i : Nat) (s : Shared) (H : Hp) (vs : List V), min xs.length ys.length - i = k → i ≤ min xs.length ys.length → Inv X pins σ H s → Prs H1 H S xs ys vs i → ZTurn Z z TI TO i1 i2 l1 l2 S us.toArray ws.toArray i s.heap → TO < s.heap.objs.size → (∀ c ∈ [z, TO, i1, i2], FpOk X pins H c) →
      codeAny (model X.prog X.w) A (.builtin "list.extend.loop" ⟨[.ref S, .ref z, res], []⟩) R s := by
  have lx := rx.length
  have ly := ry.length
  intro k
  induction k with
  | zero =>
    intro i s H vs hk hi I pr t hTO hf
    have hin : i = min xs.length ys.length := by omega
    subst hin
    refine codeAny_builtin F.entry_extend_loop ?_
    rw [Around.under_plainId F.plain_extend_loop _]
    show wpAny _ A.in1 (pyNext (.ref z) >>= _) _ _ s
    refine wpAny_bind (t.fin hA D ?_ fun h' hk' => wpAny_pure (hR _ H vs (turnedL (t' := s.toks) I hk' hf) pr))
    rcases Nat.le_total xs.length ys.length with h | h
    · exact .inl (Array.getElem?_eq_none (by rw [List.size_toArray, ← lx]; omega))
    · exact .inr (Array.getElem?_eq_none (by rw [List.size_toArray, ← ly]; omega))
  | succ k ih =>
    intro i s H vs hk hi I pr t hTO hf
    have hix : i < xs.length := by omega
    have hiy : i < ys.length := by omega
    obtain ⟨u, hu, ru⟩ := rx.get (List.getElem?_eq_getElem hix)
    obtain ⟨v, hv, rv⟩ := ry.get (List.getElem?_eq_getElem hiy)
    obtain ⟨z0, its, n0, r0, hso, _⟩ := I.lstM pr.lst
    have hSl : S < s.heap.objs.size := I.hok.lt pr.lst
    refine codeAny_builtin F.entry_extend_loop ?_
    rw [Around.under_plainId F.plain_extend_loop _]
    show wpAny _ A.in1 (pyNext (.ref z) >>= _) _ _ s
    refine wpAny_bind (t.next D hS hSl hTO (x := u) (y := v) (by simpa using hu) (by simpa using hv) fun h' t' pT sz fr kk => ?_)
    have hTn : H s.heap.objs.size = none := I.hok.fresh (Nat.le_refl _)
    have new : ObjOk X.prog X.w (upd H s.heap.objs.size (.tup [xs[i], ys[i]])) h' s.heap.objs.size (.tup [xs[i], ys[i]]) := ⟨by show 2 ≤ sizeLine; decide, [u, v], .cons ru (.cons rv .nil), ⟨_, pT, rfl, _, rfl⟩⟩
    have I1 : Inv X pins σ (upd H s.heap.objs.size (.tup [xs[i], ys[i]])) { s with heap := h' } := I.turnedNew (t' := s.toks) (ch := [z, TO, i1, i2]) kk hf (Nat.le_refl _) new
    simp only [List.mem_cons, List.not_mem_nil, or_false, not_or] at fr
    have hS1 : (upd H s.heap.objs.size (.tup [xs[i], ys[i]])) S = some (.lst vs) := by rw [upd_ne (Nat.ne_of_lt hSl)]; exact pr.lst
    obtain ⟨z1, its1, n1, r1, hl1, e1⟩ := I1.lstM hS1
    show wpAny _ A.in1 (updateSeq S (·.push (.ref s.heap.objs.size)) >>= _) _ _ _
    have hi1 : its1.length = i := by rw [← r1.length, pr.len]
    have rnew : Vals (vs ++ [.ref s.heap.objs.size]) (its1 ++ [.ref s.heap.objs.size]) := r1.append (.cons rfl .nil)
    have I2 := I1.lset (its' := its1 ++ [.ref s.heap.objs.size]) (f := (·.push (.ref s.heap.objs.size))) (t' := s.toks) hS1 e1 (by simp) rnew (by rw [List.length_append, List.length_singleton, pr.len]; omega)
    refine wpAny_bind (wpAny_updateSeq e1 rfl (wpAny_pure ⟨plainId_quiet F.plain_extend_loop _, ih (i + 1) _ _ (vs ++ [.ref s.heap.objs.size]) (by omega) (by omega) I2 ⟨pr.new, upd_same, by rw [List.length_append, pr.len]; rfl, fun c o e => ?_, fun j x y hj hx hy => ?_⟩ ?_ ?_ fun c hc => ?_⟩) ?_ ?_)
    · have h1 : c ≠ S := fun q => by rw [q, pr.new] at e; cases e
      have h2 := pr.old c o e
      rw [upd_ne h1, upd_ne (ne_of_none h2 hTn)]; exact h2
    · by_cases hji : j < i
      · obtain ⟨T, t1, t2, t3⟩ := pr.it j x y hji hx hy
        have nS : T ≠ S := fun q => by rw [q, pr.lst] at t2; cases t2
        refine ⟨T, by rw [List.getElem?_append_left (by rw [pr.len]; exact hji)]; exact t1, ?_, t3⟩
        rw [upd_ne nS, upd_ne (ne_of_none t2 hTn)]; exact t2
      · have ej : j = i := by omega
        subst ej
        rw [List.getElem?_eq_getElem hix] at hx
        rw [List.getElem?_eq_getElem hiy] at hy
        cases hx; cases hy
        refine ⟨s.heap.objs.size, ?_, ?_, ?_⟩
        · rw [List.getElem?_append_right (by rw [pr.len]; exact Nat.le_refl _), pr.len, Nat.sub_self]; rfl
        · rw [upd_ne (Nat.ne_of_gt hSl), upd_same]
        · cases q : H1 s.heap.objs.size with
          | none => rfl
          | some o => exact absurd (pr.old _ o q) (by rw [hTn]; simp)
    · -- the iterator stays
      have keep : ∀ c o, c ≠ S → h'.get? c = some o → (h'.update S (Obj.mapSeq (·.push (.ref s.heap.objs.size)))).get? c = some o := fun c o q e => (Heap.get?_update_other _ _ (Ne.symm q)).trans e
      simp only [List.mem_cons, List.not_mem_nil, or_false, not_or] at hS
      refine ⟨fun q => absurd q (by omega), fun q => ?_, keep _ _ (Ne.symm hS.2.1) t'.ti, Z.itAt t'.a1 fun o e => keep _ o (Ne.symm hS.2.2.2.1) e, Z.itAt t'.a2 fun o e => keep _ o (Ne.symm hS.2.2.2.2.1) e, Z.sqAt t'.q1 fun o e => keep _ o (Ne.symm hS.2.2.2.2.2.1) e, Z.sqAt t'.q2 fun o e => keep _ o (Ne.symm hS.2.2.2.2.2.2) e⟩
      obtain ⟨T, bb, oT, g1, g2, g3⟩ := t'.zn q
      exact ⟨T, bb, oT, keep _ _ (Ne.symm hS.1) g1, keep _ _ (fun q => g3 (by rw [q]; exact List.mem_cons_self)) g2, g3⟩
    · show TO < (h'.update S _).objs.size
      rw [Heap.size_update, sz]
      exact Nat.lt_succ_of_lt hTO
    · obtain ⟨f0, f1⟩ := hf c hc
      refine ⟨?_, f1⟩
      have hc' : c = z ∨ c = TO ∨ c = i1 ∨ c = i2 := by simpa using hc
      have ncS : c ≠ S := fun q => by rw [q, pr.lst] at f0; cases f0
      have ncT : c ≠ s.heap.objs.size := by
        rcases hc' with q | q | q | q <;> rw [q]
        · exact Ne.symm fr.2.1
        · exact Ne.symm fr.2.2.1
        · exact Ne.symm fr.2.2.2.1
        · exact Ne.symm fr.2.2.2.2
      rw [upd_ne ncS, upd_ne ncT]; exact f0
    · show its1.toArray.size ≤ sizeLine
      rw [List.size_toArray, hi1]; omega
    · show (its1.toArray.push _).size ≤ sizeLine + 1
      rw [Array.size_push, List.size_toArray, hi1]; omega
theorem call_list_zip (Z : ZK X.prog X.w) {z TI TO i1 i2 l1 l2 : Addr} {xs ys : List V} {us ws : List Value} {H1 : Hp} {σ : L2.St} {pins : List (Addr × Obj)} {s : Shared} {Q : VK} (hc : X.calm = true) (D : ZipApart z TI TO i1 i2 l1 l2) (rx : Vals xs us) (ry : Vals ys ws) (hn : min xs.length ys.length ≤ sizeLine)
    (I : Inv X pins σ H1 s) (t : ZTurn Z z TI TO i1 i2 l1 l2 s.heap.objs.size us.toArray ws.toArray 0 s.heap) (fp : ∀ c ∈ [z, TO, i1, i2], FpOk X pins H1 c) (lt : ∀ c ∈ [z, TI, TO, i1, i2, l1, l2], c < s.heap.objs.size)
    (q : ∀ p H2 vs, Prs H1 H2 p xs ys vs (min xs.length ys.length) → Q (.ref p) H2) : wpAny (model X.prog X.w) X.A (call (.type "list") [.ref z]) (EP X pins σ Q) X.xe s := by
  refine callType_codes (Q₁ := fun ob sn => ob = .ref s.heap.objs.size ∧ sn = { s with heap := s.heap.push { cls := .type "list", data := .seq #[] } }) F.called_list (F.typeCall_list_1 _)
    F.entry_list_init (code_list_new _ ⟨rfl, rfl⟩) fun ob sn hob => ?_
  obtain ⟨rfl, rfl⟩ := hob
  have g0 : (s.heap.push { cls := .type "list", data := .seq #[] }).get? s.heap.objs.size = some { cls := .type "list", data := .seq #[] } := Heap.get?_push_size s.heap rfl
  have hSf : s.heap.objs.size ∉ [z, TI, TO, i1, i2, l1, l2] := fun m => Nat.lt_irrefl _ (lt _ m)
  refine ⟨⟨_, g0, rfl⟩, F.args_list_init_2 _ _, ?_⟩
  show wpAny _ X.A.in1.in1 (do let old ← Builtin.List.listItems (.ref s.heap.objs.size); Builtin.List.listUpdate (.ref s.heap.objs.size) (fun _ => #[]); letGo old.toList.reverse
                               Builtin.List.listExtendWith (.ref s.heap.objs.size) (.ref z) .none) _ _ _
  refine wpAny_bind ?_
  unfold Builtin.List.listItems
  refine wpAny_bind (wpAny_seqItems g0 rfl (wpAny_pure (wpAny_bind (wpAny_updateSeq g0 rfl ?_))))
  have g1 := Heap.get?_update_self (Obj.mapSeq (fun _ => (#[] : Array Value))) g0 rfl
  refine wpAny_bind (wpAny_letGo ?_)
  have old1 : ∀ b o, b < s.heap.objs.size → s.heap.get? b = some o → ((s.heap.push { cls := .type "list", data := .seq #[] }).update s.heap.objs.size (Obj.mapSeq (fun _ => (#[] : Array Value)))).get? b = some o := fun b o hb e =>
    (Heap.get?_update_other _ _ (Nat.ne_of_gt hb)).trans (Heap.get?_push_of_some _ e)
  obtain ⟨f0, f1, hz⟩ := t.zo
  have hz1 := old1 z _ (Heap.lt_size hz) hz
  unfold Builtin.List.listExtendWith
  refine wpAny_bind (wpAny_typeOf (T := "zip") ⟨_, hz1, rfl⟩ ?_)
  have n1 : Builtin.List.listSameRef (.ref s.heap.objs.size) (.ref z) = false := by
    have : s.heap.objs.size ≠ z := Nat.ne_of_gt (Heap.lt_size hz)
    simp [Builtin.List.listSameRef, this]
  simp only [n1, show (Value.type "zip" == Value.type "list") = false by decide, show (Value.type "zip" == Value.type "tuple") = false by decide, Bool.or_false, Bool.false_eq_true, if_false]
  refine wpAny_bind (wpAny_pyIter_zipG hz1 (wpAny_bind (wpAny_holding ?_)))
  unfold Builtin.List.listLengthHint
  refine wpAny_bind (wpAny_specialOf ⟨_, hz1, rfl⟩ zip_no_len ?_)
  show wpAny _ _ (specialOf (Value.ref z) (Str.ofString "__length_hint__") >>= fun r => _) _ _ _
  refine wpAny_bind (wpAny_specialOf ⟨_, hz1, rfl⟩ zip_no_hint (wpAny_pure ?_))
  show wpAny _ _ (rule "list.extend.makes-room" >>= fun _ => Builtin.List.listTouch (.ref s.heap.objs.size) >>= fun _ => again (.builtin "list.extend.loop" ⟨[.ref s.heap.objs.size, .ref z, .none], []⟩)) _ _ _
  refine wpAny_bind (wpAny_rule (wpAny_bind ?_))
  show wpAny _ _ (updateSeq s.heap.objs.size (·.push .none) >>= fun _ => updateSeq s.heap.objs.size (·.pop)) _ _ _
  refine wpAny_bind (wpAny_updateSeq g1 rfl ?_)
  have g2 := Heap.get?_update_self (Obj.mapSeq (·.push Value.none)) g1 rfl
  refine wpAny_updateSeq (hz := by seq_fits) g2 rfl ?_
  have g3 := Heap.get?_update_self (Obj.mapSeq (·.pop)) g2 rfl
  have old3 : ∀ b o, b < s.heap.objs.size → s.heap.get? b = some o → ((((s.heap.push { cls := .type "list", data := .seq #[] }).update s.heap.objs.size (Obj.mapSeq (fun _ => (#[] : Array Value)))).update s.heap.objs.size (Obj.mapSeq (·.push Value.none))).update s.heap.objs.size (Obj.mapSeq (·.pop))).get? b = some o := fun b o hb e =>
    (Heap.get?_update_other _ _ (Nat.ne_of_gt hb)).trans ((Heap.get?_update_other _ _ (Nat.ne_of_gt hb)).trans (old1 b o hb e))
  have hSn : H1 s.heap.objs.size = none := I.hok.fresh (Nat.le_refl _)
  have lt' : ∀ {c : Addr}, c ∈ [z, TI, TO, i1, i2, l1, l2] → c < s.heap.objs.size := fun m => lt _ m
  refine wpAny_pure ⟨plainId_quiet F.plain_extend_loop _, zip_loop Z (A := X.A.in1) (by have := I.ok.hd hc; simp [this]) D hSf rx ry hn .none (fun s' H' vs I' pr => ⟨rfl, .ref s.heap.objs.size, H', I', rfl, q _ _ _ pr⟩) _ 0 _ (upd H1 s.heap.objs.size (.lst [])) [] rfl (Nat.zero_le _)
    (I.laid (t' := s.toks) (fun b u e => old3 b u (Heap.lt_size e) e) (Nat.le_refl _) ⟨by show 0 ≤ sizeLine; decide, [], _, .nil, g3⟩) ⟨hSn, upd_same, rfl, fun c o e => by rw [upd_ne (ne_of_none e hSn)]; exact e, fun j x y hj => absurd hj (Nat.not_lt_zero _)⟩ ?_ ?_ fun c hcm => ?_⟩
  · obtain ⟨e1, a, b, e2⟩ := t.z0 rfl
    exact ⟨fun _ => ⟨old3 _ _ (lt' (by simp)) e1, a, b, old3 _ _ (lt' (by simp)) e2⟩, fun z => absurd z (Nat.lt_irrefl _), old3 _ _ (lt' (by simp)) t.ti, Z.itAt t.a1 fun o e => old3 _ o (lt' (by simp)) e, Z.itAt t.a2 fun o e => old3 _ o (lt' (by simp)) e,
      Z.sqAt t.q1 fun o e => old3 _ o (lt' (by simp)) e, Z.sqAt t.q2 fun o e => old3 _ o (lt' (by simp)) e⟩
  · show TO < (Heap.update _ _ _).objs.size
    rw [Heap.size_update, Heap.size_update, Heap.size_update, Heap.size_push]
    exact Nat.lt_succ_of_lt (lt' (by simp))
  · obtain ⟨f0, f1⟩ := fp c hcm
    have hm : c ∈ [z, TI, TO, i1, i2, l1, l2] := by
      simp only [List.mem_cons, List.not_mem_nil, or_false] at hcm ⊢
      rcases hcm with h | h | h | h <;> simp [h]
    exact ⟨by rw [upd_ne (Nat.ne_of_lt (lt' hm))]; exact f0, f1⟩
/-- list(zip(a, b)): two lists or two tuples -/
def tLz (K : PySem.W.Frag) (ta : TA) : TE := fun σ H Q => ta σ H fun vs H1 => ∃ a b xs ys, vs = [.ref a, .ref b] ∧ ((SqL K H1 a xs ∧ SqL K H1 b ys) ∨ (SqT K H1 a xs ∧ SqT K H1 b ys)) ∧ ∀ p H2 ps, Prs H1 H2 p xs ys ps (min xs.length ys.length) → Q (.ref p) H2
theorem pe_lz {e e2 : Expr} {ta : TA} {p p2 pos pos2 : Pos} (hc : X.calm = true) (hg : Gl X "zip") (hm : X.mg "zip" = none) (hgl : Gl X "list") (hml : X.mg "list" = none) (ha : PA X [e, e2] ta)
    (hs : starEach [e, e2] X.env = (false, eval e X.env) :: starEach [e2] X.env) (hpl : (backTo pos2 (starEach [e2] X.env)).any (·.1) = false) :
    PE X (.Call (.Name "list" p) [.Call (.Name "zip" p2) [e, e2] [] pos2] [] pos) (tLz X.K ta) := by
  refine ⟨fun pins s σ H Q I h => ?_⟩
  refine Call_ (ld_blt I hgl hml (by decide +kernel : bootBuiltins "list" = some (.type "list")) (callWith_type1 (Calls.spliced_cons ?_)))
  refine Call_ (ld_blt I hg hm PyProof.Rows.boot_zip (callWith_type1 (thn (ha.run pos2 pins s σ H _ I h) fun us s1 ⟨vs, H1, I1, r1, q1⟩ => ?_) hs hpl))
  obtain ⟨a, b, xs, ys, rfl, q1, q⟩ := q1
  have lens : ∀ {xs : List V}, xs.length ≤ sizeLine → min xs.length ys.length ≤ sizeLine := fun h => Nat.le_trans (Nat.min_le_left _ _) h
  cases r1 with
  | cons r rr =>
    cases rr with
    | cons r' rr =>
      cases rr
      cases r
      cases r'
      have fresh : ∀ c, c ∈ [s1.heap.objs.size + 4, s1.heap.objs.size + 3, s1.heap.objs.size, s1.heap.objs.size + 1] → FpOk X pins H1 c := fun c hcm => by
        have hle : s1.heap.objs.size ≤ c := by
          simp only [List.mem_cons, List.not_mem_nil, or_false] at hcm
          rcases hcm with z | z | z | z <;> rw [z]
          · exact Nat.le_add_right _ _
          · exact Nat.le_add_right _ _
          · exact Nat.le_refl _
          · exact Nat.le_add_right _ _
        exact I1.fpOk hle (I1.hok.fresh hle)
      have below : ∀ {h' : Heap} {a b : Addr}, h'.objs.size = s1.heap.objs.size + 5 → a < s1.heap.objs.size → b < s1.heap.objs.size → ∀ c ∈ [s1.heap.objs.size + 4, s1.heap.objs.size + 2, s1.heap.objs.size + 3, s1.heap.objs.size, s1.heap.objs.size + 1, a, b], c < h'.objs.size := fun {h' a b} hz h1 h2 c hcm => by
        rw [hz]
        simp only [List.mem_cons, List.not_mem_nil, or_false] at hcm
        rcases hcm with z | z | z | z | z | z | z <;> rw [z]
        · exact Nat.lt_succ_self _
        · exact Nat.add_lt_add_left (by decide) _
        · exact Nat.add_lt_add_left (by decide) _
        · exact Nat.lt_add_of_pos_right (by decide)
        · exact Nat.add_lt_add_left (by decide) _
        · exact Nat.lt_of_lt_of_le h1 (Nat.le_add_right _ _)
        · exact Nat.lt_of_lt_of_le h2 (Nat.le_add_right _ _)
      rcases q1 with ⟨hqx, hqy⟩ | ⟨hqx, hqy⟩
      · obtain ⟨its, rv, p1, z1⟩ := I1.list hqx
        obtain ⟨its2, rv2, p2, _⟩ := I1.list hqy
        refine call_zip_2 p1.isList p2.isList fun h' hz hTI hTO h1 h2 hsz hk => Calls.spliced_nil ?_
        have I2 : Inv X pins σ H1 { s1 with heap := h' } := I1.kept (t' := s1.toks) hk
        exact call_list_zip zkL hc (PySem.W.ktu_apart s1.heap.objs.size a b p1.lt p2.lt) rv rv2 (lens z1) I2 ⟨fun _ => ⟨hz, _, _, hTO⟩, fun z => absurd z (Nat.lt_irrefl _), hTI, h1, h2, p1.isList.at fun o e => hk _ o e, p2.isList.at fun o e => hk _ o e⟩ (fresh) (below hsz p1.lt p2.lt) q
      · obtain ⟨its, rv, p1, z1⟩ := I1.tuple hqx
        obtain ⟨its2, rv2, p2, _⟩ := I1.tuple hqy
        obtain ⟨o1, ho1, _⟩ := id p1
        obtain ⟨o2, ho2, _⟩ := id p2
        refine RZ.call_zipT (show s1.heap.IsTuple a its.toArray from p1) (show s1.heap.IsTuple b its2.toArray from p2) fun h' hz hTI hTO h1 h2 hsz hk => Calls.spliced_nil ?_
        have I2 : Inv X pins σ H1 { s1 with heap := h' } := I1.kept (t' := s1.toks) hk
        exact call_list_zip zkT hc (PySem.W.ktu_apart s1.heap.objs.size a b (Heap.lt_size ho1) (Heap.lt_size ho2)) rv rv2 (lens z1) I2 ⟨fun _ => ⟨hz, _, _, hTO⟩, fun z => absurd z (Nat.lt_irrefl _), hTI, h1, h2, ⟨o1, hk _ _ ho1, by assumption⟩, ⟨o2, hk _ _ ho2, by assumption⟩⟩ (fresh) (below hsz (Heap.lt_size ho1) (Heap.lt_size ho2)) q
end
end CT

namespace CT
open PySem PySem.Spec PyProof.Rows L2
/-! ### t[::-1] of a tuple -/
section
variable {prog : Program} {w : World} {A : Around} {E : Value → Shared → Prop} {s : Shared}
theorem rev_places (n : Nat) : Builtin.Slice.slicePlaces ((n : Int) - 1) (-1) (-1) = n := by
  unfold Builtin.Slice.slicePlaces
  have h1 : ¬ ((-1 : Int) > 0) := by decide
  simp only [h1, if_false]
  by_cases h : (n : Int) - 1 > -1
  · simp only [h, if_true]
    rw [show (- -1 : Int) = 1 by decide, Int.ediv_one]
    omega
  · simp only [h, if_false]
    omega
theorem fm_congr {α β : Type} {f g : α → Option β} : ∀ l : List α, (∀ k ∈ l, f k = g k) → l.filterMap f = l.filterMap g
  | [], _ => rfl
  | a :: r, h => by
    rw [List.filterMap_cons, List.filterMap_cons, h a List.mem_cons_self, fm_congr r fun k hk => h k (List.mem_cons_of_mem _ hk)]
theorem rev_pick (xs : Array Value) : ((List.range xs.size).filterMap fun (k : Nat) => xs[(((xs.size : Int) - 1) + (k : Int) * (-1)).toNat]?).toArray = xs.toList.reverse.toArray := by
  have e : (List.range xs.size).filterMap (fun (k : Nat) => xs[(((xs.size : Int) - 1) + (k : Int) * (-1)).toNat]?) = (List.range xs.size).filterMap fun k => xs.toList.reverse[k]? := by
    refine fm_congr _ fun k hk => ?_
    have hk := List.mem_range.mp hk
    show _ = xs.toList.reverse[k]?
    rw [List.getElem?_reverse (by simpa using hk), Array.getElem?_toList, Array.length_toList]
    congr 1
    omega
  have f : ∀ l : List Value, (List.range l.length).filterMap (fun k => l[k]?) = l := fun l => by
    induction l with
    | nil => rfl
    | cons a r ih =>
      rw [List.length_cons, List.range_succ_eq_map, List.filterMap_cons]
      simp only [List.getElem?_cons_zero, List.filterMap_map]
      congr 1
  rw [e]
  have g := f xs.toList.reverse
  rw [List.length_reverse, Array.length_toList] at g
  rw [g]
theorem getItem_tuple_rev {t sl : Addr} {items : Array Value} {vl vu vs : Value} {Q : Value → Shared → Prop} (ht : IsTup s.heap t items) (hs : s.heap.IsSliceOf sl vl vu vs) (pl : IsPart vl none) (pu : IsPart vu none) (ps : IsPart vs (some (-1)))
    (h : Q (.ref s.heap.objs.size) { s with heap := s.heap.push { cls := .type "tuple", data := .seq items.toList.reverse.toArray } }) (hsz : items.size ≤ sizeLine) : wpAny (model prog w) A (getItem (.ref t) (.ref sl)) Q E s := by
  obtain ⟨os, hos, hcs, hds⟩ := id hs
  have hTs : s.TypeIs (.ref sl) "slice" := ⟨os, hos, hcs⟩
  have hok : sizeOk (.seq items.toList.reverse.toArray) := by
    show items.toList.reverse.toArray.size ≤ sizeLine
    simpa using hsz
  unfold getItem
  try with_reducible refine wpAny_holding ?_
  first | refine wpAny_bind (wpAny_pure ?_) | skip
  refine wpAny_bind (wpAny_sequenceKey ht.typeIs (by decide) (wpAny_bind (wpAny_callSpecial?_slot (name := Str.ofString "__getitem__") ht.typeIs PyProof.Rows.slot_tuple_getitem
    (wpAny_call_entry PyProof.Rows.slot_tuple_getitem ht.typeIs entry_tuple_getitem ?_ (args_tuple_getitem _ _)))))
  show wpAny _ _ (Builtin.Tuple.tupleItemsOf (.ref t) >>= fun _ => _) _ _ s
  refine wpAny_bind (tupleItemsOf_ ht (wpAny_bind (wpAny_typeOf hTs ?_)))
  rw [if_pos (by decide)]
  refine wpAny_bind ?_
  unfold Builtin.Slice.sliceApplied Builtin.Slice.sliceFields
  refine wpAny_bind (wpAny_bind (wpAny_field hos hds (x := vl) rfl (wpAny_bind (wpAny_field hos hds (x := vu) rfl (wpAny_bind (wpAny_field hos hds (x := vs) rfl (wpAny_pure ?_)))))))
  refine wpAny_bind (HT.slicePart_ ps ?_)
  show wpAny _ _ (if ((-1 : Int) == 0) = true then _ else _) _ _ s
  rw [if_neg (by decide)]
  refine wpAny_bind (HT.slicePart_ pl (wpAny_bind (HT.slicePart_ pu (wpAny_bind (wpAny_pure ?_)))))
  show wpAny _ _ (pure (((items.size : Int) - 1), (-1 : Int), Builtin.Slice.slicePlaces ((items.size : Int) - 1) (-1) (-1))) _ _ s
  rw [rev_places]
  refine wpAny_pure ?_
  have hno : ¬ ((((items.size : Int) - 1) == 0 && (-1 : Int) == 1 && items.size == items.size) = true) := by simp
  show wpAny _ _ (if (((items.size : Int) - 1) == 0 && (-1 : Int) == 1 && items.size == items.size) = true then _ else _) _ _ s
  rw [if_neg hno, rev_pick]
  first
    | exact wpAny_bind (m := Builtin.Tuple.tupleExact _) (wpAny_newObj_type (wpAny_pure ⟨_, rfl, wpAny_pure h⟩) hok)
    | exact wpAny_bind (m := Builtin.Tuple.tupleExact _) (wpAny_newObj_type (wpAny_bind (wpAny_pure (wpAny_pure ⟨_, rfl, wpAny_pure h⟩))) hok)
    | exact wpAny_bind (wpAny_bind (m := Builtin.Tuple.tupleExact _) (wpAny_newObj_type (wpAny_pure (wpAny_pure ⟨_, rfl, wpAny_pure h⟩)) hok))
    | exact wpAny_bind (wpAny_bind (m := Builtin.Tuple.tupleExact _) (wpAny_newObj_type (wpAny_pure ⟨_, rfl, wpAny_pure h⟩) hok))
end
section
variable {X : Cx}
/-- xs[::-1]: a list or a tuple -/
def tRev (K : PySem.W.Frag) (te : TE) : TE := fun σ H Q => te σ H fun x H1 => ∃ a xs, x = .ref a ∧ ((SqL K H1 a xs ∧ ∀ p, H1 p = none → Q (.ref p) (upd H1 p (.lst xs.reverse))) ∨ (SqT K H1 a xs ∧ ∀ p, H1 p = none → Q (.ref p) (upd H1 p (.tup xs.reverse))))
theorem pe_rev {e : Expr} {te : TE} {k : Nat} {p1 p2 p3 pos : Pos} (he : PE X e te) : PE X (.Subscript e (.Slice none none (some (.UnaryOp .USub (.Constant (.int 1) k p1) p2)) p3) pos) (tRev X.K te) := by
  refine ⟨fun pins s σ H Q I h => ?_⟩
  refine Subscript_ (thn (he.run pins s σ H _ I h) fun v s1 ⟨x, H1, I1, r1, a, xs, ex, q⟩ => ?_)
  subst ex
  cases r1
  have hst : PO X (some (.UnaryOp .USub (.Constant (.int 1) k p1) p2)) (tPart (tUn (rU fun i => .int (-i)) (tC (.int 1)))) := po_some (pe_un un_neg pe_int)
  refine wpAny_Slice (thn (po_none.run pins s1 σ H1 (fun o H2 => o = none ∧ H2 = H1) I1 ⟨rfl, rfl⟩) fun vl s2 ⟨l, H2, I2, pl, el, e2⟩ => thn (po_none.run pins s2 σ H2 (fun o H3 => o = none ∧ H3 = H2) I2 ⟨rfl, rfl⟩) fun vu s3 ⟨u, H3, I3, pu, eu, e3⟩ =>
    thn (hst.run pins s3 σ H3 (fun o H4 => o = some (-1) ∧ H4 = H3) I3 ⟨1, rfl, -1, rfl, rfl, rfl⟩) fun vs s4 ⟨o, H4, I4, ps, eo, e4⟩ => ?_)
  subst el e2 eu e3 eo e4
  have I5 : Inv X pins σ H4 { s4 with heap := s4.heap.push { cls := .type "slice", data := .fields #[vl, vu, vs] } } := I4.kept (t' := s4.toks) fun b ob q => Heap.get?_push_of_some _ q
  rcases q with ⟨hx, q⟩ | ⟨hx, q⟩
  · obtain ⟨its, r, ht, hz⟩ := I5.list hx
    have hlen := r.length
    show wpAny (model X.prog X.w) X.A (subscriptTail e (.Slice none none (some (.UnaryOp .USub (.Constant (.int 1) k p1) p2)) p3) (.ref a) (.ref s4.heap.objs.size)) (EP X pins σ Q) X.xe { s4 with heap := Heap.push s4.heap { cls := .type "slice", data := .fields #[vl, vu, vs] } }
    refine tail_any (ops := [.ref a, .ref s4.heap.objs.size]) ht.isList.typeIs (PySem.slot_list_getitem.lookup) (wpAny_getItem_list_slice ht.isList (Heap.IsSliceOf.new _ vl vu vs) pl pu ps (by decide) ?_ (by rw [List.size_toArray]; omega)) (by with_unfolding_all rfl)
    rw [PySem.W.krv_pick]
    exact ⟨.ref _, _, I5.laid (t' := s4.toks) (o := .lst xs.reverse) (fun b ob q => Heap.get?_push_of_some _ q) (Nat.le_refl _) ⟨by rw [List.length_reverse]; exact hz, _, 0, r.reverse, Heap.get?_push_size _ rfl⟩, rfl, q _ (I5.hok.fresh (Nat.le_refl _))⟩
  · obtain ⟨its, r, ht, hz⟩ := I5.tuple hx
    have hlen := r.length
    show wpAny (model X.prog X.w) X.A (subscriptTail e (.Slice none none (some (.UnaryOp .USub (.Constant (.int 1) k p1) p2)) p3) (.ref a) (.ref s4.heap.objs.size)) (EP X pins σ Q) X.xe { s4 with heap := Heap.push s4.heap { cls := .type "slice", data := .fields #[vl, vu, vs] } }
    refine tail_any (ops := [.ref a, .ref s4.heap.objs.size]) ht.typeIs (PyProof.Rows.slot_tuple_getitem.lookup) (getItem_tuple_rev ht (Heap.IsSliceOf.new _ vl vu vs) pl pu ps ?_ (by rw [List.size_toArray]; omega)) (by with_unfolding_all rfl)
    exact ⟨.ref _, _, I5.laid (t' := s4.toks) (o := .tup xs.reverse) (fun b ob q => Heap.get?_push_of_some _ q) (Nat.le_refl _) ⟨by rw [List.length_reverse]; exact hz, _, r.reverse, ⟨_, Heap.get?_push_size _ rfl, rfl, _, rfl⟩⟩, rfl, q _ (I5.hok.fresh (Nat.le_refl _))⟩
end
end CT

namespace CT
open PySem PySem.Spec PyProof.Rows L2
/-! ### set(xs) of a list of ints -/
section
variable {P : Program} {w : World} {A : Around} {E : Value → Shared → Prop} {s : Shared}
abbrev bareSet (w : World) : Obj := { cls := .type "set", dict := none, data := .set #[] 0 (.fresh 0 0 (!w.params.followText "set-order")) }
set_option maxRecDepth 100000 in
set_option maxHeartbeats 3200000 in
theorem call_set_lstI {l : Addr} {items : Array Value} (ns : List Int) {Q : Value → Shared → Prop} (hh : A.handled = none) (hl : s.heap.IsList l items) (hit : IntsAre items.toList ns) (hb : ns.length + 1 < scanBound)
    (h : ∀ (h' : Heap) (tk c : Nat), SetR w h' s.heap.objs.size (fun j => decide (j ∈ ns)) c → c ≤ ns.length → (∀ b o, s.heap.get? b = some o → h'.get? b = some o) → Q (.ref s.heap.objs.size) { s with heap := h', toks := tk }) :
    wpAny (model P w) A (call (.type "set") [.ref l]) Q E s := by
  have hlen : items.size = ns.length := by
    have q := IntsAre.length hit
    rwa [Array.length_toList] at q
  obtain ⟨c0, tl0, hmro⟩ := F.called_set.mro
  have m1 := F.called_set.made
  have m2 := F.called_set.sub
  refine wpAny_call (codeAny_of_tree ?_)
  show wpAny _ _ (callAny (.type "set") _) _ _ _
  refine wpAny_pure ⟨Code.quiet_builtin _ (by decide +kernel), codeAny_builtin F.entry_type_call ?_⟩
  rw [Around.under_plain (weight_type_call_type "set" [.ref l] []) rfl]
  have m3 := F.called_set.notType
  have m4 := F.called_set.canCreate
  have m5 := F.typeCall_set_1 (.ref l)
  repeat (any_goals (first | assumption | wp_step))
  refine codeAny_mono (code_set_led1 (.ref l) (E := E) (Q₁ := fun ob sn => ob = .ref s.heap.objs.size ∧ sn = { s with heap := s.heap.push (bareSet w) }) ⟨rfl, rfl⟩) fun r sn hr => ?_
  cases r with
  | error e => exact hr
  | ok fl =>
    cases fl with
    | ret ob =>
      obtain ⟨rfl, rfl⟩ := hr
      have g0 : (s.heap.push (bareSet w)).get? s.heap.objs.size = some (bareSet w) := Heap.get?_push_size _ rfl
      have ty : Shared.TypeIs { s with heap := s.heap.push (bareSet w) } (.ref s.heap.objs.size) "set" := ⟨_, g0, rfl⟩
      have i1 := F.called_set.init.lookup
      have i2 := F.called_set.init.bind (.ref s.heap.objs.size)
      repeat (any_goals (first | assumption | wp_step))
      refine codeAny_mono (codeAny_call_builtin (R := wants (fun r s2 => r = .none ∧ ∃ h' tk c, s2 = { s with heap := h', toks := tk } ∧ SetR w h' s.heap.objs.size (fun j => decide (j ∈ ns)) c ∧ c ≤ ns.length ∧ (∀ b o, s.heap.get? b = some o → h'.get? b = some o)) E)
        F.called_set.init.plain F.entry_set_init (check_set_init_1 ty ?_)) fun r2 s2 hr2 => ?_
      · obtain ⟨ol, hol, hcl, nl, hdl⟩ := hl
        obtain ⟨ocls, odict, odata, oslots⟩ := ol
        simp only at hcl hdl
        subst hcl; subst hdl
        have hol2 : (s.heap.push (bareSet w)).get? l = some { cls := .type "list", dict := odict, data := .seq items nl, slots := oslots } := Heap.get?_push_of_some _ hol
        have u1 := F.sub_list_set
        have u2 := F.sub_list_frozenset
        have u3 : (Value.type "list" == Value.type "dict") = false := by decide
        have hl1 : (s.heap.push (bareSet w)).IsList l items := ⟨_, hol2, rfl, nl, rfl⟩
        unfold Builtin.«set.__init__» noKeywords Builtin.Frozenset.updateFrom
        generalize hPI : pyIter = PI
        wp_walk
        subst hPI
        refine wpAny_pyIter_list hl1 (wpAny_bind (wpAny_runValue ?_))
        have hlS : l < s.heap.objs.size := Heap.lt_size hol
        have hh3 : A.in1.in1.in1.handled = none := by simp [hh]
        have apart : l ≠ (s.heap.push (bareSet w)).objs.size := by
          rw [Heap.size_push]; exact Nat.ne_of_lt (Nat.lt_succ_of_lt hlS)
        have notIn : s.heap.objs.size ∉ [(s.heap.push (bareSet w)).objs.size, l] := by
          rw [Heap.size_push]
          simp only [List.mem_cons, List.not_mem_nil, or_false, not_or]
          exact ⟨Nat.ne_of_lt (Nat.lt_succ_self _), Nat.ne_of_gt hlS⟩
        have vals : ∀ (i : Nat) (v : Value), items[i]? = some v → ∃ k t, ns[i]? = some k ∧ v = .int k t := fun i v hv => by
          have hi : i < ns.length := by rw [← hlen]; exact (Array.getElem?_eq_some_iff.mp hv).1
          obtain ⟨t, e⟩ := PyProof.Rows.IntsAre.int_at hit i v (by rw [Array.getElem?_toList]; exact hv)
          refine ⟨ns[i], t, List.getElem?_eq_getElem hi, ?_⟩
          rw [e, List.getD_eq_getElem?_getD, List.getElem?_eq_getElem hi] <;> rfl
        refine set_update_ints ((Walks.list hh3 _ l apart items).toS) s.heap.objs.size notIn ns hlen hb vals (items.size - 0) 0 _ (by omega) (Nat.zero_le _) ⟨⟨_, Heap.get?_push_size _ rfl, rfl, rfl⟩, (hl1.push _)⟩ ?first ?last
        case first =>
          exact ⟨0, Nat.le_refl 0, setR_new_at (Heap.get?_push_of_some _ g0)⟩
        case last =>
          intro s' c' hm hc' hS'
          obtain ⟨h', g2, d', tk', os'⟩ := s'
          obtain rfl : g2 = s.gens := hm.gens
          obtain rfl : d' = s.drawn := hm.drawn
          obtain rfl : os' = s.os := hm.os
          show wpAny _ _ _ _ _ _
          refine wpAny_pure ?_
          show wpAny _ _ (ret Value.none) _ _ _
          rw [hlen] at hc'
          refine wpAny_pure ⟨rfl, h', tk', c', rfl, hS', hc', fun b o e => ?_⟩
          have b0 : b < s.heap.objs.size := Heap.lt_size e
          have b2 : b ≠ (s.heap.push (bareSet w)).objs.size := by
            rw [Heap.size_push]; exact Nat.ne_of_lt (Nat.lt_succ_of_lt b0)
          exact hm.heap b o (by simp only [List.mem_cons, List.not_mem_nil, or_false, not_or]; exact ⟨Nat.ne_of_lt b0, b2⟩) (Heap.get?_push_of_some _ (Heap.get?_push_of_some _ e))
      · cases r2 with
        | error e => exact hr2
        | ok fl2 =>
          cases fl2 with
          | ret r =>
            obtain ⟨rfl, h', tk, c', rfl, hS', hc', hk'⟩ := hr2
            repeat (any_goals (first | assumption | wp_step))
            exact h _ _ _ hS' hc' hk'
          | _ => exact hr2.elim
    | _ => exact hr.elim
end
section
variable {X : Cx}
/-- set(xs), a list or a tuple of ints -/
def rSetI (K : PySem.W.Frag) (w : World) : List V → Hp → VK → Prop := fun xs H Q => ∃ (l : Addr) (ns : List Int), xs = [V.ref l] ∧ (SqL K H l (ns.map V.int) ∨ SqT K H l (ns.map V.int)) ∧ ns.length < 64 ∧
  ∀ a c, H a = none → c ≤ ns.length → Q (.ref a) (upd H a (SetO w a (fun j => decide (j ∈ ns)) c))
theorem cr_setI (hc : X.calm = true) : CallR X (.type "set") (rSetI X.K X.w) := by
  intro pins s σ H xs us Q I r h
  obtain ⟨l, ns, rfl, hq, h64, q⟩ := h
  rw [Vals.ref1 r]
  have hsb : ns.length + 1 < scanBound := by unfold scanBound; omega
  have fin : ∀ (h' : Heap) (tk c : Nat), SetR X.w h' s.heap.objs.size (fun j => decide (j ∈ ns)) c → c ≤ ns.length → (∀ b o, s.heap.get? b = some o → h'.get? b = some o) → EP X pins σ Q (.ref s.heap.objs.size) { s with heap := h', toks := tk } := fun h' tk c R hcn k =>
    ⟨.ref s.heap.objs.size, _, I.laid (t' := tk) k (Nat.le_refl _) (setO_new R), rfl, q _ _ (I.hok.fresh (Nat.le_refl _)) hcn⟩
  rcases hq with hq | hq
  · obtain ⟨its, rv, p1, _⟩ := I.list hq
    exact call_set_lstI ns (I.ok.hd hc) p1.isList (by simpa using intsAre_of rv) hsb fin
  · obtain ⟨its, rv, p1, _⟩ := I.tuple hq
    exact call_set_tupI ns (I.ok.hd hc) (show s.heap.IsTuple l its.toArray from p1) (by simpa using intsAre_of rv) hsb fin
end
end CT

namespace CT
open PySem PySem.Spec PyProof.Rows L2
section
variable {T : Tb} {Γ : Fns} {k : Nat} {cm : Bool} {N : List Str}
theorem post_of {mg : Str → Option Value} {K : PySem.W.Frag} {W : WX} {β : List Addr} {A : Addr → Prop} {kk : Kd} {σ : L2.St} {H : Hp} {Q : VK} {o : Option D} {M : Mem} (h : Post mg T K W β A kk σ H Q (.of o M)) : ∃ d, o = some d ∧ Post mg T K W β A kk σ H Q (.ok d M) := by
  cases o with
  | some d => exact ⟨d, rfl, h⟩
  | none => exact h.elim
theorem postT_of {mg : Str → Option Value} {K : PySem.W.Frag} {W : WX} {β : List Addr} {A : Addr → Prop} {σ : L2.St} {H : Hp} {Q : Bool → Hp → Prop} {o : Option D} {M : Mem} (h : PostT mg T K W β A σ H Q (.of o M)) : ∃ d, o = some d ∧ PostT mg T K W β A σ H Q (.ok d M) := by
  cases o with
  | some d => exact ⟨d, rfl, h⟩
  | none => exact h.elim
theorem repsK1 {K : PySem.W.Frag} {β : List Addr} {A : Addr → Prop} {H : Hp} {kk : Kd} (hk : kk ≠ .br) {xs : List D} {vs : List V} (h : RepsK kk K β A H xs vs) : Reps K β A H xs vs := by
  cases kk with
  | br => exact absurd rfl hk
  | pl => exact h
  | fr => exact h

theorem sorted_lst {x d : D} (e : bltD .sorted [x] = some d) : ∃ l, d = .lst l := by
  have m : ∀ {o : Option (List Int)}, (o.map fun ns => D.lst ((sortI ns).map .int)) = some d → ∃ l, d = .lst l := fun {o} h => by
    cases o with
    | none => cases h
    | some ns => exact ⟨_, (Option.some.inj h).symm⟩
  cases x <;> simp only [bltD] at e <;> try (cases e; done)
  · exact m e
  · split at e
    · exact m e
    · cases e
theorem semEs_len {Cn : Str → Option D} : ∀ {es : List IE} {σ : Sg} {M M' : Mem} {xs : List D}, semEs Γ Cn es σ M = .ok xs M' → xs.length = es.length
  | [], σ, M, M', xs, h => by
    simp only [semEs] at h
    cases h
    rfl
  | e :: es, σ, M, M', xs, h => by
    simp only [semEs] at h
    cases q : semE Γ Cn e σ M with
    | ok d M1 =>
      simp only [q, Res.bind] at h
      cases q2 : semEs Γ Cn es σ M1 with
      | ok ds M2 =>
        simp only [q2] at h
        cases h
        simp [semEs_len q2]
      | exc c fs M2 => simp only [q2] at h; cases h
      | stuck => simp only [q2] at h; cases h
    | exc c fs M1 => simp only [q, Res.bind] at h; cases h
    | stuck => simp only [q, Res.bind] at h; cases h
section
variable {X : Cx} {W : WX} {σ : L2.St} {H : Hp} {Q : VK} {ka kb kc : Kd}
theorem rd_cmp {c : Cm} {a b : IE} (q : tE X.mg T X.K W .pl (semE Γ T.Cn (.cmp c a b)) σ H Q) : tOp (rC X.K c) (tE X.mg T X.K W ka (semE Γ T.Cn a)) (tE X.mg T X.K W kb (semE Γ T.Cn b)) σ H Q := by
  refine rd2 (k := .pl) (fun β A ow M H1 H2 σd x y v w R rx ry p => ?_) q
  obtain ⟨d, e, p⟩ := post_of p
  cases e2 : cmpD c x y with
  | none => rw [e2] at e; cases e
  | some b =>
    rw [e2] at e
    have := Option.some.inj e; subst this
    exact cmp_ok rx.weak ry.weak e2 (post_same (k := .pl) R (by simp) rep_bl p)
theorem rd_chain {c d : Cm} {p q r : IE} (q' : tE X.mg T X.K W .pl (semE Γ T.Cn (.chain c d p q r)) σ H Q) : tChain (rC X.K c) (rC X.K d) (tE X.mg T X.K W ka (semE Γ T.Cn p)) (tE X.mg T X.K W kb (semE Γ T.Cn q)) (tE X.mg T X.K W kc (semE Γ T.Cn r)) σ H Q := by
  refine rd2 (k := .pl) (r := fun x y H2 Q' => rC X.K c x y H2 fun z H3 => ∃ k, z = .bl k ∧ (if k = true then tE X.mg T X.K W (kc) (semE Γ T.Cn r) σ H3 fun w' H4 => rC X.K d y w' H4 Q' else Q' (.bl false) H3)) (fun β A ow M H1 H2 σd x y v w R rx ry p => ?_) q'
  cases e1 : cmpD c x y with
  | none => rw [e1] at p; exact p.elim
  | some b =>
    rw [e1] at p
    refine cmp_ok (Q := fun z H3 => ∃ k, z = .bl k ∧ (if k = true then tE X.mg T X.K W (kc) (semE Γ T.Cn r) σ H3 fun w' H4 => rC X.K d w w' H4 Q else Q (.bl false) H3)) rx.weak ry.weak e1 ⟨b, rfl, ?_⟩
    cases b with
    | false => exact iteF (post_same (k := .pl) R (by simp) rep_bl p)
    | true =>
      refine iteT ⟨β, A, M, ow, σd, R, ?_⟩
      have p : Post X.mg T X.K W β (avo A ow) .pl σ H2 Q ((semE Γ T.Cn r σd M).bind fun r M3 => .of ((cmpD d y r).map .bl) M3) := p
      cases q2 : semE Γ T.Cn r σd M with
      | stuck => rw [q2] at p; exact p
      | exc cx fs M' => rw [q2] at p; exact p
      | ok z M3 =>
        rw [q2] at p
        intro β3 u H3 e3 m3 ru
        have R3 := R.mono e3 m3
        have p := Post.later e3 p
        obtain ⟨d', e2, p⟩ := post_of p
        cases e4 : cmpD d y z with
        | none => rw [e4] at e2; cases e2
        | some b' =>
          rw [e4] at e2
          have := Option.some.inj e2; subst this
          exact cmp_ok (ry.weak.mono e3) ru.weak e4 (post_same (k := .pl) R3 (by simp) rep_bl p)

theorem rd_isN {a : IE} (q : tE X.mg T X.K W .pl (semE Γ T.Cn (.isN a)) σ H Q) : tOp (fun x y H Q => y = .non ∧ Q (.bl (decide (x = .non))) H) (tE X.mg T X.K W ka (semE Γ T.Cn a)) (tC .non) σ H Q := by
  refine rd1 (k := .pl) (t := fun v H1 Q => V.non = .non ∧ Q (.bl (decide (v = .non))) H1) (fun β A ow M H1 σd x v R rx p => ⟨rfl, ?_⟩) q
  have e : isNon x = decide (v = V.non) := by
    have rx := rx.weak
    rcases rx with rx | ⟨a, rfl, n, rx⟩
    · cases x <;> simp only [Rep] at rx
      · subst rx; rfl
      · subst rx; rfl
      · subst rx; rfl
      · obtain ⟨rfl, _⟩ := rx; rfl
      · obtain ⟨_, _, rfl, _⟩ := rx; rfl
      · obtain ⟨_, _, rfl, _⟩ := rx; rfl
      · obtain ⟨_, rfl, _⟩ := rx; rfl
      · obtain ⟨_, _, rfl⟩ := rx; rfl
      · obtain ⟨_, rfl, _⟩ := rx; rfl
      · obtain ⟨_, _, _, rfl, _⟩ := rx; rfl
    · cases x <;> first | rfl | exact rx.elim
  rw [e] at p
  exact post_same (k := .pl) R (by simp) rep_bl p

theorem rd_notN {a : IE} (q : tE X.mg T X.K W .pl (semE Γ T.Cn (.notN a)) σ H Q) : tOp (fun x y H Q => y = .non ∧ Q (.bl (!decide (x = .non))) H) (tE X.mg T X.K W ka (semE Γ T.Cn a)) (tC .non) σ H Q := by
  refine rd1 (k := .pl) (t := fun v H1 Q => V.non = .non ∧ Q (.bl (!decide (v = .non))) H1) (fun β A ow M H1 σd x v R rx p => ⟨rfl, ?_⟩) q
  have e : (!isNon x) = !decide (v = V.non) := by
    have rx := rx.weak
    rcases rx with rx | ⟨a, rfl, n, rx⟩
    · cases x <;> simp only [Rep] at rx
      · subst rx; rfl
      · subst rx; rfl
      · subst rx; rfl
      · obtain ⟨rfl, _⟩ := rx; rfl
      · obtain ⟨_, _, rfl, _⟩ := rx; rfl
      · obtain ⟨_, _, rfl, _⟩ := rx; rfl
      · obtain ⟨_, rfl, _⟩ := rx; rfl
      · obtain ⟨_, _, rfl⟩ := rx; rfl
      · obtain ⟨_, rfl, _⟩ := rx; rfl
      · obtain ⟨_, _, _, rfl, _⟩ := rx; rfl
    · cases x <;> first | rfl | exact rx.elim
  rw [e] at p
  exact post_same (k := .pl) R (by simp) rep_bl p

def genB : IE → Bool
  | .not _ | .and _ _ | .or _ _ | .cmp _ _ _ | .chain _ _ _ _ _ | .isN _ | .notN _ | .isB _ _ _ | .ife _ _ _ => false
  | _ => true
/-- a value that is a truth, seen as a test -/
def Bls (c : Sg → Mem → Res D) : Prop := ∀ σ M d M', c σ M = .ok d M' → ∃ b, d = .bl b
theorem tT_bls {c : Sg → Mem → Res D} {QB : Bool → Hp → Prop} (hb : Bls c) (h : tT X.mg T X.K W c σ H QB) : tE X.mg T X.K W .pl c σ H fun x H' => ∃ k, x = .bl k ∧ QB k H' := by
  obtain ⟨β, A, M, ow, σd, R, p⟩ := h
  refine ⟨β, A, M, ow, σd, R, ?_⟩
  cases q : c σd M with
  | ok d M' =>
    rw [q] at p
    obtain ⟨b, rfl⟩ := hb _ _ _ _ q
    obtain ⟨b', e, p⟩ := p
    cases e
    exact fun β' v H' e m r => ⟨b, repW_bl r.weak, p β' H' e m⟩
  | exc c fs M' => rw [q] at p; exact p
  | stuck => rw [q] at p; exact p
theorem bind_bls {α : Type} {r : Res α} {f : α → Mem → Res D} (h : ∀ a M d M', f a M = .ok d M' → ∃ b, d = .bl b) {d : D} {M' : Mem} (e : r.bind f = .ok d M') : ∃ b, d = .bl b := by
  cases r with
  | ok a M => exact h _ _ _ _ e
  | exc c fs M => cases e
  | stuck => cases e
theorem bls_cmp {c : Cm} {a b : IE} : Bls (semE Γ T.Cn (.cmp c a b)) := fun σ M d M' e => bind_bls (fun x M1 d M' e => bind_bls (fun y M2 d M' e => by
  cases q : cmpD c x y with
  | none => rw [q] at e; cases e
  | some b => rw [q] at e; cases e; exact ⟨_, rfl⟩) e) e
theorem bls_chain {c d : Cm} {x y z : IE} : Bls (semE Γ T.Cn (.chain c d x y z)) := fun σ M d' M' e => bind_bls (fun p M1 d' M' e => bind_bls (fun q M2 d' M' e => by
  cases q1 : cmpD c p q with
  | none => rw [q1] at e; cases e
  | some b =>
    rw [q1] at e
    cases b with
    | false => cases e; exact ⟨_, rfl⟩
    | true => exact bind_bls (fun r M3 d' M' e => by
        cases q : cmpD d q r with
        | none => rw [q] at e; cases e
        | some b => rw [q] at e; cases e; exact ⟨_, rfl⟩) e) e) e
theorem bls_isN {a : IE} : Bls (semE Γ T.Cn (.isN a)) := fun σ M d M' e => bind_bls (fun x M1 d M' e => by cases e; exact ⟨_, rfl⟩) e
theorem bls_notN {a : IE} : Bls (semE Γ T.Cn (.notN a)) := fun σ M d M' e => bind_bls (fun x M1 d M' e => by cases e; exact ⟨_, rfl⟩) e
theorem byTruth_of {sc : Scope} {ie : IE} {e : Expr} (h : mE T N cm sc ie e = true) (hs : genB ie = true) : byTruth e = true := by
  cases ie <;> first | (simp [genB] at hs; done) | (unfold mE at h; split at h <;> first | rfl | (cases h; done)) | (unfold mE at h; split at h <;> (try dsimp only at h) <;> (split at h <;> first | rfl | (cases h; done))) | (simp [mE] at h; done)
end

/-! ### what is shown of a term -/
def SE (T : Tb) (Γ : Fns) (k : Nat) (cm : Bool) (N : List Str) (ie : IE) : Prop := ∀ (X : Cx) (sc : Scope) (W : WX) (e : Expr), CxOk X T Γ k cm sc N → Takes X W → mE T N cm sc ie e = true → PE X e (tE X.mg T X.K W (kd T ie) (semE Γ T.Cn ie))
def ST (T : Tb) (Γ : Fns) (k : Nat) (cm : Bool) (N : List Str) (ie : IE) : Prop := ∀ (X : Cx) (sc : Scope) (W : WX) (e : Expr), CxOk X T Γ k cm sc N → Takes X W → mE T N cm sc ie e = true → PT X e (tT X.mg T X.K W (semE Γ T.Cn ie))
def SW (T : Tb) (Γ : Fns) (k : Nat) (cm : Bool) (N : List Str) (ie : IE) : Prop := ∀ (X : Cx) (sc : Scope) (W : WX) (op : BoolOp) (vs : List Expr) (p : Pos), CxOk X T Γ k cm sc N → Takes X W → mE T N cm sc ie (.BoolOp op vs p) = true → PW X (.BoolOp op vs p) (tT X.mg T X.K W (semE Γ T.Cn ie))
def SEs (T : Tb) (Γ : Fns) (k : Nat) (cm : Bool) (N : List Str) (ies : List IE) : Prop := ∀ (X : Cx) (sc : Scope) (W : WX) (es : List Expr), CxOk X T Γ k cm sc N → Takes X W → mEs T N cm sc ies es = true →
    PA X es (tA X.mg T X.K W .br (semEs Γ T.Cn ies)) ∧ (ies.all nb = true → PA X es (tA X.mg T X.K W .pl (semEs Γ T.Cn ies)))
def SPs (T : Tb) (Γ : Fns) (k : Nat) (cm : Bool) (N : List Str) (ies : List IE) : Prop := ∀ (X : Cx) (sc : Scope) (W : WX) (e : Expr), CxOk X T Γ k cm sc N → Takes X W → mEs T N cm sc ies [e] = true → PO X (some e) (tO X.mg T X.K W (semEs Γ T.Cn ies))
def SE1 (T : Tb) (Γ : Fns) (k : Nat) (cm : Bool) (N : List Str) (ies : List IE) : Prop := ∀ i, ies = [i] → SE T Γ k cm N i
def SIf (T : Tb) (Γ : Fns) (k : Nat) (cm : Bool) (N : List Str) (ies : List IE) : Prop := ∀ (X : Cx) (sc : Scope) (W : WX) (es : List Expr), CxOk X T Γ k cm sc N → Takes X W → mEs T N cm sc ies es = true → ies.length ≤ 1 → PTs X es (tTs X.mg T X.K W (semIf Γ T.Cn ies))
theorem se_var (i : Nat)  : SE T Γ k cm N (.var i) := by
    intro X sc W e C tk h
    unfold mE at h
    split at h <;> try (cases h; done)
    rename_i x p
    simp only [Bool.and_eq_true, decide_eq_true_eq] at h
    obtain ⟨n1, n2⟩ := nm_of h.2
    refine pe_imp (pe_var (i := i) (by rw [C.n]; exact h.1.1) (by rw [C.sc]; exact vis_of h.1.2) n1 n2) fun σ H Q q => ?_
    obtain ⟨β, A, M, ow, σd, R, p⟩ := q
    simp only [semE] at p
    split at p
    · rename_i d hd
      obtain ⟨v, h1, h2⟩ := R.slot i _ hd
      exact ⟨v, h1, post_same (k := .pl) R (by simp) h2 p⟩
    · exact p.elim
theorem se_bor (i : Nat)  : SE T Γ k cm N (.bor i) := by
    intro X sc W e C tk h
    unfold mE at h
    split at h <;> try (cases h; done)
    rename_i x p
    simp only [Bool.and_eq_true, decide_eq_true_eq] at h
    obtain ⟨n1, n2⟩ := nm_of h.2
    refine pe_imp (pe_var (i := i) (by rw [C.n]; exact h.1.1) (by rw [C.sc]; exact vis_of h.1.2) n1 n2) fun σ H Q q => ?_
    obtain ⟨β, A, M, ow, σd, R, p⟩ := q
    simp only [semE] at p
    split at p
    · rename_i d hd
      obtain ⟨v, h1, h2⟩ := R.slot i _ hd
      exact ⟨v, h1, post_same (k := .br) R (by simp) h2 p⟩
    · rename_i d hd
      obtain ⟨a, h1, h2, h3, h4⟩ := R.slot i _ hd
      exact ⟨.ref a, h2, p β _ H (Ext.refl _ _) R.mem (.inr ⟨a, rfl, h3⟩)⟩
    · exact p.elim
theorem se_non   : SE T Γ k cm N (.non) := by
    intro X sc W e C tk h
    unfold mE at h
    split at h <;> try (cases h; done)
    exact pe_imp pe_non fun σ H Q q => tE_c (by simp [kd]) (fun _ _ _ => rep_non) q
theorem se_bl (b : Bool)  : SE T Γ k cm N (.bl b) := by
    intro X sc W e C tk h
    unfold mE at h
    split at h <;> try (cases h; done)
    simp only [decide_eq_true_eq] at h
    subst h
    exact pe_imp pe_bl fun σ H Q q => tE_c (by simp [kd]) (fun _ _ _ => rep_bl) q
theorem se_int (i : Int)  : SE T Γ k cm N (.int i) := by
    intro X sc W e C tk h
    unfold mE at h
    split at h <;> try (cases h; done)
    simp only [decide_eq_true_eq] at h
    subst h
    exact pe_imp pe_int fun σ H Q q => tE_c (by simp [kd]) (fun _ _ _ => rep_int) q
theorem se_str (s : Str)  : SE T Γ k cm N (.str s) := by
    intro X sc W e C tk h
    unfold mE at h
    split at h <;> try (cases h; done)
    simp only [Bool.and_eq_true, decide_eq_true_eq] at h
    obtain ⟨rfl, hs⟩ := h
    exact pe_imp pe_str fun σ H Q q => tE_c (by simp [kd]) (fun _ _ _ => rep_str hs) q
theorem se_glob (x : Str)  : SE T Γ k cm N (.glob x) := by
    intro X sc W e C tk h
    unfold mE at h
    split at h <;> try (cases h; done)
    simp only [Bool.and_eq_true, decide_eq_true_eq] at h
    obtain ⟨⟨⟨rfl, hg⟩, hn⟩, hi⟩ := h
    obtain ⟨d, hd⟩ := Option.isSome_iff_exists.mp hi
    obtain ⟨u, v, h1, h2, h3⟩ := C.fx.con _ d hd
    refine pe_imp (pe_glob (glb_of C.sc hg) h1 h2 (nm_of hn).1) fun σ H Q q => ?_
    obtain ⟨β, A, M, ow, σd, R, p⟩ := q
    simp only [semE, hd] at p
    exact post_same (k := .pl) R (by simp) (h3 _ _ _) p
theorem se_bin (op : Op) (a : IE) (b : IE) (hE_a : SE T Γ k cm N a) (hE_b : SE T Γ k cm N b) : SE T Γ k cm N (.bin op a b) := by
    intro X sc W e C tk h
    unfold mE at h
    split at h <;> try (cases h; done)
    simp only [Bool.and_eq_true, opIs, decide_eq_true_eq] at h
    obtain ⟨⟨rfl, ha⟩, hb⟩ := h
    refine pe_imp (pe_op (op_bin op) (hE_a X sc W _ C tk ha) (hE_b X sc W _ C tk hb)) fun σ H Q q => ?_
    refine rd2 (k := .pl) (fun β A ow M H1 H2 σd x y v w R rx ry p => ?_) q
    obtain ⟨d, e, p⟩ := post_of p
    exact bin_ok R (.inl (by simp)) rx.weak ry.weak e p
theorem se_binL (op : Op) (a : IE) (b : IE) (hE_a : SE T Γ k cm N a) (hE_b : SE T Γ k cm N b) : SE T Γ k cm N (.binL op a b) := by
    intro X sc W e C tk h
    unfold mE at h
    split at h <;> try (cases h; done)
    simp only [Bool.and_eq_true, opIs, decide_eq_true_eq] at h
    obtain ⟨⟨rfl, ha⟩, hb⟩ := h
    refine pe_imp (pe_op (op_bin op) (hE_a X sc W _ C tk ha) (hE_b X sc W _ C tk hb)) fun σ H Q q => ?_
    refine rd2 (k := .fr) (fun β A ow M H1 H2 σd x y v w R rx ry p => ?_) q
    split at p
    · rename_i l e
      exact bin_ok R (.inr ⟨l, rfl⟩) rx.weak ry.weak e p
    · exact p.elim
theorem se_neg (a : IE) (hE_a : SE T Γ k cm N a) : SE T Γ k cm N (.neg a) := by
    intro X sc W e C tk h
    unfold mE at h
    split at h <;> try (cases h; done)
    refine pe_imp (pe_un un_neg (hE_a X sc W _ C tk h)) fun σ H Q q => ?_
    refine rd1 (k := .pl) (t := fun v H1 Q => ∃ i, v = .int i ∧ Q (.int (-i)) H1) (fun β A ow M H1 σd x v R rx p => ?_) q
    split at p
    · rename_i i
      have := repW_int rx.weak; subst this
      exact ⟨i, rfl, post_same (k := .pl) R (by simp) rep_int p⟩
    · exact p.elim
theorem se_cmp (c : Cm) (a : IE) (b : IE) (hE_a : SE T Γ k cm N a) (hE_b : SE T Γ k cm N b) : SE T Γ k cm N (.cmp c a b) := by
    intro X sc W e C tk h
    unfold mE at h
    split at h <;> try (cases h; done)
    simp only [Bool.and_eq_true, cmIs, decide_eq_true_eq] at h
    obtain ⟨⟨⟨rfl, ha⟩, hb⟩, hs⟩ := h
    exact pe_imp (pe_cmpR (op_cmp C.un c) (hE_a X sc W _ C tk ha) (hE_b X sc W _ C tk hb) (nomark' hs)) fun σ H Q q => rd_cmp q
theorem se_chain (c : Cm) (d : Cm) (p : IE) (q : IE) (r : IE) (hE_p : SE T Γ k cm N p) (hE_q : SE T Γ k cm N q) (hE_r : SE T Γ k cm N r) : SE T Γ k cm N (.chain c d p q r) := by
    intro X sc W e C tk h
    unfold mE at h
    split at h <;> try (cases h; done)
    simp only [Bool.and_eq_true, cmIs, decide_eq_true_eq] at h
    obtain ⟨⟨⟨⟨⟨rfl, rfl⟩, ha⟩, hb⟩, hc⟩, hs⟩ := h
    exact pe_imp (pe_chain (op_cmp C.un c) (op_cmp C.un d) (hE_p X sc W _ C tk ha) (hE_q X sc W _ C tk hb) (hE_r X sc W _ C tk hc) (by show behindInMarks _ _ = false; exact nomark' hs)) fun σ H Q q => rd_chain q
theorem se_isN (a : IE) (hE_a : SE T Γ k cm N a) : SE T Γ k cm N (.isN a) := by
    intro X sc W e C tk h
    unfold mE at h
    split at h <;> try (cases h; done)
    exact pe_imp (pe_cmpR op_isN (hE_a X sc W _ C tk h) pe_non (nomark _)) fun σ H Q q => rd_isN q
theorem se_notN (a : IE) (hE_a : SE T Γ k cm N a) : SE T Γ k cm N (.notN a) := by
    intro X sc W e C tk h
    unfold mE at h
    split at h <;> try (cases h; done)
    exact pe_imp (pe_cmpR op_notN (hE_a X sc W _ C tk h) pe_non (nomark _)) fun σ H Q q => rd_notN q
theorem se_not (a : IE) (hE_a : SE T Γ k cm N a) : SE T Γ k cm N (.not a) := by
    intro X sc W e C tk h
    unfold mE at h
    split at h <;> try (cases h; done)
    refine pe_imp (pe_notT (hE_a X sc W _ C tk h)) fun σ H Q q => ?_
    refine rd1 (k := .pl) (t := fun v H1 Q => ∃ k, TruV X.K v H1 k ∧ Q (.bl (!k)) H1) (fun β A ow M H1 σd x v R rx p => ?_) q
    obtain ⟨d, e, p⟩ := post_of p
    cases e2 : truD x with
    | none => rw [e2] at e; cases e
    | some b =>
      rw [e2] at e
      have := Option.some.inj e; subst this
      exact ⟨b, tru_ok' rx.weak e2, post_same (k := .pl) R (by simp) rep_bl p⟩
theorem se_and (a : IE) (b : IE) (hE_a : SE T Γ k cm N a) (hE_b : SE T Γ k cm N b) : SE T Γ k cm N (.and a b) := by
    intro X sc W e C tk h
    have fin : ∀ {t : TE}, (∀ σ H Q, tE X.mg T X.K W .pl (semE Γ T.Cn b) σ H Q → t σ H Q) → nb a = true → ∀ σ H Q, tE X.mg T X.K W .pl (semE Γ T.Cn (.and a b)) σ H Q →
        (tE X.mg T X.K W (kd T a) (semE Γ T.Cn a) σ H fun x H1 => ∃ k, TruV X.K x H1 k ∧ if k = true then t σ H1 Q else Q x H1) := fun {t} hb na σ H Q q => by
      refine tE_mono (tE_bind (k1 := kd T a) (f := fun x σ M1 => match truD x with | some true => semE Γ T.Cn b σ M1 | some false => .ok x M1 | none => .stuck) q) fun v H1 z => ?_
      obtain ⟨β, A, M, ow, σd, x, R, rx, rp, p⟩ := z
      cases e1 : truD x with
      | none => rw [e1] at p; exact p.elim
      | some b' =>
      rw [e1] at p
      refine ⟨b', tru_ok' rx.weak e1, ?_⟩
      cases b' with
      | true => exact iteT (hb _ _ _ ⟨β, A, M, ow, σd, R, p⟩)
      | false => exact iteF (post_same (k := .pl) R (by simp) (rp (nb_kd na)) p)
    unfold mE at h
    split at h <;> try (cases h; done)
    · simp only [Bool.and_eq_true] at h
      obtain ⟨⟨⟨na, nb'⟩, ha⟩, hb⟩ := h
      exact pe_imp (pe_andT (hE_a X sc W _ C tk ha) (pe_one (CT.PE.plain (nb_kd nb') (hE_b X sc W _ C tk hb)))) (fin (fun _ _ _ z => z) na)
    · simp only [Bool.and_eq_true] at h
      obtain ⟨⟨⟨na, nb'⟩, ha⟩, hb⟩ := h
      exact pe_imp (pe_andT (hE_a X sc W _ C tk ha) (CT.PE.plain (nb_kd nb') (hE_b X sc W _ C tk hb))) (fin (fun _ _ _ z => z) na)
theorem se_or (a : IE) (b : IE) (hE_a : SE T Γ k cm N a) (hE_b : SE T Γ k cm N b) : SE T Γ k cm N (.or a b) := by
    intro X sc W e C tk h
    have fin : ∀ {t : TE}, (∀ σ H Q, tE X.mg T X.K W .pl (semE Γ T.Cn b) σ H Q → t σ H Q) → nb a = true → ∀ σ H Q, tE X.mg T X.K W .pl (semE Γ T.Cn (.or a b)) σ H Q →
        (tE X.mg T X.K W (kd T a) (semE Γ T.Cn a) σ H fun x H1 => ∃ k, TruV X.K x H1 k ∧ if k = true then Q x H1 else t σ H1 Q) := fun {t} hb na σ H Q q => by
      refine tE_mono (tE_bind (k1 := kd T a) (f := fun x σ M1 => match truD x with | some true => .ok x M1 | some false => semE Γ T.Cn b σ M1 | none => .stuck) q) fun v H1 z => ?_
      obtain ⟨β, A, M, ow, σd, x, R, rx, rp, p⟩ := z
      cases e1 : truD x with
      | none => rw [e1] at p; exact p.elim
      | some b' =>
      rw [e1] at p
      refine ⟨b', tru_ok' rx.weak e1, ?_⟩
      cases b' with
      | true => exact iteT (post_same (k := .pl) R (by simp) (rp (nb_kd na)) p)
      | false => exact iteF (hb _ _ _ ⟨β, A, M, ow, σd, R, p⟩)
    unfold mE at h
    split at h <;> try (cases h; done)
    · simp only [Bool.and_eq_true] at h
      obtain ⟨⟨⟨na, nb'⟩, ha⟩, hb⟩ := h
      exact pe_imp (pe_orT (hE_a X sc W _ C tk ha) (pe_one (CT.PE.plain (nb_kd nb') (hE_b X sc W _ C tk hb)))) (fin (fun _ _ _ z => z) na)
    · simp only [Bool.and_eq_true] at h
      obtain ⟨⟨⟨na, nb'⟩, ha⟩, hb⟩ := h
      exact pe_imp (pe_orT (hE_a X sc W _ C tk ha) (CT.PE.plain (nb_kd nb') (hE_b X sc W _ C tk hb))) (fin (fun _ _ _ z => z) na)
theorem se_ife (t : IE) (a : IE) (b : IE) (hE_a : SE T Γ k cm N a) (hE_b : SE T Γ k cm N b) (hT_t : ST T Γ k cm N t) : SE T Γ k cm N (.ife t a b) := by
    intro X sc W e C tk h
    unfold mE at h
    split at h <;> try (cases h; done)
    simp only [Bool.and_eq_true] at h
    obtain ⟨⟨⟨⟨na, nb'⟩, ht⟩, ha⟩, hb⟩ := h
    refine pe_imp (pe_ifExp (hT_t X sc W _ C tk ht) (CT.PE.plain (nb_kd na) (hE_a X sc W _ C tk ha)) (CT.PE.plain (nb_kd nb') (hE_b X sc W _ C tk hb))) fun σ H Q q => ?_
    refine tT_mono (tE_test (mg := X.mg) (T := T) (W := W) (ca := semE Γ T.Cn t) (kk := .pl) (Q := Q) (f := fun b' => match b' with | true => semE Γ T.Cn a | false => semE Γ T.Cn b) ?_) fun c H1 z => ?_
    · obtain ⟨β, A, M, ow, σd, R, p⟩ := q
      refine ⟨β, A, M, ow, σd, R, ?_⟩
      have e : semE Γ T.Cn (.ife t a b) σd M = (semE Γ T.Cn t σd M).bind fun x M1 => match truD x with | some b' => (match b' with | true => semE Γ T.Cn a | false => semE Γ T.Cn b) σd M1 | none => .stuck := by
        simp only [semE]
        cases semE Γ T.Cn t σd M with
        | ok d M' =>
          simp only [Res.bind]
          cases truD d with
          | none => rfl
          | some b' => cases b' <;> rfl
        | exc c fs M' => rfl
        | stuck => rfl
      rw [e] at p
      exact p
    · cases c with
      | true => exact iteT z
      | false => exact iteF z
theorem se_tup (es : List IE) (hEs_es : SEs T Γ k cm N es) : SE T Γ k cm N (.tup es) := by
    intro X sc W e C tk h
    unfold mE at h
    split at h <;> try (cases h; done)
    simp only [Bool.and_eq_true] at h
    refine pe_imp (pe_tup ((hEs_es X sc W _ C tk h.2).2 h.1)) fun σ H Q q => ?_
    refine rdA (k := .pl) (ka := .pl) (t := fun xs H1 Q => xs.length ≤ sizeLine ∧ ∀ p, H1 p = none → Q (.ref p) (upd H1 p (.tup xs))) (fun β A ow M H1 σd xs vs R hq r p => ?_) q
    split at p
    · rename_i hl
      have r : Reps X.K β (avo A ow) H1 xs vs := r
      exact ⟨by rw [← r.length]; exact hl, post_tup (k := .pl) R (by simp) r p⟩
    · exact p.elim
theorem se_lst (es : List IE) (hEs_es : SEs T Γ k cm N es) : SE T Γ k cm N (.lst es) := by
    intro X sc W e C tk h
    unfold mE at h
    split at h <;> try (cases h; done)
    simp only [Bool.and_eq_true] at h
    refine pe_imp (pe_lst ((hEs_es X sc W _ C tk h.2).2 h.1)) fun σ H Q q => ?_
    refine rdA (k := .fr) (ka := .pl) (t := fun xs H1 Q => xs.length ≤ sizeLine ∧ ∀ p, H1 p = none → Q (.ref p) (upd H1 p (.lst xs))) (fun β A ow M H1 σd xs vs R hq r p => ?_) q
    split at p
    · rename_i hl
      have r : Reps X.K β (avo A ow) H1 xs vs := r
      exact ⟨by rw [← r.length]; exact hl, post_lst (k := .fr) R r p⟩
    · exact p.elim
theorem se_idx (a : IE) (i : IE) (hE_a : SE T Γ k cm N a) (hE_i : SE T Γ k cm N i) : SE T Γ k cm N (.idx a i) := by
    intro X sc W e C tk h
    unfold mE at h
    split at h <;> try (cases h; done)
    rename_i y z p0
    simp only [Bool.and_eq_true] at h
    obtain ⟨⟨hs, ha⟩, hb⟩ := h
    refine pe_imp (pe_ix ix_seq (hE_a X sc W _ C tk ha) (hE_i X sc W _ C tk hb) (fun _ _ => by cases z <;> first | rfl | (simp [notSlice] at hs))) fun σ H Q q => ?_
    refine rd2 (k := .pl) (fun β A ow M H1 H2 σd x y v w R rx ry p => ?_) q
    obtain ⟨d, e, p⟩ := post_of p
    exact idx_ok R (by simp) rx.weak ry.weak e p
theorem se_slice (a : IE) (lo : List IE) (hi : List IE) (hE_a : SE T Γ k cm N a) (hPs_hi : SPs T Γ k cm N hi) (hPs_lo : SPs T Γ k cm N lo) : SE T Γ k cm N (.slice a lo hi) := by
    intro X sc W e C tk h
    have fin : ∀ σ H Q, tE X.mg T X.K W .pl (semE Γ T.Cn (.slice a lo hi)) σ H Q → tSl (rSl X.K) (tE X.mg T X.K W (kd T a) (semE Γ T.Cn a)) (tO X.mg T X.K W (semEs Γ T.Cn lo)) (tO X.mg T X.K W (semEs Γ T.Cn hi)) σ H Q := fun σ H Q q => by
      refine rdSl (kk := .pl) (fun β A ow M H1 σd x v p q R rx z => ?_) q
      obtain ⟨d, e, z⟩ := post_of z
      exact cut_ok R (.inl (by simp)) rx e z
    have nil : ∀ {l : List IE}, l.isEmpty = true → l = [] := fun {l} z => by cases l <;> first | rfl | (simp at z)
    have one : ∀ {l : List IE} {e : Expr}, mEs T N cm sc l [e] = true → ∃ i, l = [i] ∧ mE T N cm sc i e = true := fun {l e} z => by
      rcases l with _ | ⟨i, _ | ⟨j, r⟩⟩
      · simp [mEs] at z
      · simp only [mEs, Bool.and_eq_true] at z
        exact ⟨i, rfl, z.1⟩
      · simp [mEs] at z
    unfold mE at h
    split at h <;> try (cases h; done)
    · simp only [Bool.and_eq_true] at h
      obtain ⟨⟨ha, h1⟩, h2⟩ := h
      have := nil h1; have := nil h2; subst_vars
      exact pe_imp (pe_slice sl_any (hE_a X sc W _ C tk ha) po_nil po_nil) fin
    · simp only [Bool.and_eq_true] at h
      obtain ⟨⟨ha, h1⟩, h2⟩ := h
      have := nil h2; subst this
      have r := (hPs_lo X sc W _ C tk h1)
      exact pe_imp (pe_slice sl_any (hE_a X sc W _ C tk ha) r po_nil) fin
    · simp only [Bool.and_eq_true] at h
      obtain ⟨⟨ha, h1⟩, h2⟩ := h
      have := nil h1; subst this
      have r := (hPs_hi X sc W _ C tk h2)
      exact pe_imp (pe_slice sl_any (hE_a X sc W _ C tk ha) po_nil r) fin
    · simp only [Bool.and_eq_true] at h
      obtain ⟨⟨ha, h1⟩, h2⟩ := h
      have r1 := (hPs_lo X sc W _ C tk h1)
      have r2 := (hPs_hi X sc W _ C tk h2)
      exact pe_imp (pe_slice sl_any (hE_a X sc W _ C tk ha) r1 r2) fin
theorem se_call (f : Str) (es : List IE) (hEs_es : SEs T Γ k cm N es) : SE T Γ k cm N (.call f es) := by
    intro X sc W e C tk h
    unfold mE at h
    split at h <;> try (cases h; done)
    rename_i x p y ys p2
    simp only [Bool.and_eq_true, decide_eq_true_eq] at h
    obtain ⟨⟨⟨⟨⟨⟨hc, rfl⟩, hg⟩, hn⟩, hnb⟩, hf⟩, hm⟩ := h
    split at hf
    · rename_i n fr hfn
      obtain ⟨fa, fd, ps, hl, h1, h2, h3, h4⟩ := C.fx.fn _ n fr hfn
      have hst := mEs_star hm
      simp only [List.all_cons, Bool.and_eq_true] at hst
      refine pe_imp (pe_callS (E := WE W) h4 (C.room hc) (glb_of C.sc hg) h1 h2 h3 (fun σ => passAt tk σ) ((hEs_es X sc W _ C tk hm).2 hnb) (nm_of hn).1 (star_cons hst.1) (star_none hst.2)) fun σ H Q q => ?_
      have hk : kd T (.call f es) = if fr then .fr else .pl := by
        simp only [kd, hfn]
        cases fr <;> rfl
      rw [hk] at q
      refine rdA (ka := .pl) (t := fun vs H1 Q => spOf X.mg T X.K n fr (Γ f) vs H1 Q (WE W σ)) (fun β A ow M H1 σd xs vs R hq r p => ?_) q
      have r : Reps X.K β (avo A ow) H1 xs vs := r
      by_cases hlen : xs.length = n
      · refine ⟨R.tab, β, avo A ow, M, xs, R.mem, fun a z => R.avoLive z, r, hlen, ?_⟩
        cases q2 : Γ f xs M with
        | ok d M' => rw [q2] at p; exact p
        | exc c fs M' => rw [q2] at p; exact p
        | stuck => rw [q2] at p; exact p
      · obtain ⟨M0, hq⟩ := hq
        simp only [beq_iff_eq] at hf
        exact absurd (by rw [hf]; exact semEs_len hq) hlen
    · cases hf
theorem se_blt (f : Bf) (es : List IE) (hEs_es : SEs T Γ k cm N es) : SE T Γ k cm N (.blt f es) := by
    intro X sc W e C tk h
    unfold mE at h
    split at h <;> try (cases h; done)
    rename_i x p y ys p2
    simp only [Bool.and_eq_true, decide_eq_true_eq] at h
    obtain ⟨⟨⟨hc, rfl⟩, hg⟩, hm⟩ := h
    have hst := mEs_star hm
    simp only [List.all_cons, Bool.and_eq_true] at hst
    refine pe_imp (pe_bf (C.calm hc) f (glb_of C.sc hg) (mem_blt C (by cases f <;> decide +kernel)) (hEs_es X sc W _ C tk hm).1 (star_cons hst.1) (star_none hst.2)) fun σ H Q q => ?_
    refine rdA (ka := .br) (t := fun vs H1 Q => rBf X.K f vs H1 Q) (fun β A ow M H1 σd xs vs R hq r p => ?_) q
    obtain ⟨d, e, p⟩ := post_of p
    refine bf_ok R ?_ r e p
    cases f with
    | list =>
      rcases xs with _ | ⟨x, _ | ⟨y, r⟩⟩
      · simp [bltD] at e
      · cases x <;> simp [bltD] at e <;> exact .inr ⟨_, e.symm⟩
      · cases x <;> simp [bltD] at e
    | sorted =>
      rcases xs with _ | ⟨x, _ | ⟨y, r⟩⟩
      · simp [bltD] at e
      · exact .inr (sorted_lst e)
      · cases x <;> simp [bltD] at e
    | _ => exact .inl (by simp [kd])
theorem se_isi (ts : List Ty) (a : IE) (hE_a : SE T Γ k cm N a) : SE T Γ k cm N (.isi ts a) := by
    intro X sc W e C tk h
    unfold mE at h
    split at h <;> try (cases h; done)
    · simp only [Bool.and_eq_true, decide_eq_true_eq] at h
      obtain ⟨⟨⟨rfl, hg⟩, ha⟩, ht⟩ := h
      obtain ⟨ty, rfl⟩ : ∃ ty, ts = [ty] := by
        rcases ts with _ | ⟨ty, _ | ⟨u, r⟩⟩
        · simp [tysAre] at ht
        · exact ⟨ty, rfl⟩
        · simp [tysAre] at ht
      simp only [tysAre, tyIs, Bool.and_eq_true, decide_eq_true_eq] at ht
      obtain ⟨⟨rfl, hg2⟩, _⟩ := ht
      refine pe_imp (pe_callB call_isi (glb_of C.sc hg) (mem_blt C (by decide +kernel)) PyProof.Rows.boot_isinstance (pa_cons (hE_a X sc W _ C tk ha) (pa_cons (pe_ty ty (glb_of C.sc hg2) (mem_blt C (by cases ty <;> decide +kernel))) pa_nil) (star_cons (mE_star ha))) (by decide +kernel) (by decide +kernel) (star_cons (mE_star ha)) rfl) fun σ H Q q => ?_
      refine rd1 (k := .pl) (t := fun v H1 Q => rIsi X.K [v, .ty (tyName ty)] H1 Q) (fun β A ow M H1 σd x v R rx p => ?_) q
      split at p
      · rename_i htb
        refine ⟨v, _, _, _, _, rfl, .ty _, tyX_of htb rx.weak, kit_isTy x htb ty, ?_⟩
        have : ([ty].any fun t => isTy t x) = isTy ty x := by simp
        rw [this] at p
        exact post_same (k := .pl) R (by simp) rep_bl p
      · exact p.elim
    · simp only [Bool.and_eq_true, decide_eq_true_eq] at h
      obtain ⟨⟨⟨⟨rfl, hg⟩, ha⟩, ht⟩, hl⟩ := h
      obtain ⟨t, pt, hst, hr⟩ := snd_tys C ts _ ht
      refine pe_imp (pe_callB call_isiT (glb_of C.sc hg) (mem_blt C (by decide +kernel)) PyProof.Rows.boot_isinstance (pa_cons (hE_a X sc W _ C tk ha) (pa_cons (pe_tup pt) pa_nil) (star_cons (mE_star ha))) (by decide +kernel) (by decide +kernel) (star_cons (mE_star ha)) rfl) fun σ H Q q => ?_
      refine rd1 (k := .pl) (t := fun v H1 Q => t σ H1 fun xs H2 => xs.length ≤ sizeLine ∧ ∀ p, H2 p = none → rIsiT X.K [v, .ref p] (upd H2 p (.tup xs)) Q) (fun β A ow M H1 σd x v R rx p => ?_) q
      split at p
      · rename_i htb
        refine hr σ H1 _ ⟨?_, fun pa hp => ?_⟩
        · rw [List.length_map, sizeLine_eq]
          omega
        · have ex : Ext β H1 β (upd H1 pa (.tup (ts.map fun t => V.ty (tyName t)))) := Ext.new hp
          have R2 := R.mono ex (R.mem.new hp)
          exact ⟨v, pa, _, _, _, _, rfl, upd_same, clsVs ts, tyX_of htb (rx.weak.mono ex), kit_isTys x htb ts, post_same (k := .pl) R2 (by simp) rep_bl (Post.later ex p)⟩
      · exact p.elim
theorem se_comp (elt : IE) (tg : Tgt) (own : List (Str × Nat)) (kq : SK) (src : List IE) (ifs : List IE) (hE_elt : SE T Γ k cm N elt) (hE1_src : SE1 T Γ k cm N src) (hEs_src : SEs T Γ k cm N src) (hIf_ifs : SIf T Γ k cm N ifs) : SE T Γ k cm N (.comp elt tg own kq src ifs) := by
    intro X sc W e C tk h
    unfold mE at h
    split at h <;> try (cases h; done)
    rename_i x t i fs scope pos
    simp only [Bool.and_eq_true, List.all_eq_true, decide_eq_true_eq] at h
    obtain ⟨⟨⟨⟨⟨⟨⟨⟨hc, hb⟩, ht⟩, hsl⟩, hnb⟩, he⟩, hi⟩, hl⟩, hsrc⟩ := h
    have hsrc' : mSrc T N cm sc kq src t i = true := hsrc
    have hcalm := C.calm hc
    have hset : notSet i = true := by
      cases i <;> first | rfl | (cases kq <;> simp [mSrc, notSet] at hsrc')
    have pi := sndI (bw := true) (kk := .br) C rfl kq t i hsrc' (fun s hs hm => CT.PE.weak (hE1_src s hs X sc W i C tk hm)) (fun es hm => (hEs_src X sc W es C tk hm).1)
    have bo : BlkOk X.N X.env.scope scope own := blkOk_by (by rw [C.n, C.sc]; exact hb)
    refine pe_imp (pe_lc (g := gOf X.K tg) (tt := tTs X.mg T X.K WF (semIf Γ T.Cn ifs)) (te := tE X.mg T X.K WF (kd T elt) (semE Γ T.Cn elt)) hcalm (by rw [C.n]; exact C.nd) pi bo
      (fun s H A cl fp => sndG tg (X.blk s H scope (compEnvC scope cl A X.env) fp) false (relS scope sc) t (C.blk s H scope A cl fp).n C.nd (C.blk s H scope A cl fp).sc (fun z => (nomatch z)) hcalm ht)
      (fun s H A cl fp => hIf_ifs (X.blk s H scope (compEnvC scope cl A X.env) fp) (relS scope sc) WF fs (C.blk s H scope A cl fp) takes0 hi hl)
      (fun s H A cl fp => hE_elt (X.blk s H scope (compEnvC scope cl A X.env) fp) (relS scope sc) WF x (C.blk s H scope A cl fp) takes0 he) (set_folded hset)) fun σ H Q q => ?_
    refine comp_ok (ci := semI Γ T.Cn kq src) (kk := .fr) (nb_kd hnb) (fun j hj => by simpa using hsl j hj) ?_
    obtain ⟨β, A, M, ow, σd, R, p⟩ := q
    refine ⟨β, A, M, ow, σd, R, ?_⟩
    have e : semE Γ T.Cn (.comp elt tg own kq src ifs) σd M = (semI Γ T.Cn kq src σd M).bind fun items M1 => (compL (turnG Γ T.Cn elt tg own ifs σd) items 0 M1).bind fun ys M2 => .ok (.lst ys) M2 := by
      simp only [semE, semI]
      cases semEs Γ T.Cn src σd M with
      | ok xs M1 =>
        simp only [Res.bind, Res.of]
        cases srcD kq xs <;> rfl
      | exc c fs M' => rfl
      | stuck => rfl
    rw [e] at p
    exact p
theorem se_rev (a : IE) (hE_a : SE T Γ k cm N a) : SE T Γ k cm N (.rev a) := by
    intro X sc W e C tk h
    unfold mE at h
    split at h <;> try (cases h; done)
    simp only [Bool.and_eq_true, decide_eq_true_eq] at h
    obtain ⟨rfl, ha⟩ := h
    refine pe_imp (pe_rev (hE_a X sc W _ C tk ha)) fun σ H Q q => ?_
    refine rd1 (k := .pl) (t := fun v H1 Q => ∃ a xs, v = .ref a ∧ ((SqL X.K H1 a xs ∧ ∀ p, H1 p = none → Q (.ref p) (upd H1 p (.lst xs.reverse))) ∨ (SqT X.K H1 a xs ∧ ∀ p, H1 p = none → Q (.ref p) (upd H1 p (.tup xs.reverse))))) (fun β A ow M H1 σd x v R rx p => ?_) q
    obtain ⟨d, e, p⟩ := post_of p
    cases x <;> simp only [revD] at e <;> try (cases e; done)
    · obtain ⟨a, vs, rfl, t, r⟩ := repW_tup rx.weak
      have := Option.some.inj e; subst this
      exact ⟨a, vs, rfl, .inr ⟨t.sq, post_tup (k := .pl) R (by simp) r.reverse p⟩⟩
    · obtain ⟨a, vs, rfl, t, r⟩ := repW_lst rx.weak
      have := Option.some.inj e; subst this
      exact ⟨a, vs, rfl, .inl ⟨.inl (.inl t), post_lst (k := .pl) R r.reverse p⟩⟩
theorem zip_reps {K : PySem.W.Frag} {β : List Addr} {A : Addr → Prop} {H1 H2 : Hp} (hβ : ∀ b ∈ β, H1 b ≠ none) : ∀ {xs ys : List V} {ds es : List D} {ps : List V}, Reps K β A H2 ds xs → Reps K β A H2 es ys → ps.length = min xs.length ys.length →
    (∀ j x y, j < min xs.length ys.length → xs[j]? = some x → ys[j]? = some y → ∃ T, ps[j]? = some (.ref T) ∧ H2 T = some (.tup [x, y]) ∧ H1 T = none) → Reps K β A H2 (zipL ds es) ps
  | xs, ys, [], es, ps, hx, hy, hl, h => by
    simp only [Reps] at hx; subst hx
    have : ps = [] := List.eq_nil_of_length_eq_zero (by simpa using hl)
    subst this
    simp only [zipL]; exact Reps.nil
  | xs, ys, d :: ds, [], ps, hx, hy, hl, h => by
    simp only [Reps] at hy; subst hy
    have : ps = [] := List.eq_nil_of_length_eq_zero (by simpa using hl)
    subst this
    simp only [zipL]; exact Reps.nil
  | xs, ys, d :: ds, e :: es, ps, hx, hy, hl, h => by
    simp only [Reps] at hx hy
    obtain ⟨x, xr, rfl, hx1, hx2⟩ := hx
    obtain ⟨y, yr, rfl, hy1, hy2⟩ := hy
    obtain ⟨T, t1, t2, t3⟩ := h 0 x y (by simp only [List.length_cons]; omega) rfl rfl
    cases ps with
    | nil => simp at t1
    | cons p ps =>
      have t1 : p = .ref T := by simpa using t1
      subst t1
      simp only [zipL]
      refine Reps.cons ?_ (zip_reps hβ hx2 hy2 (by simp only [List.length_cons] at hl; omega) fun j x' y' hj hx' hy' => by
        have := h (j + 1) x' y' (by simp only [List.length_cons]; omega) (by simpa using hx') (by simpa using hy')
        simpa using this)
      simp only [Rep]
      exact ⟨T, [x, y], rfl, .inl ⟨.inl t2, fun z => hβ T z t3⟩, Reps.cons hx1 (Reps.one hy1)⟩
theorem prs_ext {H1 H2 : Hp} {S : Addr} {xs ys vs : List V} {i : Nat} {β : List Addr} (p : Prs H1 H2 S xs ys vs i) : Ext β H1 β H2 :=
  ⟨⟨[], by simp, by simp⟩, fun b o q _ _ _ => p.old b o q, fun b q => by
    cases h : H1 b with
    | none => exact absurd h q
    | some o => rw [p.old b o h]; simp, fun t y hy => (t y hy).ext fun b u q => p.old b u q⟩
theorem prs_mem {H1 H2 : Hp} {S : Addr} {xs ys vs : List V} {i : Nat} {β : List Addr} {M : Mem} (p : Prs H1 H2 S xs ys vs i) (m : RepM β H1 M) : RepM β H2 M :=
  ⟨m.len, m.nd, fun n a mo h1 h2 => by
    have q := m.at_ n a mo h1 h2
    cases mo with
    | bag x y z => obtain ⟨l, q1, q2⟩ := q; exact ⟨l, p.old _ _ q1, q2⟩
    | cells cs => exact p.old _ _ q⟩
theorem se_zipl (a : IE) (b : IE) (hE_a : SE T Γ k cm N a) (hE_b : SE T Γ k cm N b) : SE T Γ k cm N (.zipl a b) := by
    intro X sc W e C tk h
    unfold mE at h
    split at h <;> try (cases h; done)
    simp only [Bool.and_eq_true, decide_eq_true_eq] at h
    obtain ⟨⟨⟨⟨⟨⟨hc, rfl⟩, rfl⟩, h1⟩, h2⟩, ha⟩, hb⟩ := h
    refine pe_imp (pe_lz (C.calm hc) (glb_of C.sc h2) (mem_blt C (by decide +kernel)) (glb_of C.sc h1) (mem_blt C (by decide +kernel)) (pa_cons (hE_a X sc W _ C tk ha) (pa_cons (hE_b X sc W _ C tk hb) pa_nil (star_cons (mE_star hb))) (star_cons (mE_star ha)))
      (by rw [star_cons (mE_star ha)]) (star_none (by simp [mE_star hb]))) fun σ H Q q => ?_
    refine rd2 (k := .fr) (r := fun v w H2 Q => ∃ a b xs ys, [v, w] = [V.ref a, V.ref b] ∧ ((SqL X.K H2 a xs ∧ SqL X.K H2 b ys) ∨ (SqT X.K H2 a xs ∧ SqT X.K H2 b ys)) ∧ ∀ p H3 ps, Prs H2 H3 p xs ys ps (min xs.length ys.length) → Q (.ref p) H3) (fun β A ow M H1 H2 σd x y v w R rx ry p => ?_) q
    obtain ⟨d, e, p⟩ := post_of p
    have fin : ∀ {xs ys : List V} {ds es : List D}, Reps X.K β (avo A ow) H2 ds xs → Reps X.K β (avo A ow) H2 es ys → d = .lst (zipL ds es) → ∀ q H3 ps, Prs H2 H3 q xs ys ps (min xs.length ys.length) → Q (.ref q) H3 := fun {xs ys ds es} r1 r2 ed q H3 ps pr => by
      subst ed
      have ex : Ext β H2 β H3 := prs_ext pr
      have nb : q ∉ β := fun z => R.mem.live z pr.new
      refine p β (.ref q) H3 ex (prs_mem pr R.mem) ⟨q, rfl, pr.new, nb, ps, pr.lst, ?_⟩
      have r1' : Reps X.K β (fun z => avo A ow z ∨ z = q) H3 ds xs := r1.mono ex fun z hz n => hz.elim id fun hz => absurd pr.new (hz ▸ n)
      have r2' : Reps X.K β (fun z => avo A ow z ∨ z = q) H3 es ys := r2.mono ex fun z hz n => hz.elim id fun hz => absurd pr.new (hz ▸ n)
      exact zip_reps (fun b hb => R.mem.live hb) r1' r2' pr.len pr.it
    cases x <;> cases y <;> simp only [ziplD] at e <;> try (cases e; done)
    · obtain ⟨a, vs, rfl, t, r⟩ := repW_tup rx.weak
      obtain ⟨b, ws, rfl, t2, r2⟩ := repW_tup ry.weak
      exact ⟨a, b, vs, ws, rfl, .inr ⟨t.sq, t2.sq⟩, fin r r2 (Option.some.inj e).symm⟩
    · obtain ⟨a, vs, rfl, t, r⟩ := repW_lst rx.weak
      obtain ⟨b, ws, rfl, t2, r2⟩ := repW_lst ry.weak
      exact ⟨a, b, vs, ws, rfl, .inl ⟨.inl (.inl t), .inl (.inl t2)⟩, fin r r2 (Option.some.inj e).symm⟩
/-! sorted(set(xs)) -/
theorem insU_mem {x k : Int} : ∀ {l : List Int}, k ∈ insU x l ↔ k = x ∨ k ∈ l
  | [] => by simp [insU]
  | y :: r => by
    unfold insU
    split
    · simp
    · split
      · rename_i h; subst h; simp
      · simp only [List.mem_cons, insU_mem (l := r)]
        constructor <;> (intro h; rcases h with h | h | h <;> simp [h])
theorem sortU_mem {k : Int} : ∀ {l : List Int}, k ∈ sortU l ↔ k ∈ l
  | [] => by simp [sortU]
  | x :: r => by
    unfold sortU
    rw [insU_mem, sortU_mem (l := r)]; simp
theorem insU_rise {x : Int} : ∀ {l : List Int}, l.Pairwise (· < ·) → (insU x l).Pairwise (· < ·)
  | [], _ => by simp [insU]
  | y :: r, h => by
    obtain ⟨h1, h2⟩ := List.pairwise_cons.mp h
    unfold insU
    split
    · rename_i hx
      refine List.pairwise_cons.mpr ⟨fun z hz => ?_, h⟩
      rcases List.mem_cons.mp hz with e | e
      · rw [e]; exact hx
      · exact Int.lt_trans hx (h1 z e)
    · split
      · exact h
      · rename_i n1 n2
        refine List.pairwise_cons.mpr ⟨fun z hz => ?_, insU_rise h2⟩
        rcases insU_mem.mp hz with e | e
        · rw [e]; omega
        · exact h1 z e
theorem sortU_rise : ∀ l : List Int, (sortU l).Pairwise (· < ·)
  | [] => .nil
  | x :: r => insU_rise (sortU_rise r)
theorem rise_one : ∀ {a b : List Int}, a.Pairwise (· < ·) → b.Pairwise (· < ·) → (∀ k, k ∈ a ↔ k ∈ b) → a = b
  | [], [], _, _, _ => rfl
  | [], y :: b, _, _, h => by have := (h y).mpr List.mem_cons_self; cases this
  | x :: a, [], _, _, h => by have := (h x).mp List.mem_cons_self; cases this
  | x :: a, y :: b, ha, hb, h => by
    obtain ⟨a1, a2⟩ := List.pairwise_cons.mp ha
    obtain ⟨b1, b2⟩ := List.pairwise_cons.mp hb
    have e : x = y := by
      rcases List.mem_cons.mp ((h x).mp List.mem_cons_self) with e | e
      · exact e
      · rcases List.mem_cons.mp ((h y).mpr List.mem_cons_self) with e2 | e2
        · exact e2.symm
        · have := b1 x e; have := a1 y e2; omega
    subst e
    refine congrArg (x :: ·) (rise_one a2 b2 fun k => ⟨fun hk => ?_, fun hk => ?_⟩)
    · rcases List.mem_cons.mp ((h k).mp (List.mem_cons_of_mem _ hk)) with e | e
      · have := a1 k hk; omega
      · exact e
    · rcases List.mem_cons.mp ((h k).mpr (List.mem_cons_of_mem _ hk)) with e | e
      · have := b1 k hk; omega
      · exact e
theorem se_sset (a : IE) (hE_a : SE T Γ k cm N a) : SE T Γ k cm N (.sset a) := by
    intro X sc W e C tk h
    unfold mE at h
    split at h <;> try (cases h; done)
    simp only [Bool.and_eq_true, decide_eq_true_eq] at h
    obtain ⟨⟨⟨⟨⟨hc, rfl⟩, rfl⟩, h1⟩, h2⟩, ha⟩ := h
    refine pe_imp (pe_callB (cr_sortedSet (C.calm hc)) (glb_of C.sc h1) (mem_blt C (by decide +kernel)) (by decide +kernel)
      (pa_cons (pe_callTy (cr_setI (C.calm hc)) (glb_of C.sc h2) (mem_blt C (by decide +kernel)) (by decide +kernel) (pa_cons (hE_a X sc W _ C tk ha) pa_nil (star_cons (mE_star ha))) (by decide +kernel) (by decide +kernel) (star_cons (mE_star ha)) rfl) pa_nil)
      (by decide +kernel) (by decide +kernel)) fun σ H Q q => ?_
    refine rd1 (k := .fr) (t := fun v H1 Q => rSetI X.K X.w [v] H1 fun u H2 => rSortedSet X.w [u] H2 Q) (fun β A ow M H1 σd x v R rx p => ?_) q
    obtain ⟨d, e, p⟩ := post_of p
    have fin : ∀ {ns : List Int} {b : Addr}, v = .ref b → (SqL X.K H1 b (ns.map V.int) ∨ SqT X.K H1 b (ns.map V.int)) → ns.length < 64 → d = .lst ((sortU ns).map .int) → rSetI X.K X.w [v] H1 fun u H2 => rSortedSet X.w [u] H2 Q := fun {ns b} ev sq hl ed => by
      subst ev ed
      refine ⟨b, ns, rfl, sq, hl, fun c m hcn hm => ⟨c, _, m, rfl, upd_same, by omega, fun ns' p' hr hmem hlen hp' => ?_⟩⟩
      have e1 : ns' = sortU ns := rise_one hr (sortU_rise ns) fun k => by rw [hmem k, sortU_mem]; simp
      subst e1
      have R2 : RE X.K β A (upd H1 c (SetO X.w c (fun j => decide (j ∈ ns)) m)) M ow σd σ := R.mono (Ext.new hcn) (R.mem.new hcn)
      exact post_lst (k := .fr) R2 (reps_ints _) (Post.later (Ext.new hcn) p) p' hp'
    cases x <;> simp only [ssetD] at e <;> try (cases e; done)
    · obtain ⟨b, vs, rfl, t, r⟩ := repW_tup rx.weak
      cases q : intsD _ with
      | none => rw [q] at e; cases e
      | some ns =>
        rw [q] at e
        simp only [Option.bind_some] at e
        obtain ⟨q1, _⟩ := ints_reps r q; subst q1
        split at e
        · exact fin rfl (.inr t.sq) (by assumption) (Option.some.inj e).symm
        · cases e
    · obtain ⟨b, vs, rfl, t, r⟩ := repW_lst rx.weak
      cases q : intsD _ with
      | none => rw [q] at e; cases e
      | some ns =>
        rw [q] at e
        simp only [Option.bind_some] at e
        obtain ⟨q1, _⟩ := ints_reps r q; subst q1
        split at e
        · exact fin rfl (.inl (.inl (.inl t))) (by assumption) (Option.some.inj e).symm
        · cases e
theorem se_dcomp (kx vx : IE) (tg : Tgt) (own : List (Str × Nat)) (kq : SK) (src : List IE) (hE_k : SE T Γ k cm N kx) (hE_v : SE T Γ k cm N vx) (hE1_src : SE1 T Γ k cm N src) (hEs_src : SEs T Γ k cm N src) : SE T Γ k cm N (.dcomp kx vx tg own kq src) := by
    intro X sc W e C tk h
    unfold mE at h
    split at h <;> try (cases h; done)
    rename_i x y t i scope pos
    simp only [Bool.and_eq_true, List.all_eq_true] at h
    obtain ⟨⟨⟨⟨⟨⟨⟨⟨hc, hb⟩, ht⟩, hsl⟩, hn1⟩, hn2⟩, hx⟩, hy⟩, hsrc⟩ := h
    have hsrc' : mSrc T N cm sc kq src t i = true := hsrc
    have hcalm := C.calm hc
    have hset : notSet i = true := by
      cases i <;> first | rfl | (cases kq <;> simp [mSrc, notSet] at hsrc')
    have pi := sndI (bw := true) (kk := .br) C rfl kq t i hsrc' (fun s hs hm => CT.PE.weak (hE1_src s hs X sc W i C tk hm)) (fun es hm => (hEs_src X sc W es C tk hm).1)
    have bo : BlkOk X.N X.env.scope scope own := blkOk_by (by rw [C.n, C.sc]; exact hb)
    refine pe_imp (pe_dc (g := gOf X.K tg) (tt := fun σ H Q => Q true H) (tk := tE X.mg T X.K WF (kd T kx) (semE Γ T.Cn kx)) (tv := tE X.mg T X.K WF (kd T vx) (semE Γ T.Cn vx)) hcalm (by rw [C.n]; exact C.nd) pi bo
      (fun s H A cl fp => sndG tg (X.blk s H scope (compEnvC scope cl A X.env) fp) false (relS scope sc) t (C.blk s H scope A cl fp).n C.nd (C.blk s H scope A cl fp).sc (fun z => (nomatch z)) hcalm ht)
      (fun s H A cl fp => pts_nil)
      (fun s H A cl fp => hE_k (X.blk s H scope (compEnvC scope cl A X.env) fp) (relS scope sc) WF x (C.blk s H scope A cl fp) takes0 hx)
      (fun s H A cl fp => hE_v (X.blk s H scope (compEnvC scope cl A X.env) fp) (relS scope sc) WF y (C.blk s H scope A cl fp) takes0 hy) (set_folded hset)) fun σ H Q q => ?_
    refine dcomp_ok (ci := semI Γ T.Cn kq src) (kk := .fr) (nb_kd hn1) (nb_kd hn2) (fun j hj => by simpa using hsl j hj) ?_
    obtain ⟨β, A, M, ow, σd, R, p⟩ := q
    refine ⟨β, A, M, ow, σd, R, ?_⟩
    have e : semE Γ T.Cn (.dcomp kx vx tg own kq src) σd M = (semI Γ T.Cn kq src σd M).bind fun items M1 => (compKL (turnK Γ T.Cn kx vx tg own σd) items [] M1).bind fun kvs M2 => .ok (.dct (kvs.map fun p => keyD p.1) (kvs.map (·.2))) M2 := by
      simp only [semE, semI]
      cases semEs Γ T.Cn src σd M with
      | ok xs M1 =>
        simp only [Res.bind, Res.of]
        cases srcD kq xs <;> rfl
      | exc c fs M' => rfl
      | stuck => rfl
    rw [e] at p
    exact p
theorem sw_and (a b : IE) (hT_a : ST T Γ k cm N a) (hT_b : ST T Γ k cm N b) (hW_b : SW T Γ k cm N b) : SW T Γ k cm N (.and a b) := by
    intro X sc W op vs p C tk h
    have fin : ∀ σ H Q, tT X.mg T X.K W (semE Γ T.Cn (.and a b)) σ H Q → tAnd (tT X.mg T X.K W (semE Γ T.Cn a)) (tT X.mg T X.K W (semE Γ T.Cn b)) σ H Q := fun σ H Q q => by
      refine tT_mono (tT_test (mg := X.mg) (T := T) (W := W) (ca := semE Γ T.Cn a) (QB := Q) (f := fun x b' => match b' with | true => semE Γ T.Cn b | false => fun _ M => Res.ok x M) ?_) fun c H1 z => ?_
      · obtain ⟨β, A, M, ow, σd, R, p⟩ := q
        refine ⟨β, A, M, ow, σd, R, ?_⟩
        have e : semE Γ T.Cn (.and a b) σd M = (semE Γ T.Cn a σd M).bind fun x M1 => match truD x with | some b' => (match b' with | true => semE Γ T.Cn b | false => fun _ M => Res.ok x M) σd M1 | none => .stuck := by
          simp only [semE]
          cases semE Γ T.Cn a σd M with
          | ok d M' =>
            simp only [Res.bind]
            cases truD d with
            | none => rfl
            | some b' => cases b' <;> rfl
          | exc c fs M' => rfl
          | stuck => rfl
        rw [e] at p
        exact p
      · obtain ⟨x, e, z⟩ := z
        cases c with
        | true => exact iteT z
        | false => exact iteF (tT_now e z)
    unfold mE at h
    split at h <;> try (cases h; done)
    · rename_i q; cases q
      simp only [Bool.and_eq_true] at h
      obtain ⟨⟨⟨na, nb'⟩, ha⟩, hb⟩ := h
      exact pw_imp (pw_and (hT_a X sc W _ C tk ha) (pw_and1 (hT_b X sc W _ C tk hb))) fin
    · rename_i q; cases q
      simp only [Bool.and_eq_true] at h
      obtain ⟨⟨⟨na, nb'⟩, ha⟩, hb⟩ := h
      exact pw_imp (pw_and (hT_a X sc W _ C tk ha) (hW_b X sc W _ _ _ C tk hb)) fin
theorem sw_or (a b : IE) (hT_a : ST T Γ k cm N a) (hT_b : ST T Γ k cm N b) (hW_b : SW T Γ k cm N b) : SW T Γ k cm N (.or a b) := by
    intro X sc W op vs p C tk h
    have fin : ∀ σ H Q, tT X.mg T X.K W (semE Γ T.Cn (.or a b)) σ H Q → tOr (tT X.mg T X.K W (semE Γ T.Cn a)) (tT X.mg T X.K W (semE Γ T.Cn b)) σ H Q := fun σ H Q q => by
      refine tT_mono (tT_test (mg := X.mg) (T := T) (W := W) (ca := semE Γ T.Cn a) (QB := Q) (f := fun x b' => match b' with | true => fun _ M => Res.ok x M | false => semE Γ T.Cn b) ?_) fun c H1 z => ?_
      · obtain ⟨β, A, M, ow, σd, R, p⟩ := q
        refine ⟨β, A, M, ow, σd, R, ?_⟩
        have e : semE Γ T.Cn (.or a b) σd M = (semE Γ T.Cn a σd M).bind fun x M1 => match truD x with | some b' => (match b' with | true => fun _ M => Res.ok x M | false => semE Γ T.Cn b) σd M1 | none => .stuck := by
          simp only [semE]
          cases semE Γ T.Cn a σd M with
          | ok d M' =>
            simp only [Res.bind]
            cases truD d with
            | none => rfl
            | some b' => cases b' <;> rfl
          | exc c fs M' => rfl
          | stuck => rfl
        rw [e] at p
        exact p
      · obtain ⟨x, e, z⟩ := z
        cases c with
        | true => exact iteT (tT_now e z)
        | false => exact iteF z
    unfold mE at h
    split at h <;> try (cases h; done)
    · rename_i q; cases q
      simp only [Bool.and_eq_true] at h
      obtain ⟨⟨⟨na, nb'⟩, ha⟩, hb⟩ := h
      exact pw_imp (pw_or (hT_a X sc W _ C tk ha) (pw_or1 (hT_b X sc W _ C tk hb))) fin
    · rename_i q; cases q
      simp only [Bool.and_eq_true] at h
      obtain ⟨⟨⟨na, nb'⟩, ha⟩, hb⟩ := h
      exact pw_imp (pw_or (hT_a X sc W _ C tk ha) (hW_b X sc W _ _ _ C tk hb)) fin
theorem st_not (a : IE) (hT_a : ST T Γ k cm N a) : ST T Γ k cm N (.not a) := by
    intro X sc W e C tk h
    unfold mE at h
    split at h <;> try (cases h; done)
    refine pt_imp (pt_not (hT_a X sc W _ C tk h)) fun σ H Q q => ?_
    obtain ⟨β, A, M, ow, σd, R, p⟩ := q
    refine ⟨β, A, M, ow, σd, R, ?_⟩
    simp only [semE] at p
    cases q : semE Γ T.Cn a σd M with
    | stuck => rw [q] at p; exact p
    | exc c fs M' => rw [q] at p; exact p
    | ok d M' =>
      rw [q] at p
      simp only [Res.bind] at p
      cases qt : truD d with
      | none => rw [qt] at p; exact p.elim
      | some b =>
        rw [qt] at p
        obtain ⟨b', e, p⟩ := p
        cases e
        exact ⟨b, qt, p⟩
theorem st_and (a b : IE) (hw : SW T Γ k cm N (.and a b)) : ST T Γ k cm N (.and a b) := by
    intro X sc W e C tk h
    have h' := h
    unfold mE at h
    split at h <;> try (cases h; done)
    · exact (hw X sc W _ _ _ C tk h').pt
    · exact (hw X sc W _ _ _ C tk h').pt
theorem st_or (a b : IE) (hw : SW T Γ k cm N (.or a b)) : ST T Γ k cm N (.or a b) := by
    intro X sc W e C tk h
    have h' := h
    unfold mE at h
    split at h <;> try (cases h; done)
    · exact (hw X sc W _ _ _ C tk h').pt
    · exact (hw X sc W _ _ _ C tk h').pt
theorem st_cmp (c : Cm) (a : IE) (b : IE) (hE_a : SE T Γ k cm N a) (hE_b : SE T Γ k cm N b) : ST T Γ k cm N (.cmp c a b) := by
    intro X sc W e C tk h
    unfold mE at h
    split at h <;> try (cases h; done)
    simp only [Bool.and_eq_true, cmIs, decide_eq_true_eq] at h
    obtain ⟨⟨⟨rfl, ha⟩, hb⟩, hs⟩ := h
    exact pt_imp (pt_cmpR (op_cmp C.un c) (hE_a X sc W _ C tk ha) (hE_b X sc W _ C tk hb) (nomark' hs)) fun σ H Q q => rd_cmp (tT_bls bls_cmp q)
theorem st_chain (c : Cm) (d : Cm) (p : IE) (q : IE) (r : IE) (hE_p : SE T Γ k cm N p) (hE_q : SE T Γ k cm N q) (hE_r : SE T Γ k cm N r) : ST T Γ k cm N (.chain c d p q r) := by
    intro X sc W e C tk h
    unfold mE at h
    split at h <;> try (cases h; done)
    simp only [Bool.and_eq_true, cmIs, decide_eq_true_eq] at h
    obtain ⟨⟨⟨⟨⟨rfl, rfl⟩, ha⟩, hb⟩, hc⟩, hs⟩ := h
    exact pt_imp (pt_chain (op_cmp C.un c) (op_cmp C.un d) (hE_p X sc W _ C tk ha) (hE_q X sc W _ C tk hb) (hE_r X sc W _ C tk hc) (by show behindInMarks _ _ = false; exact nomark' hs)) fun σ H Q q => rd_chain (tT_bls bls_chain q)
theorem st_isN (a : IE) (hE_a : SE T Γ k cm N a) : ST T Γ k cm N (.isN a) := by
    intro X sc W e C tk h
    unfold mE at h
    split at h <;> try (cases h; done)
    exact pt_imp (pt_cmpR op_isN (hE_a X sc W _ C tk h) pe_non (nomark _)) fun σ H Q q => rd_isN (tT_bls bls_isN q)
theorem st_notN (a : IE) (hE_a : SE T Γ k cm N a) : ST T Γ k cm N (.notN a) := by
    intro X sc W e C tk h
    unfold mE at h
    split at h <;> try (cases h; done)
    exact pt_imp (pt_cmpR op_notN (hE_a X sc W _ C tk h) pe_non (nomark _)) fun σ H Q q => rd_notN (tT_bls bls_notN q)
theorem st_ife (t : IE) (a : IE) (b : IE) (hT_a : ST T Γ k cm N a) (hT_b : ST T Γ k cm N b) (hT_t : ST T Γ k cm N t) : ST T Γ k cm N (.ife t a b) := by
    intro X sc W e C tk h
    unfold mE at h
    split at h <;> try (cases h; done)
    simp only [Bool.and_eq_true] at h
    obtain ⟨⟨⟨⟨na, nb'⟩, ht⟩, ha⟩, hb⟩ := h
    refine pt_imp (pt_ife (hT_t X sc W _ C tk ht) (hT_a X sc W _ C tk ha) (hT_b X sc W _ C tk hb)) fun σ H Q q => ?_
    refine tT_mono (tT_test (mg := X.mg) (T := T) (W := W) (ca := semE Γ T.Cn t) (QB := Q) (f := fun _ b' => match b' with | true => semE Γ T.Cn a | false => semE Γ T.Cn b) ?_) fun c H1 z => ?_
    · obtain ⟨β, A, M, ow, σd, R, p⟩ := q
      refine ⟨β, A, M, ow, σd, R, ?_⟩
      have e : semE Γ T.Cn (.ife t a b) σd M = (semE Γ T.Cn t σd M).bind fun x M1 => match truD x with | some b' => (match b' with | true => semE Γ T.Cn a | false => semE Γ T.Cn b) σd M1 | none => .stuck := by
        simp only [semE]
        cases semE Γ T.Cn t σd M with
        | ok d M' =>
          simp only [Res.bind]
          cases truD d with
          | none => rfl
          | some b' => cases b' <;> rfl
        | exc c fs M' => rfl
        | stuck => rfl
      rw [e] at p
      exact p
    · obtain ⟨x, _, z⟩ := z
      cases c with
      | true => exact iteT z
      | false => exact iteF z
theorem ses_nil : SEs T Γ k cm N [] := by
  intro X sc W es C tk h
  cases es with
  | nil => exact ⟨pa_imp pa_nil fun _ _ _ q => tA_nil q, fun _ => pa_imp pa_nil fun _ _ _ q => tA_nil q⟩
  | cons _ _ => simp [mEs] at h
theorem ses_cons (i : IE) (is : List IE) (hE : SE T Γ k cm N i) (hEs : SEs T Γ k cm N is) : SEs T Γ k cm N (i :: is) := by
  intro X sc W es C tk h
  cases es with
  | nil => simp [mEs] at h
  | cons e es =>
    simp only [mEs, Bool.and_eq_true] at h
    obtain ⟨r1, r2⟩ := hEs X sc W es C tk h.2
    have r := hE X sc W e C tk h.1
    refine ⟨pa_imp (pa_cons r r1 (star_cons (mE_star h.1))) fun σ H Q q => tA_cons (.inl rfl) q, fun hn => ?_⟩
    simp only [List.all_cons, Bool.and_eq_true] at hn
    exact pa_imp (pa_cons r (r2 hn.2) (star_cons (mE_star h.1))) fun σ H Q q => tA_cons (.inr ⟨rfl, nb_kd hn.1⟩) q
theorem sps_of (ies : List IE) (h1 : SE1 T Γ k cm N ies) : SPs T Γ k cm N ies := by
  intro X sc W e C tk h
  rcases ies with _ | ⟨i, _ | ⟨j, r⟩⟩
  · simp [mEs] at h
  · simp only [mEs, Bool.and_eq_true] at h
    exact po_one (h1 i rfl X sc W e C tk h.1)
  · simp [mEs] at h
theorem sif_of (ies : List IE) (h1 : ∀ i, ies = [i] → ST T Γ k cm N i) : SIf T Γ k cm N ies := by
  intro X sc W es C tk h hl
  rcases ies with _ | ⟨i, _ | ⟨j, r⟩⟩
  · cases es with
    | cons _ _ => simp [mEs] at h
    | nil => exact ⟨fun pins s σ H Q I q => pts_nil.run pins s σ H Q I (by
        obtain ⟨β, A, M, ow, σd, R, p⟩ := q
        exact p β H (Ext.refl _ _) R.mem)⟩
  · cases es with
    | nil => simp [mEs] at h
    | cons e es =>
      simp only [mEs, Bool.and_eq_true] at h
      cases es with
      | cons _ _ => simp [mEs] at h
      | nil =>
        have r := pts_one (h1 i rfl X sc W e C tk h.1)
        refine ⟨fun pins s σ H Q I q => r.run pins s σ H Q I ?_⟩
        obtain ⟨β, A, M, ow, σd, R, p⟩ := q
        refine ⟨β, A, M, ow, σd, R, ?_⟩
        simp only [semIf] at p
        cases q : semE Γ T.Cn i σd M with
        | stuck => rw [q] at p; exact p
        | exc c fs M' => rw [q] at p; exact p
        | ok d M' =>
          rw [q] at p
          simp only [Res.bind] at p
          cases qt : truD d with
          | none => rw [qt] at p; exact p.elim
          | some b => rw [qt] at p; exact ⟨b, qt, p⟩
  · simp at hl
theorem st_gen (ie : IE) (hs : genB ie = true) (h1 : SE T Γ k cm N ie) : ST T Γ k cm N ie := by
  intro X sc W e C tk h
  exact pt_imp (pt_of (CT.PE.weak (h1 X sc W e C tk h)) (truth_he (byTruth_of h hs))) fun σ H Q q => tT_val q
theorem sw_no (ie : IE) (hs : match ie with | .and _ _ | .or _ _ => False | _ => True) : SW T Γ k cm N ie := by
  intro X sc W op vs p C tk h
  cases ie <;> first | exact hs.elim | (simp [mE] at h; done) | (simp [mE] at h; split at h <;> cases h)
end
end CT

namespace L2
open PySem PySem.Spec PyProof.Rows
namespace Bx
open PySem.NumText PySem.Calls Hx
/-! ### int(t, 2) -/
def IsBin (c : Nat) : Prop := c = 48 ∨ c = 49
theorem IsBin.hex {c : Nat} (h : IsBin c) : IsHex c := by
  unfold IsHex
  rcases h with rfl | rfl <;> omega
def bv (l : List Nat) : Nat := l.foldl (fun a c => a * 2 + (c - 48)) 0
theorem hv_bin {c : Nat} (h : IsBin c) : hv c = c - 48 ∧ hv c < 2 := by
  rcases h with rfl | rfl <;> exact ⟨rfl, by decide⟩
theorem step_bin {ds : Array Nat} {b : Bool} {c : Nat} (h : IsBin c) : PySem.NumText.step 2 (ds, b) c = some (ds.push (c - 48), true) := by
  have hr := hex_rng h.hex
  unfold PySem.NumText.step
  rw [if_neg (by rw [beq_iff_eq]; exact hr.2.2), digit_hex h.hex, ← (hv_bin h).1]
  exact if_pos (hv_bin h).2
theorem fold_bin : ∀ (cs : List Nat) (ds : Array Nat), (∀ c ∈ cs, IsBin c) → cs.foldlM (PySem.NumText.step 2) (ds, true) = some (cs.foldl (fun acc c => acc.push (c - 48)) ds, true)
  | [], _, _ => rfl
  | c :: cs, ds, h => by
    rw [List.foldlM_cons, step_bin (h c List.mem_cons_self)]
    exact fold_bin cs (ds.push (c - 48)) fun d hd => h d (List.mem_cons_of_mem _ hd)
theorem digits_bin {cs : List Nat} (h : ∀ c ∈ cs, IsBin c) (hne : cs ≠ []) : digits? 2 cs = some (cs.foldl (fun acc c => acc.push (c - 48)) #[]) := by
  cases cs with
  | nil => exact absurd rfl hne
  | cons c cs =>
    unfold digits?
    rw [List.foldlM_cons, step_bin (h c List.mem_cons_self)]
    show (cs.foldlM (PySem.NumText.step 2) ((#[] : Array Nat).push (c - 48), true)).bind _ = _
    rw [fold_bin cs _ fun d hd => h d (List.mem_cons_of_mem _ hd)]
    rfl
theorem push_bin : ∀ (cs : List Nat) (ds : Array Nat), (cs.foldl (fun acc c => acc.push (c - 48)) ds).foldl (fun acc d => acc * 2 + d) 0 = cs.foldl (fun a c => a * 2 + (c - 48)) (ds.foldl (fun acc d => acc * 2 + d) 0)
  | [], _ => rfl
  | c :: cs, ds => by
    rw [List.foldl_cons, push_bin cs (ds.push (c - 48)), List.foldl_cons]
    congr 1
    simp
theorem based_bin {cs : List Nat} (h : ∀ c ∈ cs, IsBin c) : based 2 cs = (2, false, cs) := by
  unfold based
  split
  · rename_i p heq
    exfalso
    match cs, h, heq with
    | [], _, e => cases (show (none : Option Nat) = some p from e)
    | [a], h, e => rcases h a (by simp) with rfl | rfl <;> cases (show (none : Option Nat) = some p from e)
    | a :: c :: r, h, e =>
      rcases h a (by simp) with rfl | rfl
      · rcases h c (by simp) with rfl | rfl <;> cases (show (none : Option Nat) = some p from e)
      · cases (show (none : Option Nat) = some p from e)
  · rfl
theorem read_bin {cs : List Nat} (h : ∀ c ∈ cs, IsBin c) (hne : cs ≠ []) : (int_private% "readNumeral") 0 2 cs = (int_private% "Numeral.value") ((bv cs : Nat) : Int) := by
  have hh : ∀ c ∈ cs, IsHex c := fun c hc => (h c hc).hex
  have hr : ∀ c ∈ cs.reverse, IsHex c := fun c hc => hh c (List.mem_reverse.mp hc)
  refine (readNumeral_eq 0 2 cs).trans ?_
  rw [dropB hh, signH hh]
  show judge 0 false (based 2 cs).1 (based 2 cs).2.1 (digits? (based 2 cs).1 (((based 2 cs).2.2.reverse.dropWhile blank).reverse)) = _
  rw [based_bin h]
  show judge 0 false 2 false (digits? 2 ((cs.reverse.dropWhile blank).reverse)) = _
  rw [dropB hr, List.reverse_reverse, digits_bin h hne]
  show (int_private% "Numeral.value") (((cs.foldl (fun acc c => acc.push (c - 48)) (#[] : Array Nat)).foldl (fun acc d => acc * 2 + d) 0 : Nat) : Int) = _
  have z : (#[] : Array Nat).foldl (fun acc d => acc * 2 + d) 0 = 0 := by first | rfl | simp
  rw [push_bin, z] <;> rfl
set_option maxHeartbeats 4000000 in
theorem gives_bin {x : PySem.Str} {u t : Tok} (hl : x.length ≤ 640) (h : ∀ c ∈ x.cps.toList, IsBin c) (hne : x.cps.toList ≠ []) :
    Gives (Builtin.«int.__new__» ⟨[.type "int", .str x u, .int 2 t], []⟩) (.int ((bv x.cps.toList : Nat) : Int)) :=
  .of_wp fun M A E s Q hQ => by
    obtain ⟨hp, g, d, tk, os⟩ := s
    have f1 := F.conv_sub_int
    have f2 := F.madeHere_int
    have f6 : typeOf (.str x u) = pure (.type "str") := rfl
    obtain ⟨e1, e2⟩ := seen_hex (x := x) fun c hc => (h c hc).hex
    have hs : (numSeenOf x).length ≤ 640 := by
      rw [e2, Array.length_toList]
      exact hl
    have hr : (int_private% "readNumeral") 0 2 (numSeenOf x) = (int_private% "Numeral.value") ((bv x.cps.toList : Nat) : Int) := by
      rw [e2]
      exact read_bin h hne
    have ha : ((numSeenOf x).length == (numTextOf x).length) = true := by
      rw [e1, e2]
      exact beq_self_eq_true _
    have hk := Hid.mk (And.intro hs (And.intro hr ha))
    clear hs hr ha e1 e2 hl hne h
    repeat (any_goals (first
      | assumption
      | ((with_reducible show wpAny _ _ ((int_private% "intFromText") _ _ _) _ _ _); refine wp_textB hk.out.1 hk.out.2.1 hk.out.2.2 ?_)
      | wp_step))
    all_goals first | exact ⟨_, rfl, hQ⟩ | skip
theorem call_bin {prog : Program} {w : World} {A : Around} {E : Value → Shared → Prop} {s : Shared} {Q : Value → Shared → Prop} {x : PySem.Str} {u t : Tok} (hl : x.length ≤ 640) (h : ∀ c ∈ x.cps.toList, IsBin c) (hne : x.cps.toList ≠ [])
    (hQ : Q (.int ((bv x.cps.toList : Nat) : Int) s.toks) { s with toks := s.toks + 1 }) : wpAny (model prog w) A (call (.type "int") [.str x u, .int 2 t]) Q E s :=
  callType_new F.called_int F.newNe_int (typeCall_int_2 _ _) (newCall_int_2 _ _) (fun obj => F.initArgs_range_2 obj _ _) F.entry_int_new (gives_bin hl h hne).meets (show (Made.int ((bv x.cps.toList : Nat) : Int)).post _ s from ⟨rfl, hQ⟩)
end Bx
/-- int(t, 2) -/
def rIntBin : List V → Hp → VK → Prop := fun xs H Q => ∃ s : Str, xs = [.str s, .int 2] ∧ s.cps.toList ≠ [] ∧ s.length ≤ 640 ∧ (∀ c ∈ s.cps.toList, Bx.IsBin c) ∧ Q (.int ((Bx.bv s.cps.toList : Nat) : Int)) H
theorem call_int_bin {X : Cx} : CallR X (.type "int") rIntBin := by
  intro pins s σ H xs us Q I r h
  obtain ⟨l, rfl, hne, hl, hx, q⟩ := h
  obtain ⟨u, w', rfl, r1, r2⟩ := vals2 r
  obtain ⟨t1, rfl⟩ := r1
  obtain ⟨t2, rfl⟩ := r2
  exact Bx.call_bin hl hx hne ⟨.int ((Bx.bv l.cps.toList : Nat) : Int), H, I.tok _, ⟨_, rfl⟩, q⟩
end L2

namespace CT
open PySem PySem.Spec PyProof.Rows L2
section
variable {T : Tb} {Γ : Fns} {k : Nat} {cm : Bool} {N : List Str}
theorem items_rep {K : PySem.W.Frag} {β : List Addr} {A : Addr → Prop} {H : Hp} {x : D} {xs : List D} {v : V} (h : RepW K β A H x v) (e : itemsD x = some xs) : ∃ a vs, v = .ref a ∧ (SqT K H a vs ∨ SqL K H a vs) ∧ Reps K β A H xs vs := by
  cases x <;> simp only [itemsD] at e <;> try (cases e; done)
  · cases e
    obtain ⟨a, vs, rfl, t, r⟩ := repW_tup h
    exact ⟨a, vs, rfl, .inl t.sq, r⟩
  · cases e
    obtain ⟨a, vs, rfl, t, r⟩ := repW_lst h
    exact ⟨a, vs, rfl, .inr (.inl (.inl t)), r⟩
/-- (*a, b, ..) -/
theorem se_tupS (a : IE) (es : List IE) (hE_a : SE T Γ k cm N a) (hEs_es : SEs T Γ k cm N es) : SE T Γ k cm N (.tupS a es) := by
    intro X sc W e C tk h
    unfold mE at h
    split at h <;> try (cases h; done)
    simp only [Bool.and_eq_true] at h
    obtain ⟨⟨hn, ha⟩, hes⟩ := h
    refine pe_imp (pe_tup (StX.pa_star (hE_a X sc W _ C tk ha) ((hEs_es X sc W _ C tk hes).2 hn))) fun σ H Q q => ?_
    have q : tE X.mg T X.K W .pl (fun σ M => (semE Γ T.Cn a σ M).bind fun x M1 => match itemsD x with
      | some xs => (semEs Γ T.Cn es σ M1).bind fun ys M2 => if xs.length + ys.length ≤ sizeLine then .ok (.tup (xs ++ ys)) M2 else .stuck
      | none => .stuck) σ H Q := q
    refine tE_mono (tE_bind (k1 := kd T a) (f := fun x σ M1 => match itemsD x with
      | some xs => (semEs Γ T.Cn es σ M1).bind fun ys M2 => if xs.length + ys.length ≤ sizeLine then .ok (.tup (xs ++ ys)) M2 else .stuck
      | none => .stuck) q) fun v H1 g => ?_
    obtain ⟨β, A, M, ow, σd, x, R, rx, _, p⟩ := g
    cases e1 : itemsD x with
    | none => rw [e1] at p; exact p.elim
    | some xs =>
      rw [e1] at p
      obtain ⟨b, vs, rfl, hb, rv⟩ := items_rep rx.weak e1
      refine ⟨b, vs, rfl, hb, β, A, M, ow, σd, R, ?_⟩
      cases e2 : semEs Γ T.Cn es σd M with
      | stuck => rw [e2] at p; exact p
      | exc c fs M' => rw [e2] at p; exact p
      | ok ys M2 =>
        rw [e2] at p
        simp only [Res.bind] at p
        intro β2 ws H2 ex m2 rw'
        have rw' : Reps X.K β2 (avo A ow) H2 ys ws := rw'
        by_cases hl : xs.length + ys.length ≤ sizeLine
        · rw [if_pos hl] at p
          have r2 := (Reps.mono ex (fun a z _ => z) rv).append rw'
          exact ⟨by rw [← r2.length, List.length_append]; exact hl, post_tup (k := .pl) (R.mono ex m2) (by simp) r2 (Post.later ex p)⟩
        · rw [if_neg hl] at p; exact p.elim
theorem strs_rep {K : PySem.W.Frag} {β : List Addr} {A : Addr → Prop} {H : Hp} : ∀ {xs : List D} {ys : List Str} {vs : List V}, strsD xs = some ys → Reps K β A H xs vs → vs = ys.map V.str
  | [], ys, vs, e, r => by
    simp only [strsD] at e; cases e
    simp only [Reps] at r; exact r
  | x :: xs, ys, vs, e, r => by
    cases x <;> simp only [strsD] at e <;> try (cases e; done)
    rename_i s
    cases e1 : strsD xs with
    | none => rw [e1] at e; cases e
    | some zs =>
      rw [e1] at e
      cases e
      simp only [Reps] at r
      obtain ⟨v, r', rfl, h1, h2⟩ := r
      simp only [Rep] at h1
      rw [h1.1, strs_rep e1 h2]
      rfl
/-- 's'.join(a) -/
theorem se_join (s : Str) (a : IE) (hE_a : SE T Γ k cm N a) : SE T Γ k cm N (.join s a) := by
    intro X sc W e C tk h
    unfold mE at h
    split at h <;> try (cases h; done)
    simp only [Bool.and_eq_true, decide_eq_true_eq] at h
    obtain ⟨⟨⟨⟨rfl, hs⟩, rfl⟩, hl⟩, ha⟩ := h
    refine pe_imp (pe_join pe_str (hE_a X sc W _ C tk ha) (by rw [star_cons (mE_star ha)]; rfl) rfl hl) fun σ H Q q => ?_
    refine ⟨⟨_, rfl⟩, rd1 (k := .pl) (t := fun v H1 Q => ∃ a p, ∃ ys : List Str, V.str _ = V.str a ∧ [v] = [V.ref p] ∧ (SqL X.K H1 p (ys.map V.str) ∨ SqT X.K H1 p (ys.map V.str)) ∧ (ys.map (·.length)).sum + ys.length * a.length ≤ 16777216 ∧ Q (.str (Txt.join a ys)) H1) (fun β A ow M H1 σd x v R rx p => ?_) q⟩
    obtain ⟨d, e, p⟩ := post_of p
    have fin : ∀ (ys : List Str), ((ys.map (·.length)).sum + ys.length * s.length ≤ 16777216 ∧ PyData.strOk (Txt.join s ys) = true) → d = .str (Txt.join s ys) → Q (.str (Txt.join s ys)) H1 := fun ys h1 h2 => by
      subst h2
      exact post_same (k := .pl) R (by simp) (rep_str h1.2) p
    cases x <;> simp only [joinD] at e <;> try (cases e; done)
    · rename_i xs
      obtain ⟨a, vs, rfl, t, r⟩ := repW_tup rx.weak
      cases e1 : strsD xs with
      | none => rw [e1] at e; cases e
      | some ys =>
        rw [e1] at e
        simp only [Option.bind_some] at e
        split at e
        · rename_i hz
          have := strs_rep e1 r
          subst this
          exact ⟨s, a, ys, rfl, rfl, .inr t.sq, hz.1, fin ys hz (Option.some.inj e).symm⟩
        · cases e
    · rename_i xs
      obtain ⟨a, vs, rfl, t, r⟩ := repW_lst rx.weak
      cases e1 : strsD xs with
      | none => rw [e1] at e; cases e
      | some ys =>
        rw [e1] at e
        simp only [Option.bind_some] at e
        split at e
        · rename_i hz
          have := strs_rep e1 r
          subst this
          exact ⟨s, a, ys, rfl, rfl, .inl (.inl (.inl t)), hz.1, fin ys hz (Option.some.inj e).symm⟩
        · cases e
/-- int(a, 2) -/
theorem se_int2 (a : IE) (hE_a : SE T Γ k cm N a) : SE T Γ k cm N (.int2 a) := by
    intro X sc W e C tk h
    unfold mE at h
    split at h <;> try (cases h; done)
    simp only [Bool.and_eq_true, decide_eq_true_eq] at h
    obtain ⟨⟨⟨⟨⟨hc, rfl⟩, rfl⟩, hg⟩, hn⟩, ha⟩ := h
    have rE := hE_a X sc W _ C tk ha
    refine pe_imp (pe_callTy call_int_bin (glb_of C.sc hg) (mem_blt C (by decide +kernel)) (by decide +kernel) (pa_cons rE (pa_cons pe_int pa_nil) (star_cons (mE_star ha))) (by decide +kernel) (by decide +kernel) (star_cons (mE_star ha)) rfl) fun σ H Q q => ?_
    refine rd1 (k := .pl) (t := fun v H1 Q => rIntBin [v, .int 2] H1 Q) (fun β A ow M H1 σd x v R rx p => ?_) q
    obtain ⟨d, e, p⟩ := post_of p
    cases x <;> simp only [int2D] at e <;> try (cases e; done)
    rename_i s
    split at e
    · rename_i hz
      have := Option.some.inj e; subst this
      obtain ⟨rfl, _⟩ := repW_str rx.weak
      refine ⟨s, rfl, hz.1, by have := hz.2.1; rw [Array.length_toList] at this; exact this, fun c hc => ?_, post_same (k := .pl) R (by simp) rep_int p⟩
      have := List.all_eq_true.mp hz.2.2 c hc
      simpa [Bx.IsBin] using this
    · cases e
/-- a is b, a is not b: b a written truth -/
theorem rd_isB {X : Cx} {W : WX} {σ : L2.St} {H : Hp} {Q : VK} {ka : Kd} {ng b : Bool} {a : IE} (q : tE X.mg T X.K W .pl (semE Γ T.Cn (.isB ng b a)) σ H Q) :
    tOp (if ng = true then rNotB else rIsB) (tE X.mg T X.K W ka (semE Γ T.Cn a)) (tC (.bl b)) σ H Q := by
  refine rd1 (k := .pl) (t := fun v H1 Q => (if ng = true then rNotB else rIsB) v (.bl b) H1 Q) (fun β A ow M H1 σd x v R rx p => ?_) q
  obtain ⟨d, e, p⟩ := post_of p
  cases x <;> simp only [isBD] at e <;> try (cases e; done)
  rename_i c
  have := Option.some.inj e; subst this
  have hv := repW_bl rx.weak
  subst hv
  have p' := post_same (k := .pl) R (by simp) rep_bl p
  cases ng with
  | true =>
    refine ⟨c, b, rfl, rfl, ?_⟩
    rw [if_pos rfl] at p'
    have z : (c == b) = decide (c = b) := by cases c <;> cases b <;> rfl
    rw [← z]; exact p'
  | false =>
    refine ⟨c, b, rfl, rfl, ?_⟩
    rw [if_neg (by decide)] at p'
    have z : (c == b) = decide (c = b) := by cases c <;> cases b <;> rfl
    rw [← z]; exact p'
theorem bls_isB {ng b : Bool} {a : IE} : Bls (semE Γ T.Cn (.isB ng b a)) := fun σ M d M' e => bind_bls (fun x M1 d M' e => by
  cases x <;> simp only [isBD, Res.of] at e <;> first | (cases e; done) | (cases e; exact ⟨_, rfl⟩)) e
theorem se_isB (ng b : Bool) (a : IE) (hE_a : SE T Γ k cm N a) : SE T Γ k cm N (.isB ng b a) := by
    intro X sc W e C tk h
    unfold mE at h
    split at h <;> try (cases h; done)
    · simp only [Bool.and_eq_true, decide_eq_true_eq] at h
      obtain ⟨⟨⟨rfl, rfl⟩, hn⟩, ha⟩ := h
      exact pe_imp (pe_cmpR op_notBl (hE_a X sc W _ C tk ha) pe_bl (nomark _)) fun σ H Q q => rd_isB (ng := true) q
    · simp only [Bool.and_eq_true, decide_eq_true_eq, Bool.not_eq_true'] at h
      obtain ⟨⟨⟨rfl, rfl⟩, hn⟩, ha⟩ := h
      exact pe_imp (pe_cmpR op_isBl (hE_a X sc W _ C tk ha) pe_bl (nomark _)) fun σ H Q q => rd_isB (ng := false) q
theorem st_isB (ng b : Bool) (a : IE) (hE_a : SE T Γ k cm N a) : ST T Γ k cm N (.isB ng b a) := by
    intro X sc W e C tk h
    unfold mE at h
    split at h <;> try (cases h; done)
    · simp only [Bool.and_eq_true, decide_eq_true_eq] at h
      obtain ⟨⟨⟨rfl, rfl⟩, hn⟩, ha⟩ := h
      exact pt_imp (pt_cmpR op_notBl (hE_a X sc W _ C tk ha) pe_bl (nomark _)) fun σ H Q q => rd_isB (ng := true) (tT_bls bls_isB q)
    · simp only [Bool.and_eq_true, decide_eq_true_eq, Bool.not_eq_true'] at h
      obtain ⟨⟨⟨rfl, rfl⟩, hn⟩, ha⟩ := h
      exact pt_imp (pt_cmpR op_isBl (hE_a X sc W _ C tk ha) pe_bl (nomark _)) fun σ H Q q => rd_isB (ng := false) (tT_bls bls_isB q)
end
end CT

namespace CT
open PySem PySem.Spec PyProof.Rows L2
section
variable {T : Tb} {Γ : Fns} {k : Nat} {cm : Bool} {N : List Str}
/-- {} -/
theorem se_dct0 : SE T Γ k cm N .dct0 := by
    intro X sc W e C tk h
    unfold mE at h
    split at h <;> try (cases h; done)
    refine pe_imp pe_dnewK fun σ H Q q => ?_
    obtain ⟨β, A, M, ow, σd, R, p⟩ := q
    simp only [semE] at p
    intro a ha
    have fr := R.fresh ha
    have p : Post X.mg T X.K W β (avo A ow) .fr σ H Q (.ok (.dct [] []) M) := p
    refine p β (.ref a) (upd H a (.dK [])) (Ext.new ha) (R.mem.new ha) ?_
    exact ⟨a, rfl, ha, fr.1, .inl ⟨[], upd_same, rfl, by simp only [Reps, List.map_nil]⟩⟩
theorem exn_rep {K : PySem.W.Frag} {β : List Addr} {A : Addr → Prop} {H : Hp} {c : Str} {ns : List Str} {fs : List D} {v : V} (h : RepW K β A H (.exn c ns fs) v) : ∃ a C vs, v = .ref a ∧ PySem.W.nsIn K mainGlobals c = some (some (.ref C)) ∧ ns.length = fs.length ∧ ((∃ d, H a = some (ExA C d a) ∧ H d = some (.xd (ns.zip vs).reverse)) ∨ (ns = [] ∧ H a = some (ExO (.ref C) a))) ∧ Reps K β A H fs vs := by
  rcases h with h | ⟨a, rfl, o⟩
  · simp only [Rep] at h
    obtain ⟨a, C, vs, rfl, h1, _, h4, h2, h5⟩ := h
    refine ⟨a, C, vs, rfl, h1, h4, ?_, h5⟩
    rcases h2 with ⟨d, h2, h3, _⟩ | h2
    · exact .inl ⟨d, h2, h3⟩
    · exact .inr h2
  · exact (o.2).elim
theorem call_isAO {X : Cx} : CallR X (.builtin "isinstance") (fun xs H Q => rIsA X.K xs H Q ∨ rIsO X.K xs H Q) := fun pins s σ H xs us Q I r h => h.elim (call_isA pins s σ H xs us Q I r) (call_isO pins s σ H xs us Q I r)
theorem zip_at : ∀ {ns : List Str} {fs : List D} {n : Str} {d : D}, (ns.zip fs).lookup n = some d → ∃ i : Nat, ns[i]? = some n ∧ fs[i]? = some d
  | [], _, _, _, h => by simp at h
  | _ :: _, [], _, _, h => by simp at h
  | m :: ns, f :: fs, n, d, h => by
    simp only [List.zip_cons_cons, List.lookup_cons] at h
    split at h
    · rename_i e
      have : n = m := by simpa using e
      subst this
      cases h
      exact ⟨0, rfl, rfl⟩
    · obtain ⟨i, h1, h2⟩ := zip_at h
      exact ⟨i + 1, by simpa using h1, by simpa using h2⟩
theorem zip_look {K : PySem.W.Frag} {β : List Addr} {A : Addr → Prop} {H : Hp} {ns : List Str} {fs : List D} {vs : List V} {n : Str} {d : D} (r : Reps K β A H fs vs) (hl : ns.length = fs.length) (nd : ns.Nodup) (h : (ns.zip fs).lookup n = some d) : ∃ v, (ns.zip vs).reverse.lookup n = some v ∧ Rep K β A H d v := by
  obtain ⟨i, h1, h2⟩ := zip_at h
  obtain ⟨v, h3, rv⟩ := r.get h2
  have lv := r.length
  refine ⟨v, CTX.lookup_mem ?_ (List.mem_reverse.mpr (List.mem_of_getElem? (i := i) ?_)), rv⟩
  · rw [List.map_reverse, CTX.zip_fst ns vs (by omega)]
    exact CTX.nodup_rev nd
  · rw [List.getElem?_zip_eq_some]
    exact ⟨h1, h3⟩
theorem mem_look {α : Type} {n : Str} {d : α} : ∀ {l : List (Str × α)}, l.lookup n = some d → (n, d) ∈ l
  | [], h => by simp at h
  | (m, f) :: l, h => by
    rw [List.lookup_cons] at h
    split at h
    · rename_i e
      have : n = m := by simpa using e
      subst this
      cases h
      exact List.mem_cons_self
    · exact List.mem_cons_of_mem _ (mem_look h)
theorem ClsNm.one {mg : Str → Option Value} {h : Str} {v v' : V} {cv cv' : Value} (a : ClsNm mg h v cv) (b : ClsNm mg h v' cv') : v = v' ∧ cv = cv' := by
  rcases a with ⟨C, h1, rfl, rfl⟩ | ⟨h1, t, h2, rfl, rfl⟩ <;> rcases b with ⟨C', g1, rfl, rfl⟩ | ⟨g1, t', g2, rfl, rfl⟩
  · rw [h1] at g1; cases g1; exact ⟨rfl, rfl⟩
  · rw [h1] at g1; cases g1
  · rw [h1] at g1; cases g1
  · rw [h2] at g2; cases g2; exact ⟨rfl, rfl⟩
theorem pe_cls {X : Cx} {h : Str} {v : V} {cv : Value} {p : Pos} (c : ClsNm X.mg h v cv) (hg : Gl X h) (hn : nmOk h = true) (hm : h ≠ "__name__") : PE X (.Name h p) (tC v) := by
  rcases c with ⟨C, h1, rfl, rfl⟩ | ⟨h1, t, h2, rfl, rfl⟩
  · exact pe_glob hg h1 rfl (nm_of hn).1
  · exact pe_bltn hg h1 h2 rfl hm (nm_of hn).1
theorem ClsNm.rel {mg : Str → Option Value} {h : Str} {v : V} {cv : Value} (a : ClsNm mg h v cv) : ∀ u, RelV v u → u = cv := by
  rcases a with ⟨C, h1, rfl, rfl⟩ | ⟨h1, t, h2, rfl, rfl⟩
  · intro u r; exact r
  · intro u r; exact r
/-- e.n, isinstance(e, C) -/
theorem se_o1 (o : O1) (a : IE) (hE_a : SE T Γ k cm N a) : SE T Γ k cm N (.o1 o a) := by
    intro X sc W e C tk h
    unfold mE at h
    cases o with
    | exf n cs =>
      dsimp only at h
      split at h <;> try (cases h; done)
      simp only [Bool.and_eq_true, decide_eq_true_eq, List.all_eq_true] at h
      obtain ⟨⟨rfl, hcs⟩, ha⟩ := h
      refine pe_imp (pe_xa (hE_a X sc W _ C tk ha)) fun σ H Q q => ?_
      refine rd1 (k := .pl) (t := fun v H1 Q => ∃ a C d fs u, v = .ref a ∧ H1 a = some (ExA C d a) ∧ XfC X.K C ∧ PySem.W.findIn X.K (.ref C) _ = some none ∧ H1 d = some (.xd fs) ∧ fs.lookup _ = some u ∧ Q u H1) (fun β A ow M H1 σd x v R rx p => ?_) q
      obtain ⟨d, e, p'⟩ := post_of p
      cases x <;> simp only [o1D] at e <;> try (cases e; done)
      rename_i c ns fs
      split at e
      · rename_i hz
        obtain ⟨b, Cc, vs, rfl, hc, hl, h12, r⟩ := exn_rep rx.weak
        have hx := hcs c hz.1
        split at hx
        · rename_i ns' hN
          obtain ⟨C1, q1, q2⟩ := C.fx.xx.cl c ns' hN
          obtain ⟨_, _, C2, fI, TX⟩ := C.fx.xc c ns' hN
          have e1 := q2.symm.trans TX.gC
          cases e1
          have e2 := q1.symm.trans hc
          cases e2
          obtain ⟨u, hu, ru⟩ := zip_look r hl hz.2 e
          rcases h12 with ⟨dd, h1, h2⟩ | ⟨z, _⟩
          · exact ⟨b, _, dd, _, u, rfl, h1, ⟨TX.ga, TX.gg, TX.exC, TX.hdC⟩, TX.noN _ (by simpa using hx), h2, hu, post_same (k := .pl) R (by simp) ru p'⟩
          · subst z
            simp at e
        · cases hx
      · cases e
    | isX hh tab =>
      dsimp only at h
      split at h <;> try (cases h; done)
      rename_i x p y z p2 p3
      simp only [Bool.and_eq_true, decide_eq_true_eq, List.all_eq_true] at h
      obtain ⟨⟨⟨⟨⟨⟨⟨⟨⟨rfl, rfl⟩, hg⟩, hgz⟩, hnz⟩, hnn⟩, hn0⟩, hne⟩, htab⟩, ha⟩ := h
      have hne : tab ≠ [] := by simpa using hne
      obtain ⟨t0, ht0⟩ := List.exists_mem_of_ne_nil tab hne
      obtain ⟨C0, v0, cv0, _, _, cn0, _⟩ := C.fx.xx.is _ _ _ hn0 (htab t0 ht0)
      refine pe_imp (pe_callB call_isAO (glb_of C.sc hg) (mem_blt C (by decide +kernel)) PyProof.Rows.boot_isinstance (pa_cons (hE_a X sc W _ C tk ha) (pa_cons (pe_cls cn0 (glb_of C.sc hgz) hnz hnn) pa_nil) (star_cons (mE_star ha))) (by decide +kernel) (by decide +kernel) (star_cons (mE_star ha)) rfl) fun σ H Q q => ?_
      refine rd1 (k := .pl) (t := fun v H1 Q => rIsA X.K [v, v0] H1 Q ∨ rIsO X.K [v, v0] H1 Q) (fun β A ow M H1 σd x v R rx p => ?_) q
      obtain ⟨d, e, p'⟩ := post_of p
      cases x <;> simp only [o1D] at e <;> try (cases e; done)
      rename_i c ns fs
      cases e1 : tab.lookup c with
      | none => rw [e1] at e; cases e
      | some b =>
        rw [e1] at e
        cases e
        obtain ⟨b', Cc, vs, rfl, hc, hl, h12, r⟩ := exn_rep rx.weak
        obtain ⟨C1, v1, cv1, q1, q2, q3, q4⟩ := C.fx.xx.is _ _ _ hn0 (htab _ (mem_look e1))
        have e2 := q1.symm.trans hc
        cases e2
        obtain ⟨rfl, rfl⟩ := cn0.one q3
        have fin := post_same (k := .pl) R (by simp) rep_bl p'
        rcases h12 with ⟨dd, h1, h2⟩ | ⟨_, h1⟩
        · exact .inl ⟨b', _, dd, _, v0, cv0, b, rfl, h1, h2, q2, cn0.rel, q4, fin⟩
        · exact .inr ⟨b', _, v0, cv0, b, rfl, h1, q2, cn0.rel, q4, fin⟩
/-- C(..), held -/
theorem se_mkx (c : Str) (ns : List Str) (es : List IE) (hEs_es : SEs T Γ k cm N es) : SE T Γ k cm N (.mkx c ns es) := by
    intro X sc W e C tk h
    unfold mE at h
    split at h <;> try (cases h; done)
    · simp only [Bool.and_eq_true, decide_eq_true_eq, List.isEmpty_iff] at h
      obtain ⟨⟨⟨⟨⟨hc, rfl⟩, hg⟩, hns⟩, hes⟩, hz⟩ := h
      subst hns; subst hes
      obtain ⟨b, hb⟩ := Option.isSome_iff_exists.mp hz
      obtain ⟨Ca, bm, B, n, i, q1, q2, q3, q4, F, q5⟩ := C.fx.xx.zero _ _ hb
      refine pe_imp (pe_exc0 F q5 q2 q3 (glb_of C.sc hg) q4) fun σ H Q q => ?_
      obtain ⟨β, A, M, ow, σd, R, p⟩ := q
      simp only [semE, semEs, Res.bind] at p
      intro a ha
      have p : Post X.mg T X.K W β (avo A ow) .pl σ H Q (.ok (.exn _ [] []) M) := p
      refine p β (.ref a) (upd H a (ExO (.ref Ca) a)) (Ext.new ha) (R.mem.new ha) ?_
      show Rep X.K β (avo A ow) _ (.exn _ [] []) (.ref a)
      simp only [Rep]
      exact ⟨a, Ca, [], rfl, q1, (R.fresh ha).1, rfl, .inr ⟨trivial, upd_same⟩, by simp only [Reps]⟩
    simp only [Bool.and_eq_true, decide_eq_true_eq] at h
    obtain ⟨⟨⟨⟨⟨hc, rfl⟩, hg⟩, hn⟩, hN⟩, hm⟩ := h
    obtain ⟨hk, hdb, Ca, fI, TX⟩ := C.fx.xc _ _ hN
    obtain ⟨k', rfl⟩ := Nat.exists_eq_add_of_le hk
    have hst := mEs_star hm
    simp only [List.all_cons, Bool.and_eq_true] at hst
    have hr : Room (k' + 2) X.A := (C.room hc).mono (by omega)
    refine pe_imp (pe_xc TX hr ((hEs_es X sc W _ C tk hm).2 hn) (glb_of C.sc hg) hdb (star_cons hst.1) (star_none hst.2)) fun σ H Q q => ?_
    refine rdA (k := .pl) (ka := .pl) (t := fun vs H1 Q => vs.length = ns.length ∧ ∀ a d, H1 a = none → H1 d = none → a ≠ d → Q (.ref a) (upd (upd H1 d (.xd (ns.zip vs).reverse)) a (ExA Ca d a))) (fun β A ow M H1 σd xs vs R hq r p => ?_) q
    have r : Reps X.K β (avo A ow) H1 xs vs := r
    split at p
    · rename_i hl
      refine ⟨by rw [← r.length, hl], fun a d hA hD ne => ?_⟩
      obtain ⟨C1, q1, q2⟩ := C.fx.xx.cl _ _ hN
      have e1 := q2.symm.trans TX.gC
      cases e1
      have hA2 : (upd H1 d (.xd (ns.zip vs).reverse)) a = none := by rw [upd_ne ne]; exact hA
      have e2 : Ext β H1 β (upd H1 d (.xd (ns.zip vs).reverse)) := Ext.new hD
      have e3 : Ext β (upd H1 d (.xd (ns.zip vs).reverse)) β (upd (upd H1 d (.xd (ns.zip vs).reverse)) a (ExA Ca d a)) := Ext.new hA2
      refine p β (.ref a) _ (e2.trans e3) ((R.mem.new hD).new hA2) ?_
      show Rep X.K β (avo A ow) _ (.exn _ ns xs) (.ref a)
      simp only [Rep]
      exact ⟨a, Ca, vs, rfl, q1, (R.fresh hA).1, hl.symm, .inl ⟨d, upd_same, by rw [upd_ne (Ne.symm ne)]; exact upd_same, (R.fresh hD).1⟩, Reps.mono (e2.trans e3) (fun a z _ => z) r⟩
    · exact p.elim
theorem base_ok {o : Expr} {n : Str} {env : Env} {w : Sem Value} (h : baseOk o = true) : attributeBase o n env w = w := by
  unfold attributeBase
  split
  · simp [baseOk] at h
  · rfl
theorem pe_two {X : Cx} {e : Expr} {t1 t2 : TE} (h1 : PE X e t1) (h2 : PE X e t2) : PE X e (fun σ H Q => t1 σ H Q ∨ t2 σ H Q) :=
  ⟨fun pins s σ H Q I h => h.elim (fun z => h1.run pins s σ H Q I z) (fun z => h2.run pins s σ H Q I z)⟩
theorem first_at {ss : List Str} {s : Str} {i : Nat} (h : (ss.findIdx? fun t => decide (t = s)) = some i) : ss[i]? = some s ∧ ∀ m, m < i → ss[m]? ≠ some s := by
  obtain ⟨hi, h1, h2⟩ := List.findIdx?_eq_some_iff_getElem.mp h
  refine ⟨?_, fun m hm z => ?_⟩
  · rw [List.getElem?_eq_getElem hi]
    exact congrArg some (of_decide_eq_true h1)
  · have := h2 m hm
    have hm' : m < ss.length := by omega
    rw [List.getElem?_eq_getElem hm'] at z
    simp at this
    exact this (Option.some.inj z)
/-- not yet read -/
theorem se_o2 (o : O2) (a b : IE) : SE T Γ k cm N (.o2 o a b) := by
    intro X sc W e C tk h
    simp [mE] at h
end
end CT

namespace L2
open PySem PySem.Spec PyProof.Rows
/-- a clause: its class, the slot of its name (if it has one), its suite's reading -/
structure Cl where
  c : Value
  i : Option Nat
  ts : Addr → Value → Option Addr → TS
def endsNo (D : Ends) (i : Nat) : Ends := { nx := fun σ H => D.nx (σ.set i none) H, rt := D.rt, bk := fun σ H => D.bk (σ.set i none) H, ct := fun σ H => D.ct (σ.set i none) H }
/-- what the clauses, named or not, wish of an exception of the body; n: the number of slots -/
def wMix (K : PySem.W.Frag) (n : Nat) (Wout : WX) (D : Ends) : List Cl → WX
  | [] => Wout
  | h :: r => fun cls d σ H => ∃ b, PySem.W.exmOne K cls h.c = some b ∧
      (b = true → σ.length = n → ∀ a, H a = none → (match h.i with
        | none => h.ts a cls d D σ H
        | some i => h.ts a cls d (endsNo D i) (σ.set i (some (.ref a))) H)) ∧ (b = false → wMix K n Wout D r cls d σ H)
inductive HdsX (X : Cx) : List ExceptHandler → List Cl → Prop
  | nil : HdsX X [] []
  | plain {x : Str} {c : Value} {ts : Addr → Value → Option Addr → TS} {b₀ : Stmt} {suite : List Stmt} {np pos' : Pos} {hds : List ExceptHandler} {l : List Cl} (hc : Names X x c)
      (hsu : ∀ (a : Addr) (oe : Obj) (cls : Value) (d : Option Addr) (pn : List (Addr × Obj)), Zc cls d oe → (∃ vs, oe.data = .fields vs) → PSs (X.suite a ((a, oe) :: pn)) (b₀ :: suite) (ts a cls d)) (r : HdsX X hds l) :
      HdsX X (.ExceptHandler (some (.Name x np)) none (b₀ :: suite) pos' :: hds) (⟨c, none, ts⟩ :: l)
  | named {x n : Str} {i : Nat} {c : Value} {ts : Addr → Value → Option Addr → TS} {b₀ : Stmt} {suite : List Stmt} {np pos' : Pos} {hds : List ExceptHandler} {l : List Cl} (hc : Names X x c) (hi : X.N[i]? = some n) (hln : X.env.kindOf n = some .local)
      (hsu : ∀ (a : Addr) (oe : Obj) (cls : Value) (d : Option Addr) (pn : List (Addr × Obj)), Zc cls d oe → (∃ vs, oe.data = .fields vs) → PSs (X.suite a ((a, oe) :: pn)) (b₀ :: suite) (ts a cls d)) (r : HdsX X hds l) :
      HdsX X (.ExceptHandler (some (.Name x np)) (some n) (b₀ :: suite) pos' :: hds) (⟨c, some i, ts⟩ :: l)
section
variable {X : Cx} {body : List Stmt} {h₀ : ExceptHandler} {hds : List ExceptHandler} {l : List Cl} {pos : Pos} {tb : WX → TS} {Wout : WX}
theorem ps_try_mix (hs : X.stack = X.env :: X.outer) (hf : X.env.frame = some X.env.locals) (hN : X.N.Nodup) (tk : Takes X Wout)
    (hb : ∀ (W : WX) (pn : List (Addr × Obj)) (xe : Value → Shared → Prop), Takes (X.tr pn xe) W → PassesOwn (model X.prog X.w) X.A X.env xe → PSs (X.tr pn xe) body (tb W))
    (hh : HdsX X (h₀ :: hds) l) : PS X (.Try body (h₀ :: hds) [] [] pos) (fun D σ H => tb (wMix X.K X.N.length Wout D l) D σ H) := by
  refine ⟨fun pins s σ H D I h => ?_⟩
  have ok := I.ok
  have hfr : X.A.frames = some (X.env :: X.outer) := by rw [ok.frames, hs]
  refine wpAny_Try_except ?_
  refine wpAny_mono ((hb (wMix X.K X.N.length Wout D l) (X.pn ++ pins) (fun e s₁ => wpAny (model X.prog X.w) X.A (noteFrame e X.env) (fun _ s₂ => wpAny (model X.prog X.w) X.A (setFlight e none) (fun _ s₃ =>
    wpAny (model X.prog X.w) X.A (handleBy e X.env (h₀ :: hds)) (SP X pins D) X.xe s₃) X.xe s₂) X.xe s₁) (fun u s' xx => ?_) PassesOwn.looking).run [] s σ H D (I.toTry _) h) (fun f s1 hsp => ?_) (fun e s1 he => he)
  · obtain ⟨a, B, sI, pins', σ', H', cls, d, rfl, J', nb, up, sky, na, os, ag, w⟩ := xx
    have J : Inv X pins σ' H' sI := J'.ofTry ok
    have sky' : Sky B (X.env :: X.outer) a (Zc cls d) X.env.locals s'.heap := by rw [← hs]; exact sky
    show wpAny (model X.prog X.w) X.A (noteFrame (.ref a) X.env) _ _ _
    refine Sky.land Zc.steady hfr hf sky' fun h3 fl3 up3 => ?_
    have J3 : Inv X pins σ' H' { s' with heap := h3 } := J.landed nb fl3.1 (up.trans up3) os ag
    obtain ⟨oe3, vs3, he3, hz3, hd3⟩ := fl3.there
    have nfr : a ∉ frs (X.env :: X.outer) := fun hm => by
      obtain ⟨_, o', e', hnf⟩ := fl3.2.2.1.mem hm
      rw [he3] at e'; cases e'
      exact hnf _ hd3
    have nL : a ≠ X.env.locals := fun z => nfr (List.mem_filterMap.mpr ⟨X.env, List.mem_cons_self, by rw [hf, z]⟩)
    have nF : a ∉ X.fs := fun hm => by
      obtain ⟨e, he, q⟩ := List.mem_filterMap.mp hm
      exact nfr (List.mem_filterMap.mpr ⟨e, List.mem_cons_of_mem _ he, q⟩)
    have S3 := J3.suite he3 hd3 na nL nF
    have LT : PySem.W.Looks (model X.prog X.w) h3 (typeOf (.ref a)) cls := fun A Q E s k q => wpAny_typeOf_ref (k _ _ he3) (by rw [hz3.1]; exact q)
    have test : ∀ {x : Str} {c : Value} {np : Pos}, Names X x c → ∀ {Q : Value → Shared → Prop} {E : Value → Shared → Prop}, Q c { s' with heap := h3 } → wpAny (model X.prog X.w) (X.A.mark (some (.ref a))) (eval (.Name x np) X.env) Q E { s' with heap := h3 } := fun {x c np} hc {Q E} q => by
      obtain ⟨hg, hdbg, hm | ⟨hm, hv, hnn⟩⟩ := hc
      · exact ld_glob (X := X.suite a ((a, oe3) :: (X.pn ++ pins))) S3 hg hm q hdbg
      · exact ld_blt (X := X.suite a ((a, oe3) :: (X.pn ++ pins))) S3 hg hm hv q hnn hdbg
    have go : ∀ {hds' : List ExceptHandler} {l' : List Cl}, HdsX X hds' l' → wMix X.K X.N.length Wout D l' cls d σ' H' →
        wpAny (model X.prog X.w) X.A (handleBy (.ref a) X.env hds') (SP X pins D) X.xe { s' with heap := h3 } := by
      intro hds' l' hk
      induction hk with
      | nil =>
        intro w
        refine wpAny_handleBy_nil ?_
        obtain ⟨k1, k2, k3, oe, vs, T, oT, ts', he, hz, hd, h1, hr⟩ := id fl3
        unfold PySem.passOn
        refine wpAny_bind (wpAny_field he hd h1 ?_)
        rw [if_neg (show ¬ ((Value.ref T == Value.none) = true) from by simp)]
        have fin : wpAny (model X.prog X.w) X.A (setFlight (.ref a) X.env.frame) (fun _ s4 => wpAny (model X.prog X.w) X.A (throw (.ref a) : Sem Flow) (SP X pins D) X.xe s4) X.xe { s' with heap := h3 } := by
          rw [hf]
          refine HandSPX.setFlight_upZ fl3 fun h4 hh4 up4 => wpAny_throw (tk _ _ ?_)
          exact ⟨a, B, sI, pins, σ', H', cls, d, rfl, J, nb, (up.trans up3).trans up4, .inr (.inr (by rw [hs]; exact hh4)), na, os, ag, w⟩
        first
          | exact wpAny_bind (wpAny_pure (wpAny_bind fin))
          | exact wpAny_bind fin
      | @plain x c ts b₀ suite np pos' hds2 l2 hc hsu r ih =>
        intro w
        obtain ⟨b, hb1, hyes, hno⟩ := w
        refine wpAny_handleBy_cons (codeAny_handlers_test ?_) (by intro q; cases q)
        have LM := PySem.W.exm_one (M := model X.prog X.w) (J3.kIn) LT hb1
        refine test hc (LM.here ?_)
        cases b with
        | true =>
          refine codeAny_handlers_suite ?_
          refine HandSPX.lands_againZ fl3 fun h4 fl4 up4 => ?_
          have J4 : Inv X pins σ' H' { s' with heap := h4 } := J.landed nb fl4.1 ((up.trans up3).trans up4) os ag
          obtain ⟨oe4, vs4, he4, hz4, hd4⟩ := fl4.there
          have S4 := J4.suite he4 hd4 na nL nF
          refine wpAny_mono ((hsu a oe4 cls d (X.pn ++ pins) hz4 ⟨_, hd4⟩).run [] _ _ H' _ S4 (hyes rfl J.len a na)) (fun f s6 hsp => ?_) (fun _ _ z => False.elim z)
          cases f with
          | next =>
            obtain ⟨σ6, H6, S6, q6⟩ := hsp
            exact ⟨_, _, S6.unsuite ok, q6⟩
          | brk =>
            obtain ⟨σ6, H6, S6, q6⟩ := hsp
            exact ⟨_, _, S6.unsuite ok, q6⟩
          | cont =>
            obtain ⟨σ6, H6, S6, q6⟩ := hsp
            exact ⟨_, _, S6.unsuite ok, q6⟩
          | ret u =>
            obtain ⟨v6, σ6, H6, S6, r6, q6⟩ := hsp
            exact ⟨_, _, _, S6.unsuite ok, r6, q6⟩
        | false =>
          show wpAny _ X.A (handleBy (.ref a) X.env hds2) _ _ _
          exact ih (hno rfl)
      | @named x n i c ts b₀ suite np pos' hds2 l2 hc hi hln hsu r ih =>
        intro w
        obtain ⟨b, hb1, hyes, hno⟩ := w
        refine wpAny_handleBy_cons (codeAny_handlers_test ?_) (by intro q; cases q)
        have LM := PySem.W.exm_one (M := model X.prog X.w) (J3.kIn) LT hb1
        refine test hc (LM.here ?_)
        cases b with
        | true =>
          refine codeAny_handlers_suite_as ?_
          refine HandSPX.lands_againZ fl3 fun h4 fl4 up4 => ?_
          have J4 : Inv X pins σ' H' { s' with heap := h4 } := J.landed nb fl4.1 ((up.trans up3).trans up4) os ag
          obtain ⟨oe4, vs4, he4, hz4, hd4⟩ := fl4.there
          have S4 := J4.suite he4 hd4 na nL nF
          refine store_ok (X := X.suite a ((a, oe4) :: (X.pn ++ pins))) (v := .ref a) S4 hN hi (.inl hln) rfl (fun s5 S5 => ?_) (.inr hln)
          refine wpAny_mono ((hsu a oe4 cls d (X.pn ++ pins) hz4 ⟨_, hd4⟩).run [] s5 _ H' _ S5 (hyes rfl J.len a na)) (fun f s6 hsp => ?_) (fun _ _ z => False.elim z)
          have end_ : ∀ {σ6 : St} {H6 : Hp} {Q : Shared → Prop}, Inv (X.suite a ((a, oe4) :: (X.pn ++ pins))) [] σ6 H6 s6 → (∀ s7, Inv X pins (σ6.set i none) H6 s7 → Q s7) →
              wpAny (model X.prog X.w) X.A (do bindName X.env n .none; unbindBehindTheSuite X.env n pos') (fun _ s7 => Q s7) X.xe s6 := fun {σ6 H6 Q} S6 hq => gone_ok (S6.unsuite ok) hN hi hln hq
          cases f with
          | next =>
            obtain ⟨σ6, H6, S6, q6⟩ := hsp
            exact end_ S6 fun s7 J7 => ⟨_, _, J7, q6⟩
          | brk =>
            obtain ⟨σ6, H6, S6, q6⟩ := hsp
            exact end_ S6 fun s7 J7 => ⟨_, _, J7, q6⟩
          | cont =>
            obtain ⟨σ6, H6, S6, q6⟩ := hsp
            exact end_ S6 fun s7 J7 => ⟨_, _, J7, q6⟩
          | ret u =>
            obtain ⟨v6, σ6, H6, S6, r6, q6⟩ := hsp
            exact end_ S6 fun s7 J7 => ⟨_, _, _, J7, r6, q6⟩
        | false =>
          show wpAny _ X.A (handleBy (.ref a) X.env hds2) _ _ _
          exact ih (hno rfl)
    exact go hh w
  · cases f with
    | next =>
      obtain ⟨σ', H', J', q⟩ := hsp
      exact wpAny_execs_nil ⟨σ', H', J'.ofTry ok, q⟩
    | brk =>
      obtain ⟨σ', H', J', q⟩ := hsp
      exact ⟨σ', H', J'.ofTry ok, q⟩
    | cont =>
      obtain ⟨σ', H', J', q⟩ := hsp
      exact ⟨σ', H', J'.ofTry ok, q⟩
    | ret u =>
      obtain ⟨v, σ', H', J', r, q⟩ := hsp
      exact ⟨v, σ', H', J'.ofTry ok, r, q⟩
end
end L2
namespace LamX
open PySem PySem.Spec PyProof.Rows L2
section
variable {X : Cx} {pins : List (Addr × Obj)} {σ : L2.St} {H : Hp} {s : Shared}
/-- what the making of a lambda leaves: all but the tables as it was, nothing gone -/
structure ExtD (H H' : Hp) : Prop where
  ext : ExtN H H'
  dom : ∀ b, H b ≠ none → H' b ≠ none
theorem lam_make3 {T : List (Addr × Str)} {c P : Addr} {params : Arguments} {body : Expr} {scope : Scope} {pos : Pos} {E : Value → Shared → Prop} {Q : Value → Shared → Prop} (I : Inv X pins σ H s) (TB : TabB X.base X.mg c P) (hcode : X.env.code = .ref c)
    (hm : (P, X.env.qual ++ "<lambda>") ∈ T) (hu : ∀ p ∈ T, p.1 = P → p.2 = X.env.qual ++ "<lambda>") (hT : Tabs T H) (hdef : defaultsOf params X.env = ([], [])) (hfree : ∀ y ∈ scope.names, y.2 = .free → ∃ c, X.env.cells.lookup y.1 = some c)
    (h : ∀ (f c' : Addr) (pm ctv : Value) (H1 : Hp) (s' : Shared), Inv X pins σ H1 s' → ExtD H H1 → Tabs T H1 →
      s'.heap.get? f = some (PySem.W.kla_obj "<lambda>" (X.env.qual ++ "<lambda>") params body scope (cloFrom X.env.cells scope.names []) pm c' ctv) → H1 f = none → f ∉ frs X.stack → H1 c' = some (CodeO c' (X.env.qual ++ "<lambda>")) → Q (.ref f) s') :
    wpAny (model X.prog X.w) X.A (eval (.Lambda params body scope pos) X.env) Q E s := by
  obtain ⟨ps, hP, ht, ha⟩ := hT _ hm
  refine PySem.W.kla_eval hdef ?_
  have bP : s.heap.BuiltinsAt X.mg P := TB.bm.keeps I.bk
  have hP' : s.heap.get? P = some { cls := .none, data := .fields ps } := I.hok P _ hP
  have nofr : ∀ f, s.heap.objs.size ≤ f → f ∉ frs X.stack := fun f hf z => by
    rcases List.mem_cons.mp (I.stkSub _ z) with e | e
    · have h1 := I.lt
      rw [← e] at h1
      exact Nat.lt_irrefl _ (Nat.lt_of_lt_of_le h1 hf)
    · exact I.nofs hf e
  cases hc : codeAmong pos ps.toList with
  | none =>
    refine PySem.W.kla_makeFunction (mg := X.mg) (c := c) (P := P) (ps := ps) (closure_ok hfree) I.ok.glob (I.mod.glob.keeps I.bk) hcode (TB.code.keeps I.bk) hP' ht hc TB.gP bP fun c' ctv h' tk hx hge hlt hrec htb => ?_
    obtain ⟨c2, oc, vs, t, e2, hoc, hd, hv⟩ := hrec
    cases e2
    have hsz : s.heap.objs.size ≤ h'.objs.size := Nat.le_trans hge (Nat.le_of_lt hlt)
    have nC : H c' = none := I.hok.fresh hge
    have I1 := inv_table (t' := tk) (more := #[rawInt pos.line, rawInt pos.col, .ref c']) (h' := h'.push (PySem.W.kla_obj "<lambda>" (X.env.qual ++ "<lambda>") params body scope (cloFrom X.env.cells scope.names []) ((X.mg "__name__").getD .none) c' ctv)) I hP
      (fun b o hb e => Heap.get?_push_of_some _ (hx b o hb e)) (Heap.get?_push_of_some _ htb) hge ⟨oc, vs, t, Heap.get?_push_of_some _ hoc, hd, hv⟩
    have hE : ExtN H (upd (upd H P (.tbl (ps ++ #[rawInt pos.line, rawInt pos.col, .ref c']))) c' (CodeO c' (X.env.qual ++ "<lambda>"))) := fun b o e n => by
      rw [upd_ne (ne_of_none e nC), upd_ne (fun z => n ps (Option.some.inj (e.symm.trans (by rw [z]; exact hP))))]
      exact e
    have hD : ∀ b, H b ≠ none → upd (upd H P (.tbl (ps ++ #[rawInt pos.line, rawInt pos.col, .ref c']))) c' (CodeO c' (X.env.qual ++ "<lambda>")) b ≠ none := fun b hb z => by
      by_cases b1 : b = c'
      · rw [b1, upd_same] at z; cases z
      · rw [upd_ne b1] at z
        by_cases b2 : b = P
        · rw [b2, upd_same] at z; cases z
        · rw [upd_ne b2] at z; exact hb z
    have eL : (ps ++ #[rawInt pos.line, rawInt pos.col, .ref c']).toList = ps.toList ++ [rawInt pos.line, rawInt pos.col, .ref c'] := by simp
    refine h h'.objs.size c' ((X.mg "__name__").getD .none) ctv _ _ I1 ⟨hE, hD⟩ (fun p hp => ?_) (Heap.get?_push_size _ rfl) ?_ (nofr _ hsz) upd_same
    · by_cases hb : p.1 = P
      · rw [hu p hp hb, hb]
        refine ⟨_, by rw [upd_ne (ne_of_none hP nC), upd_same], by rw [eL]; exact PySem.TriplesOk_snoc _ _ _ _ ht, fun p' cv hcv => ?_⟩
        rw [eL] at hcv
        rcases among_app _ ht hcv with z | z
        · obtain ⟨c0, e1, e2⟩ := ha p' cv z
          exact ⟨c0, e1, hE _ _ e2 codeO_ne⟩
        · exact ⟨c', z, upd_same⟩
      · obtain ⟨ps', a1, a2, a3⟩ := hT p hp
        refine ⟨ps', by rw [upd_ne (ne_of_none a1 nC), upd_ne hb]; exact a1, a2, fun p' cv hcv => ?_⟩
        obtain ⟨c0, e1, e2⟩ := a3 p' cv hcv
        exact ⟨c0, e1, hE _ _ e2 codeO_ne⟩
    · have n1 : h'.objs.size ≠ c' := Nat.ne_of_gt hlt
      have n2 : h'.objs.size ≠ P := Nat.ne_of_gt (Nat.lt_of_lt_of_le (Heap.lt_size hP') hsz)
      rw [upd_ne n1, upd_ne n2]
      exact I.hok.fresh hsz
  | some cv =>
    obtain ⟨c', e, hco⟩ := ha pos cv hc
    subst e
    refine PySem.W.kla_makeFunctionHit (mg := X.mg) (c := c) (P := P) (ps := ps) (closure_ok hfree) I.ok.glob (I.mod.glob.keeps I.bk) hcode (TB.code.keeps I.bk) hP' ht hc bP fun ctv h' tk hx hsz => ?_
    have I1 : Inv X pins σ H { s with heap := h'.push (PySem.W.kla_obj "<lambda>" (X.env.qual ++ "<lambda>") params body scope (cloFrom X.env.cells scope.names []) ((X.mg "__name__").getD .none) c' ctv), toks := tk } := I.kept fun b o e => Heap.get?_push_of_some _ (hx b o e)
    exact h h'.objs.size c' ((X.mg "__name__").getD .none) ctv H _ I1 ⟨ExtN.refl H, fun _ z => z⟩ hT (Heap.get?_push_size _ rfl) (I.hok.fresh hsz) (nofr _ hsz) hco
end
def tLam3 (T : List (Addr × Str)) (TT : (XK → Hp → VK → Prop) → Hp → VK → Prop) (t : XK → TE) : TE := fun σ H Q => Tabs T H ∧ ∀ H1, ExtD H H1 → Tabs T H1 → TT (fun E H' Q' => t E σ H' Q') H1 Q
section
variable {X : Cx}
/-- x(lambda: body) -/
theorem pe_lamcall3 {T : List (Addr × Str)} {TT : (XK → Hp → VK → Prop) → Hp → VK → Prop} {x a : Str} {g c P : Addr} {k : Nat} {pg : Arguments} {bg : List Stmt} {sg : Scope} {dV kV doc pm cdv ct oc : Value} {an od : Option Addr} {osl : Array (Option Value)} {Ng : List Str}
    {params : Arguments} {body : Expr} {scope : Scope} {t : XK → TE} {p lpos pos : Pos} (hg : Gl X x) (hm : X.mg x = some (.ref g)) (hk : PySem.W.keepIn X.K (.ref g) = true)
    (lk : X.K.lookup g = some ⟨oc, od, .func (PySem.W.fnOf x x pg bg sg dV kV doc pm an cdv ct), osl⟩) (hcg : PySem.W.codeIn X.K cdv x = true) (hb : L2.Binds X.K (PySem.W.fnOf x x pg bg sg dV kV doc pm an cdv ct) [a] []) (Sg : FnScope Ng [a] sg) (hNg : Ng[0]? = some a) (hva : Vis sg a)
    (hG : GivesTo X Ng x sg g cdv bg a (X.env.qual ++ "<lambda>") TT)
    (TB : TabB X.base X.mg c P) (hcode : X.env.code = .ref c) (hmT : (P, X.env.qual ++ "<lambda>") ∈ T) (hu : ∀ p ∈ T, p.1 = P → p.2 = X.env.qual ++ "<lambda>") (hr : Room (k + 2) X.A) (L : LamS X.env.scope scope) (hdef : defaultsOf params X.env = ([], []))
    (hbind : ∀ (q : Str) (cl : List (Str × Addr)) (pm cv ctv : Value), bindArgs (PySem.W.kla_fn "<lambda>" q params body scope cl pm cv ctv) ⟨[], []⟩ = pure [])
    (hbody : ∀ (A : Around) (outer : List Env) (s : Shared) (H : Hp) (E : XK) (f c' : Addr), Room k (A.deeper (lamEnv X scope s.heap.objs.size f c')) → PE (lamCx X A outer s H E scope f c') body (t E))
    (hdb : (x == ("__debug__" : Str)) = false) (hd : (a == ("__debug__" : Str)) = false) (hcd : (a == ("__classdict__" : Str)) = false) :
    PE X (.Call (.Name x p) [.Lambda params body scope lpos] [] pos) (tLam3 T TT t) := by
  refine ⟨fun pins s σ H Q I h => ?_⟩
  obtain ⟨hT, h⟩ := h
  refine wpAny_Call_Name_kw (ld_glob I hg hm ?_ hdb)
  refine PySem.W.callWith_K (h₀ := X.base) I.ok.mod.kin hk ?_ (by rfl) (by rfl)
  show wpAny _ _ (spliced ((false, eval (.Lambda params body scope lpos) X.env) :: backTo pos (starEach [] X.env))) _ _ s
  refine Calls.spliced_cons (lam_make3 I TB hcode hmT hu hT hdef (L.has I.ok) fun f c' pm' ctv H1 s' I1 eN T1 hf hfn hfr hco => ?_)
  refine Calls.spliced_nil ⟨I1.kIn, ?_⟩
  have rc : codeAny (model X.prog X.w) X.A (.call (.ref g) ⟨[.ref f], []⟩) (CR C8.CX0 X.stack X.prog X.w H1 s' Q C8.E0) s' := by
    refine run_ofS (N := Ng) (ps := [a]) (us := [.ref f]) (vs := [.ref f]) lk hcg Sg hr I1.env0 (hb s' [.ref f] I1.kIn rfl) (.cons rfl .nil) rfl fun hr' => ?_
    obtain ⟨t', ht', hq'⟩ := hG f c' s' H1 Q (fun E H' Q' => t E σ H' Q') (fun W pn xe E p1 p2 tk hW => pe_act (i := 0) I1 L hf hfn hfr (hbind _ _ _ _ _) tk hW hr' (fun A outer s H hr2 => hbody A outer s H E f c' hr2) hNg hva hd hcd) hco (h H1 eN T1)
    exact ⟨t', ht'.nox, hq'⟩
  refine wpAny_call (codeAny_mono rc fun r s2 hq => ?_)
  cases r with
  | error e => exact (show False from hq).elim
  | ok fl =>
    cases fl with
    | ret u => exact I1.after hq
    | next => exact False.elim hq
    | brk => exact False.elim hq
    | cont => exact False.elim hq
end
end LamX

namespace CT
open PySem PySem.Spec PyProof.Rows L2
/-! ### what a clause gives back -/
def tXI1 (a : Addr) (cls : Value) (d : Option Addr) (C : Addr) (i : Nat) (names : List Str) : XI → TE
  | .k s => tC (.str s)
  | .f j => tXf a cls d C (names.getD j "") (tVar i)
def tXIs (a : Addr) (cls : Value) (d : Option Addr) (C : Addr) (i : Nat) (names : List Str) : List XI → TA
  | [] => tNil
  | x :: xs => tCons (tXI1 a cls d C i names x) (tXIs a cls d C i names xs)
section
variable {X : Cx} {a C : Addr} {oe : Obj} {cls : Value} {d : Option Addr} {pn : List (Addr × Obj)} {i : Nat} {x : Str} {names : List Str}
theorem pa_xis (T : XfC X.K C) (hno : ∀ n ∈ names, PySem.W.findIn X.K (.ref C) n = some none) (hz : Zc cls d oe) (hf : ∃ vs, oe.data = .fields vs) (hi : names ≠ [] → X.N[i]? = some x ∧ Vis X.env.scope x ∧ (x == ("__debug__" : Str)) = false ∧ (x == ("__classdict__" : Str)) = false) :
    ∀ {xs : List XI} {es : List Expr}, mXIs names x xs es = true → PA (X.suite a ((a, oe) :: pn)) es (tXIs a cls d C i names xs)
  | [], [], _ => pa_nil
  | [], _ :: _, h => by simp [mXIs] at h
  | _ :: _, [], h => by simp [mXIs] at h
  | .k s :: xs, e :: es, h => by
    simp only [mXIs, Bool.and_eq_true] at h
    have h1 := h.1
    simp only [mXI] at h1
    split at h1
    · simp only [Bool.and_eq_true, decide_eq_true_eq] at h1
      obtain ⟨rfl, _⟩ := h1
      exact pa_cons pe_str (pa_xis T hno hz hf hi h.2) rfl
    · cases h1
  | .f j :: xs, e :: es, h => by
    simp only [mXIs, Bool.and_eq_true] at h
    have h1 := h.1
    simp only [mXI] at h1
    split at h1
    · rename_i y p n p2
      simp only [Bool.and_eq_true, decide_eq_true_eq] at h1
      obtain ⟨rfl, hn⟩ := h1
      have hm : n ∈ names := List.mem_of_getElem? hn
      obtain ⟨q1, q2, q3, q4⟩ := hi (fun z => by rw [z] at hm; cases hm)
      have hg : names.getD j "" = n := by rw [List.getD_eq_getElem?_getD, hn]; rfl
      have := pe_xf (pos := p2) (n := n) T (hno n hm) hz hf (pe_var (X := X.suite a ((a, oe) :: pn)) (pos := p) (i := i) q1 q2 q3 q4)
      refine pa_cons (te := tXI1 a cls d C i names (.f j)) ?_ (pa_xis T hno hz hf hi h.2) rfl
      show PE _ _ (tXf a cls d C (names.getD j "") (tVar i))
      rw [hg]
      exact this
    · cases h1
end
theorem xis_ok {K : PySem.W.Frag} {β : List Addr} {A : Addr → Prop} {H : Hp} {σ : L2.St} {a C : Addr} {cls : Value} {dx : Option Addr} {i : Nat} {x : Str} {names : List Str} {fs : List D} {dd : Addr} {fv : List (Str × V)}
    (hs : names ≠ [] → σ[i]? = some (some (.ref a)) ∧ cls = .ref C ∧ dx = some dd ∧ H dd = some (.xd fv) ∧ ∀ (j : Nat) (nm : Str), names[j]? = some nm → ∃ v y, fs[j]? = some y ∧ fv.lookup nm = some v ∧ Rep K β A H y v) :
    ∀ {xs : List XI} {es : List Expr} {ds : List D} {Q : List V → Hp → Prop}, mXIs names x xs es = true → xiD fs xs = some ds → (∀ vs, Reps K β A H ds vs → Q vs H) → tXIs a cls dx C i names xs σ H Q
  | [], [], ds, Q, _, e, q => by
    simp only [xiD] at e; cases e
    exact q [] Reps.nil
  | [], _ :: _, _, _, h, _, _ => by simp [mXIs] at h
  | _ :: _, [], _, _, h, _, _ => by simp [mXIs] at h
  | .k s :: xs, e :: es, ds, Q, h, e1, q => by
    simp only [mXIs, Bool.and_eq_true] at h
    have h1 := h.1
    simp only [mXI] at h1
    split at h1
    · simp only [Bool.and_eq_true, decide_eq_true_eq] at h1
      obtain ⟨rfl, hk⟩ := h1
      simp only [xiD] at e1
      cases e2 : xiD fs xs with
      | none => rw [e2] at e1; cases e1
      | some es' =>
        rw [e2] at e1
        have e1 := Option.some.inj e1
        subst e1
        show tXIs a cls dx C i names xs σ H fun vs H1 => Q (_ :: vs) H1
        exact xis_ok hs h.2 e2 fun vs r => q _ (Reps.cons (rep_str hk) r)
    · cases h1
  | .f j :: xs, e :: es, ds, Q, h, e1, q => by
    simp only [mXIs, Bool.and_eq_true] at h
    have h1 := h.1
    simp only [mXI] at h1
    split at h1
    · rename_i y p n p2
      simp only [Bool.and_eq_true, decide_eq_true_eq] at h1
      obtain ⟨rfl, hn⟩ := h1
      have hm : n ∈ names := List.mem_of_getElem? hn
      obtain ⟨q1, rfl, rfl, q4, q5⟩ := hs (fun z => by rw [z] at hm; cases hm)
      obtain ⟨v, y, g1, g2, g3⟩ := q5 j n hn
      have hg : names.getD j "" = n := by rw [List.getD_eq_getElem?_getD, hn]; rfl
      simp only [xiD, g1] at e1
      cases e2 : xiD fs xs with
      | none => rw [e2] at e1; cases e1
      | some es' =>
        rw [e2] at e1
        have e1 := Option.some.inj e1
        subst e1
        refine ⟨.ref a, q1, rfl, rfl, dd, fv, v, rfl, q4, by rw [hg]; exact g2, ?_⟩
        exact xis_ok hs h.2 e2 fun vs r => q _ (Reps.cons g3 r)
    · cases h1
theorem xi_len {fs : List D} : ∀ {xs : List XI} {ds : List D}, xiD fs xs = some ds → ds.length = xs.length
  | [], ds, e => by simp only [xiD] at e; cases e; rfl
  | .k s :: xs, ds, e => by
    simp only [xiD] at e
    cases e2 : xiD fs xs with
    | none => rw [e2] at e; cases e
    | some es => rw [e2] at e; cases e; simp [xi_len e2]
  | .f j :: xs, ds, e => by
    simp only [xiD] at e
    split at e
    · cases e2 : xiD fs xs with
      | none => rw [e2] at e; cases e
      | some es => rw [e2] at e; cases e; simp [xi_len e2]
    · cases e
/-! ### the clauses -/
/-- the clauses' readings -/
def clOf (T : Tb) (mg : Str → Option Value) (h : Str × Bool × List XI) : Cl where
  c := (mg h.1).getD .none
  i := if h.2.1 then some 1 else none
  ts := fun a cls d => match mg h.1 with
    | some (.ref C) => tRet (tTup (tXIs a cls d C 1 (if h.2.1 then (T.XN h.1).getD [] else []) h.2.2))
    | _ => fun _ _ _ => False
theorem hd_ok {P : Program} {w : World} {K : PySem.W.Frag} {mg : Str → Option Value} {base : Heap} {T : Tb} {Γ : Fns} {k : Nat} (fx : Fx P w K mg base T Γ k) {X : Cx} {sc : Scope} (hK : X.K = K) (hmg : X.mg = mg) (hsc : X.env.scope = sc) :
    ∀ {hs : List (Str × Bool × List XI)} {hds : List ExceptHandler}, mHds T.XN X.N sc hs hds = true → HdsX X hds (hs.map (clOf T mg))
  | [], [], _ => .nil
  | [], _ :: _, h => by simp [mHds] at h
  | _ :: _, [], h => by simp [mHds] at h
  | h :: hs, e :: es, hm => by
    simp only [mHds, Bool.and_eq_true] at hm
    have ih := hd_ok fx hK hmg hsc hm.2
    have h1 := hm.1
    unfold mHd at h1
    split at h1
    · rename_i c np nm es' tk tp rp pos'
      simp only [Bool.and_eq_true, decide_eq_true_eq] at h1
      obtain ⟨⟨⟨hc, hg⟩, hn⟩, h1⟩ := h1
      split at h1
      · rename_i names hx
        obtain ⟨_, hdb, C, fI, TX⟩ := fx.xc _ _ hx
        have nms : Names X c (.ref C) := ⟨glb_of hsc hg, hdb, .inl (by rw [hmg]; exact TX.gC)⟩
        have xf : XfC X.K C := ⟨by rw [hK]; exact TX.ga, by rw [hK]; exact TX.gg, by rw [hK]; exact TX.exC, by rw [hK]; exact TX.hdC⟩
        have gC : mg h.1 = some (.ref C) := by rw [← hc]; exact TX.gC
        have ec : (clOf T mg h).c = .ref C := by
          show (mg h.1).getD .none = _
          rw [gC]; rfl
        have et : ∀ a cls d, (clOf T mg h).ts a cls d = tRet (tTup (tXIs a cls d C 1 (if h.2.1 = true then (T.XN h.1).getD [] else []) h.2.2)) := fun a cls d => by
          show (match mg h.1 with | some (.ref C) => _ | _ => _) = _
          rw [gC]
        split at h1
        · rename_i x
          simp only [Bool.and_eq_true, decide_eq_true_eq] at h1
          obtain ⟨⟨⟨⟨⟨⟨hb, hi⟩, hl⟩, hnx⟩, _⟩, hxs⟩, _⟩ := h1
          have hln : X.env.kindOf x = some .local := by
            unfold locB at hl
            split at hl
            · show X.env.scope.names.lookup x = _
              rw [hsc]; assumption
            · cases hl
            · cases hl
          have key : (clOf T mg h) = ⟨.ref C, some 1, (clOf T mg h).ts⟩ := by
            have : (clOf T mg h).i = some 1 := by
              show (if h.2.1 = true then some 1 else none) = _
              rw [hb]; rfl
            rw [← ec, ← this]
          rw [List.map_cons, key]
          refine .named nms hi hln (fun a oe cls d pn hz hf => ?_) ih
          rw [et, hb, if_pos rfl, ← hc, hx]
          obtain ⟨n1, n2⟩ := nm_of hnx
          exact pss_one (ps_ret (pe_tup (pa_xis xf (fun n hn => by rw [hK]; exact TX.noN n hn) hz hf (fun _ => ⟨hi, .inl hln, n1, n2⟩) hxs)))
        · simp only [Bool.and_eq_true, Bool.not_eq_true', decide_eq_true_eq] at h1
          have key : (clOf T mg h) = ⟨.ref C, none, (clOf T mg h).ts⟩ := by
            have : (clOf T mg h).i = none := by
              show (if h.2.1 = true then some 1 else none) = _
              rw [h1.1.1]; rfl
            rw [← ec, ← this]
          rw [List.map_cons, key]
          refine .plain nms (fun a oe cls d pn hz hf => ?_) ih
          rw [et, h1.1.1, if_neg (by decide)]
          exact pss_one (ps_ret (pe_tup (pa_xis xf (fun n hn => by cases hn) hz hf (fun z => absurd rfl z) h1.1.2)))
      · cases h1
    · cases h1
end CT

namespace CT
open PySem PySem.Spec PyProof.Rows L2
/-! ### a lambda handed to a def that tries it -/
def TTw (T : Tb) (mg : Str → Option Value) (K : PySem.W.Frag) (n : Nat) (W : WrD) : (XK → Hp → VK → Prop) → Hp → VK → Prop := fun tl H Q =>
  tl (fun cls d H' => ∀ σ, wMix K n (fun _ _ _ _ => False) { nx := fun _ H' => Q .non H', rt := Q } (W.hs.map (clOf T mg)) cls d σ H') H
    (fun v H1 => [V.str W.told, v].length ≤ sizeLine ∧ ∀ p, H1 p = none → Q (.ref p) (upd H1 p (.tup [.str W.told, v])))
theorem mWr_parts {XN : Str → Option (List Str)} {N : List Str} {sc : Scope} {a : Str} {W : WrD} {b : List Stmt} (h : mWr XN N sc a W b = true) :
    PyData.strOk W.told = true ∧ N[0]? = some a ∧ visB sc a = true ∧ nmOk a = true ∧ ∃ hds, mHds XN N sc W.hs hds = true := by
  unfold mWr at h
  split at h
  · simp only [Bool.and_eq_true, decide_eq_true_eq] at h
    obtain ⟨⟨⟨⟨⟨⟨rfl, h2⟩, _⟩, h4⟩, h5⟩, h6⟩, h7⟩ := h
    exact ⟨h2, h4, h5, h6, _, h7⟩
  · cases h
section
variable {X : Cx} {T : Tb} {Γ : Fns} {k : Nat}
theorem wr_gives (fx : Fx X.prog X.w X.K X.mg X.base T Γ k) {W : WrD} {Ng : List Str} {sg : Scope} {a q x : Str} {g : Addr} {cdg : Value} {bg : List Stmt} (Sg : FnScope Ng [a] sg) (hm : mWr T.XN Ng sg a W bg = true) :
    LamX.GivesTo X Ng x sg g cdg bg a q (TTw T X.mg X.K Ng.length W) := by
  intro f c' s H Q tl act hc h
  have hN0 := (mWr_parts hm).2.1
  unfold mWr at hm
  split at hm
  · rename_i t j1 j2 y p1 p2 tk tp rp hd hds tp2
    simp only [Bool.and_eq_true, decide_eq_true_eq] at hm
    obtain ⟨⟨⟨⟨⟨⟨ht, h2⟩, hy⟩, h4⟩, h5⟩, h6⟩, h7⟩ := hm
    have hy' := hy.symm
    subst hy'
    have ht' := ht.symm
    refine ⟨_, pss_one (ps_try_mix (X := (cxOf C8.CX0 X.prog X.w X.K X.mg X.base Ng x sg g cdg X.A X.stack s H C8.E0).nox) (l := W.hs.map (clOf T X.mg))
      (tb := fun W' D σ H => ∃ Ech : XK, (∀ cls d σ' H', Ech cls d H' → W' cls d σ' H') ∧ σ[0]? = some (some (.ref f)) ∧ H c' = some (LamX.CodeO c' q) ∧ tl Ech H (fun v H1 => [V.str W.told, v].length ≤ sizeLine ∧ ∀ p, H1 p = none → D.rt (.ref p) (upd H1 p (.tup [.str W.told, v]))))
      rfl rfl Sg.nd LamX.takes0 (fun W' pn xe tk' _ => ?_) (hd_ok (X := (cxOf C8.CX0 X.prog X.w X.K X.mg X.base Ng x sg g cdg X.A X.stack s H C8.E0).nox) (sc := sg) fx rfl rfl rfl h7)), ?_⟩
    · refine ⟨fun pins s' σ H' D I h' => ?_⟩
      obtain ⟨Ech, hW, h1, h2, h3⟩ := h'
      have hp := act W' pn xe Ech p1 p2 tk' hW
      have hq := pss_one (ps_ret (pos := rp) (pe_tup (pos := tp) (x1 := tk) (pa_cons (e := .Constant (.str t) j1 j2) pe_str (pa_cons hp pa_nil))))
      refine hq.run pins s' σ H' D I ?_
      rw [ht]
      exact ⟨h1, h2, h3⟩
    · refine ⟨_, fun cls d σ' H' e => e σ', ?_, hc, h⟩
      show (L2.start Ng [V.ref f])[0]? = _
      rfl
  · cases hm
theorem wr_caught (fx : Fx X.prog X.w X.K X.mg X.base T Γ k) {N : List Str} {sg : Scope} {β : List Addr} {A : Addr → Prop} {H : Hp} {M : Mem} {ow : Nat → Option Addr} {σd : Sg} {σ : L2.St} {W : WX} {Q : VK} (R : RE X.K β A H M ow σd σ) {c : Str} {fs : List D} {cls : Value} {dx : Option Addr}
    (x : XRep X.mg T X.K β (avo A ow) H c fs cls dx) : ∀ {hs : List (Str × Bool × List XI)} {hds : List ExceptHandler}, mHds T.XN N sg hs hds = true → Post X.mg T X.K W β (avo A ow) .pl σ H Q (wrH c fs M hs) →
      ∀ σ', wMix X.K N.length (fun _ _ _ _ => False) { nx := fun _ H' => Q .non H', rt := Q } (hs.map (clOf T X.mg)) cls dx σ' H
  | [], _, _, p, _ => p.elim
  | _ :: _, [], hm, _, _ => by simp [mHds] at hm
  | h :: hs, e :: es, hm, p, σ' => by
    simp only [mHds, Bool.and_eq_true] at hm
    have h1 := hm.1
    have x0 := x
    obtain ⟨C, rfl, gc, names, hx, hlen, hfs⟩ := x
    unfold mHd at h1
    split at h1
    · rename_i c' np nm es' tk tp rp pos'
      simp only [Bool.and_eq_true, decide_eq_true_eq] at h1
      obtain ⟨⟨⟨rfl, hg⟩, hnm⟩, h1⟩ := h1
      split at h1
      · rename_i nh hxh
        obtain ⟨_, _, Ch, fI, TX⟩ := fx.xc _ _ hxh
        have ex := fx.xm _ _ _ _ _ _ hx hxh gc TX.gC
        have ec : (clOf T X.mg h).c = .ref Ch := by
          show (X.mg h.1).getD .none = _
          rw [TX.gC]; rfl
        have et : ∀ a cls d, (clOf T X.mg h).ts a cls d = tRet (tTup (tXIs a cls d Ch 1 (if h.2.1 = true then (T.XN h.1).getD [] else []) h.2.2)) := fun a cls d => by
          show (match X.mg h.1 with | some (.ref C) => _ | _ => _) = _
          rw [TX.gC]
        rw [List.map_cons]
        refine ⟨decide (c = h.1), by rw [ec]; exact ex, fun hb hl a ha => ?_, fun hb => ?_⟩
        · have hc : c = h.1 := of_decide_eq_true hb
          subst hc
          rw [hx] at hxh
          cases hxh
          have hCC : C = Ch := by have := TX.gC; rw [gc] at this; cases this; rfl
          subst hCC
          obtain ⟨h0, hb1, xs⟩ := h
          simp only [wrH, if_true] at p
          cases e1 : xiD fs xs with
          | none => rw [e1] at p; exact p.elim
          | some ds =>
            rw [e1] at p
            have fin : ∀ vs, Reps X.K β (avo A ow) H ds vs → vs.length ≤ sizeLine ∧ ∀ p, H p = none → Q (.ref p) (upd H p (.tup vs)) := fun vs r => by
              refine ⟨?_, post_tup (k := .pl) R (by simp) r p⟩
              have e2 := xi_len e1
              have e3 := r.length
              have hz : sizeLine ≥ 1000 := by decide
              have hxl : xs.length ≤ 100 := by
                split at h1 <;> (simp only [Bool.and_eq_true, decide_eq_true_eq] at h1; exact h1.2)
              omega
            split at h1
            · rename_i x
              simp only [Bool.and_eq_true, decide_eq_true_eq] at h1
              obtain ⟨⟨⟨⟨⟨⟨hb', hi⟩, hll⟩, hnx⟩, _⟩, hxs⟩, _⟩ := h1
              have hb'' : hb1 = true := hb'
              subst hb''
              have goal : tTup (tXIs a (.ref C) dx C 1 names xs) (σ'.set 1 (some (.ref a))) H Q := by
                rcases hfs with hnil | ⟨dd, fv, rfl, hdd, _, hall⟩
                · exact xis_ok (dd := 0) (fv := []) (fun z => absurd hnil z) hxs e1 fin
                · exact xis_ok (dd := dd) (fv := fv) (fun _ => ⟨by rw [List.getElem?_set_self (by rw [hl]; exact (List.getElem?_eq_some_iff.mp hi).1)], rfl, rfl, hdd, hall⟩) hxs e1 fin
              have e4 := et a (.ref C) dx
              rw [if_pos rfl, hx] at e4
              show (clOf T X.mg (h0, true, xs)).ts a (.ref C) dx _ _ H
              rw [e4]
              exact goal
            · simp only [Bool.and_eq_true, Bool.not_eq_true', decide_eq_true_eq] at h1
              have hb'' : hb1 = false := h1.1.1
              subst hb''
              have goal : tTup (tXIs a (.ref C) dx C 1 [] xs) σ' H Q := xis_ok (dd := 0) (fv := []) (fun z => absurd rfl z) h1.1.2 e1 fin
              have e4 := et a (.ref C) dx
              rw [if_neg (by simp)] at e4
              show (clOf T X.mg (h0, false, xs)).ts a (.ref C) dx _ _ H
              rw [e4]
              exact goal
        · have hc : ¬ c = h.1 := of_decide_eq_false hb
          obtain ⟨h0, hb1, xs⟩ := h
          have hc : ¬ c = h0 := hc
          simp only [wrH, if_neg hc] at p
          exact wr_caught fx R x0 hm.2 p σ'
      · cases h1
    · cases h1
theorem argsNo_of {p : Arguments} (h : argsNo p = true) : p = ⟨[], [], none, [], [], none, []⟩ := by
  unfold argsNo at h
  split at h
  · rfl
  · cases h
theorem repM_extN {β : List Addr} {H H1 : Hp} {M : Mem} (m : RepM β H M) (e : LamX.ExtN H H1) : RepM β H1 M :=
  ⟨m.len, m.nd, fun n a mo h1 h2 => by
    have q := m.at_ n a mo h1 h2
    cases mo with
    | bag x y z =>
      obtain ⟨l, q1, q2⟩ := q
      exact ⟨l, e _ _ q1 (fun ps z => by cases z), q2⟩
    | cells cs =>
      have q : H a = some (.lst (cs.map V.int)) := q
      exact (e _ _ q (fun ps z => by cases z) : H1 a = some (.lst (cs.map V.int)))⟩
end
/-- f(lambda: e) -/
theorem se_lam {T : Tb} {Γ : Fns} {k : Nat} {cm : Bool} {N : List Str} (w : WrD) (f : Str) (e : IE) (hE : SE T.no Γ k true N e) : SE T Γ k cm N (.lam w f e) := by
  intro X sc W x C tk h
  unfold mE at h
  split at h <;> try (cases h; done)
  rename_i y p params body scope lp cp
  simp only [Bool.and_eq_true, decide_eq_true_eq] at h
  obtain ⟨⟨⟨⟨⟨⟨⟨⟨hc, rfl⟩, hg⟩, hnm⟩, hW⟩, hls⟩, hp⟩, hn⟩, hL⟩ := h
  have L := C.lam hc ⟨scope, e, body, hL⟩
  obtain ⟨st, g, fd, a, Ng, F, hm, hb, Sg, hw⟩ := C.fx.wr _ _ hW
  obtain ⟨oc, od, kV, doc, pm, an, cdv, ct, osl, rfl, lk, hcd⟩ := F.ex
  obtain ⟨c, P, hmT, hu, hcode, TB⟩ := L.tab
  have hp := argsNo_of hp
  subst hp
  obtain ⟨htold, hN0, hva, hna, hds, hmh⟩ := mWr_parts hw
  obtain ⟨n1, n2⟩ := nm_of hna
  refine pe_imp (LamX.pe_lamcall3 (T := lamTabs) (TT := TTw T X.mg X.K Ng.length w) (t := fun E => tE X.mg T.no X.K (fun cls d _ H => E cls d H) (kd T.no e) (semE Γ T.Cn e)) (glb_of C.sc hg) hm F.kp lk hcd hb Sg hN0 (vis_of hva) (wr_gives C.fx Sg hw) TB hcode hmT hu L.room (LamX.lamS_by (by rw [C.sc]; exact hls)) rfl (fun _ _ _ _ _ => rfl)
    (fun A outer s H E f c' hr => hE (LamX.lamCx X A outer s H E scope f c') scope (fun cls d _ H => E cls d H) body ⟨C.n, C.nd, rfl, fun _ => rfl, fun _ => hr, hr.units, C.fx.no, fun _ z => by obtain ⟨_, _, _, z⟩ := z; cases z⟩ (takes_of rfl rfl rfl rfl) (L.mE _ _ _ hL)) (nm_of hnm).1 n1 n2) fun σ H Q q => ?_
  obtain ⟨β, A, M, ow, σd, R, p⟩ := q
  refine ⟨R.tab, fun H1 ex T1 => ?_⟩
  have eE : Ext β H β H1 := ⟨⟨[], by simp, by simp⟩, fun b o q _ nt _ => ex.ext b o q nt, ex.dom, fun _ => T1⟩
  have R1 := R.mono eE (repM_extN R.mem ex.ext)
  have p1 := Post.later eE p
  refine ⟨β, A, M, ow, σd, R1, ?_⟩
  have p1 : Post X.mg T X.K W β (avo A ow) .pl σ H1 Q (wrR w (semE Γ T.Cn e σd M)) := p1
  cases q : semE Γ T.Cn e σd M with
  | ok d M' =>
    rw [q] at p1
    intro β' v H' e' m' r
    have R2 := R1.mono e' m'
    have rv := RepF.plain (nb_kd hn) (fun z hz => R1.avoLive hz) r
    exact ⟨by show 2 ≤ sizeLine; decide, post_tup (k := .pl) R2 (by simp) (Reps.cons (rep_str htold) (Reps.one rv)) (Post.later e' p1)⟩
  | exc c fs M' =>
    rw [q] at p1
    intro β' cls dx H' e' m' x
    exact wr_caught C.fx (R1.mono e' m') x hmh (Post.later e' p1)
  | stuck => rw [q] at p1; exact p1
end CT

namespace CT
open PySem PySem.Spec PyProof.Rows L2
section
variable {T : Tb} {Γ : Fns} {k : Nat} {cm : Bool} {N : List Str}
structure Snd (T : Tb) (Γ : Fns) (k : Nat) (cm : Bool) (N : List Str) (ie : IE) : Prop where
  e : SE T Γ k cm N ie
  t : ST T Γ k cm N ie
  w : SW T Γ k cm N ie
structure Snds (T : Tb) (Γ : Fns) (k : Nat) (cm : Bool) (N : List Str) (ies : List IE) : Prop where
  Es : SEs T Γ k cm N ies
  one : ∀ i, ies = [i] → Snd T Γ k cm N i
theorem Snds.E1 {ies : List IE} (s : Snds T Γ k cm N ies) : SE1 T Γ k cm N ies := fun i e => (s.one i e).e
theorem Snds.Ps {ies : List IE} (s : Snds T Γ k cm N ies) : SPs T Γ k cm N ies := sps_of ies s.E1
theorem Snds.If {ies : List IE} (s : Snds T Γ k cm N ies) : SIf T Γ k cm N ies := sif_of ies fun i e => (s.one i e).t
theorem snd_gen (ie : IE) (hs : genB ie = true) (h1 : SE T Γ k cm N ie) : Snd T Γ k cm N ie :=
  ⟨h1, st_gen ie hs h1, sw_no ie (by cases ie <;> first | exact True.intro | (simp [genB] at hs))⟩
mutual
theorem soundT : ∀ (T : Tb) (cm : Bool) (ie : IE), Snd T Γ k cm N ie
  | T, cm, .var i => snd_gen _ rfl (se_var i)
  | T, cm, .bor i => snd_gen _ rfl (se_bor i)
  | T, cm, .non => snd_gen _ rfl (se_non)
  | T, cm, .bl b => snd_gen _ rfl (se_bl b)
  | T, cm, .int i => snd_gen _ rfl (se_int i)
  | T, cm, .str s => snd_gen _ rfl (se_str s)
  | T, cm, .glob x => snd_gen _ rfl (se_glob x)
  | T, cm, .bin op a b => snd_gen _ rfl (se_bin op a b (soundT T cm a).e (soundT T cm b).e)
  | T, cm, .binL op a b => snd_gen _ rfl (se_binL op a b (soundT T cm a).e (soundT T cm b).e)
  | T, cm, .neg a => snd_gen _ rfl (se_neg a (soundT T cm a).e)
  | T, cm, .cmp c a b => ⟨se_cmp c a b (soundT T cm a).e (soundT T cm b).e, st_cmp c a b (soundT T cm a).e (soundT T cm b).e, sw_no _ True.intro⟩
  | T, cm, .chain c d p q r => ⟨se_chain c d p q r (soundT T cm p).e (soundT T cm q).e (soundT T cm r).e, st_chain c d p q r (soundT T cm p).e (soundT T cm q).e (soundT T cm r).e, sw_no _ True.intro⟩
  | T, cm, .isN a => ⟨se_isN a (soundT T cm a).e, st_isN a (soundT T cm a).e, sw_no _ True.intro⟩
  | T, cm, .notN a => ⟨se_notN a (soundT T cm a).e, st_notN a (soundT T cm a).e, sw_no _ True.intro⟩
  | T, cm, .not a => ⟨se_not a (soundT T cm a).e, st_not a (soundT T cm a).t, sw_no _ True.intro⟩
  | T, cm, .and a b => ⟨se_and a b (soundT T cm a).e (soundT T cm b).e, st_and a b (sw_and a b (soundT T cm a).t (soundT T cm b).t (soundT T cm b).w), sw_and a b (soundT T cm a).t (soundT T cm b).t (soundT T cm b).w⟩
  | T, cm, .or a b => ⟨se_or a b (soundT T cm a).e (soundT T cm b).e, st_or a b (sw_or a b (soundT T cm a).t (soundT T cm b).t (soundT T cm b).w), sw_or a b (soundT T cm a).t (soundT T cm b).t (soundT T cm b).w⟩
  | T, cm, .ife t a b => ⟨se_ife t a b (soundT T cm a).e (soundT T cm b).e (soundT T cm t).t, st_ife t a b (soundT T cm a).t (soundT T cm b).t (soundT T cm t).t, sw_no _ True.intro⟩
  | T, cm, .tup es => snd_gen _ rfl (se_tup es (soundsT T cm es).Es)
  | T, cm, .lst es => snd_gen _ rfl (se_lst es (soundsT T cm es).Es)
  | T, cm, .idx a i => snd_gen _ rfl (se_idx a i (soundT T cm a).e (soundT T cm i).e)
  | T, cm, .slice a lo hi => snd_gen _ rfl (se_slice a lo hi (soundT T cm a).e (soundsT T cm hi).Ps (soundsT T cm lo).Ps)
  | T, cm, .call f es => snd_gen _ rfl (se_call f es (soundsT T cm es).Es)
  | T, cm, .blt f es => snd_gen _ rfl (se_blt f es (soundsT T cm es).Es)
  | T, cm, .isi ts a => snd_gen _ rfl (se_isi ts a (soundT T cm a).e)
  | T, cm, .tupS a es => snd_gen _ rfl (se_tupS a es (soundT T cm a).e (soundsT T cm es).Es)
  | T, cm, .join s a => snd_gen _ rfl (se_join s a (soundT T cm a).e)
  | T, cm, .int2 a => snd_gen _ rfl (se_int2 a (soundT T cm a).e)
  | T, cm, .isB ng b a => ⟨se_isB ng b a (soundT T cm a).e, st_isB ng b a (soundT T cm a).e, sw_no _ True.intro⟩
  | T, cm, .lam w f e => snd_gen _ rfl (se_lam w f e (soundT T.no true e).e)
  | T, cm, .mkx c ns es => snd_gen _ rfl (se_mkx c ns es (soundsT T cm es).Es)
  | T, cm, .dct0 => snd_gen _ rfl se_dct0
  | T, cm, .o1 o a => snd_gen _ rfl (se_o1 o a (soundT T cm a).e)
  | T, cm, .o2 o a b => snd_gen _ rfl (se_o2 o a b)
  | T, cm, .rev a => snd_gen _ rfl (se_rev a (soundT T cm a).e)
  | T, cm, .zipl a b => snd_gen _ rfl (se_zipl a b (soundT T cm a).e (soundT T cm b).e)
  | T, cm, .sset a => snd_gen _ rfl (se_sset a (soundT T cm a).e)
  | T, cm, .dcomp kx vx tg own kq src => snd_gen _ rfl (se_dcomp kx vx tg own kq src (soundT T cm kx).e (soundT T cm vx).e (soundsT T cm src).E1 (soundsT T cm src).Es)
  | T, cm, .comp elt tg own kq src ifs => snd_gen _ rfl (se_comp elt tg own kq src ifs (soundT T cm elt).e (soundsT T cm src).E1 (soundsT T cm src).Es (soundsT T cm ifs).If)
theorem soundsT : ∀ (T : Tb) (cm : Bool) (ies : List IE), Snds T Γ k cm N ies
  | T, cm, [] => ⟨ses_nil, fun _ e => (nomatch e)⟩
  | T, cm, i :: is => ⟨ses_cons i is (soundT T cm i).e (soundsT T cm is).Es, fun j e => by cases e; exact soundT T cm i⟩
end
theorem sound (ie : IE) : Snd T Γ k cm N ie := soundT T cm ie
theorem sounds (ies : List IE) : Snds T Γ k cm N ies := soundsT T cm ies
end
end CT

namespace CT
open PySem PySem.Spec PyProof.Rows L2

/-! ### statements as terms -/
inductive IS where
  | expr (e : IE) | set (t : Tgt) (e : IE) | setO (i : Nat) (e : IE) | par2 (o : Bool) (i j : Nat) (a b : IE) | par3 (i j l : Nat) (a b c : IE) | aug (i : Nat) (op : Op) (e : IE)
  | app (i : Nat) (e : IE) | ext (i : Nat) (e : IE) | dis (i : Nat)
  | par2b (i j : Nat) (a b : IE) | rai (c : Str) (es : List IE) | put (i : Nat) (k v : IE)
  | ret (e : IE) | retO (i : Nat) | retN | brk | cont | pass
  | ife (t : IE) (a b : List IS) | whl (t : IE) (b : List IS) | for (tg : Tgt) (k : SK) (src : List IE) (b : List IS)
inductive Out where
  | nx (σ : Sg) (M : Mem) | rt (d : D) (M : Mem) | bk (σ : Sg) (M : Mem) | ct (σ : Sg) (M : Mem) | ex (c : Str) (fs : List D) (σ : Sg) (M : Mem) | stuck
@[simp] def Res.out {α : Type} (r : Res α) (σ : Sg) (f : α → Mem → Out) : Out := match r with
  | .ok a M => f a M
  | .exc c fs M => .ex c fs σ M
  | .stuck => .stuck
@[simp] def Out.then (o : Out) (f : Sg → Mem → Out) : Out := match o with
  | .nx σ M => f σ M
  | o => o
def augD : Op → D → D → Option D
  | .add, .int i, .int j => some (.int (i + j))
  | .sub, .int i, .int j => some (.int (i - j))
  | .pow, _, _ => none
  | op, .int i, .int j => binD op (.int i) (.int j)
  | _, _, _ => none
def lstOf : D → Option (List D)
  | .lst xs => some xs
  | _ => none
def whileN (t : Sg → Mem → Res D) (b : Sg → Mem → Out) : Nat → Sg → Mem → Out
  | 0, _, _ => .stuck
  | n + 1, σ, M => (t σ M).out σ fun x M1 => match truD x with
    | some true => (match b σ M1 with
      | .nx σ' M' => whileN t b n σ' M'
      | .ct σ' M' => whileN t b n σ' M'
      | .bk σ' M' => .nx σ' M'
      | o => o)
    | some false => .nx σ M1
    | none => .stuck
theorem whileN_mono {t : Sg → Mem → Res D} {b : Sg → Mem → Out} : ∀ (n m : Nat) (σ : Sg) (M : Mem), n ≤ m → whileN t b n σ M ≠ .stuck → whileN t b m σ M = whileN t b n σ M
  | 0, _, _, _, _, h => absurd rfl h
  | n + 1, 0, _, _, hl, _ => absurd hl (by omega)
  | n + 1, m + 1, σ, M, hl, h => by
    unfold whileN at h ⊢
    cases q : t σ M with
    | ok x M1 =>
      rw [q] at h
      simp only [Res.out] at h ⊢
      cases q2 : truD x with
      | none => rfl
      | some k =>
        rw [q2] at h
        cases k with
        | false => rfl
        | true =>
          dsimp only at h ⊢
          cases q3 : b σ M1 with
          | nx σ' M' => rw [q3] at h; exact whileN_mono n m σ' M' (by omega) h
          | ct σ' M' => rw [q3] at h; exact whileN_mono n m σ' M' (by omega) h
          | _ => rfl
    | exc c fs M1 => rfl
    | stuck => rfl
open Classical in
noncomputable def whileL (t : Sg → Mem → Res D) (b : Sg → Mem → Out) (σ : Sg) (M : Mem) : Out := if h : ∃ n, whileN t b n σ M ≠ .stuck then whileN t b (Classical.choose h) σ M else .stuck
theorem whileL_eq {t : Sg → Mem → Res D} {b : Sg → Mem → Out} {σ : Sg} {M : Mem} (n : Nat) (h : whileN t b n σ M ≠ .stuck) : whileL t b σ M = whileN t b n σ M := by
  have hx : ∃ n, whileN t b n σ M ≠ .stuck := ⟨n, h⟩
  unfold whileL
  rw [dif_pos hx]
  have hc := Classical.choose_spec hx
  rcases Nat.le_total n (Classical.choose hx) with z | z
  · exact whileN_mono _ _ _ _ z h
  · exact (whileN_mono _ _ _ _ z hc).symm
theorem whileL_ex {t : Sg → Mem → Res D} {b : Sg → Mem → Out} {σ : Sg} {M : Mem} (h : whileL t b σ M ≠ .stuck) : ∃ n, whileL t b σ M = whileN t b n σ M ∧ whileN t b n σ M ≠ .stuck := by
  unfold whileL at h ⊢
  split at h
  · rename_i q
    rw [dif_pos q]
    exact ⟨_, rfl, h⟩
  · exact absurd rfl h
/-- one turn -/
theorem whileL_step {t : Sg → Mem → Res D} {b : Sg → Mem → Out} {σ : Sg} {M : Mem} : whileL t b σ M = (t σ M).out σ fun x M1 => match truD x with
    | some true => (match b σ M1 with
      | .nx σ' M' => whileL t b σ' M'
      | .ct σ' M' => whileL t b σ' M'
      | .bk σ' M' => .nx σ' M'
      | o => o)
    | some false => .nx σ M1
    | none => .stuck := by
  by_cases h : ∃ n, whileN t b n σ M ≠ .stuck
  · obtain ⟨n, h⟩ := h
    rw [whileL_eq n h]
    cases n with
    | zero => exact absurd rfl h
    | succ n =>
      unfold whileN at h ⊢
      cases q : t σ M with
      | ok x M1 =>
        rw [q] at h
        simp only [Res.out] at h ⊢
        cases q2 : truD x with
        | none => rfl
        | some k =>
          rw [q2] at h
          cases k with
          | false => rfl
          | true =>
            dsimp only at h ⊢
            cases q3 : b σ M1 with
            | nx σ' M' => rw [q3] at h; exact (whileL_eq n h).symm
            | ct σ' M' => rw [q3] at h; exact (whileL_eq n h).symm
            | _ => rfl
      | exc c fs M1 => rfl
      | stuck => rfl
  · have hs : whileL t b σ M = .stuck := by unfold whileL; rw [dif_neg h]
    have h1 : ∀ n, whileN t b (n + 1) σ M = .stuck := fun n => Classical.byContradiction fun z => h ⟨n + 1, z⟩
    rw [hs]
    have h0 := h1 0
    unfold whileN at h0
    cases q : t σ M with
    | ok x M1 =>
      rw [q] at h0
      simp only [Res.out] at h0 ⊢
      cases q2 : truD x with
      | none => rfl
      | some k =>
        rw [q2] at h0
        cases k with
        | false => exact h0.symm
        | true =>
          dsimp only at h0 ⊢
          have go : ∀ σ' M', (b σ M1 = .nx σ' M' ∨ b σ M1 = .ct σ' M') → Out.stuck = whileL t b σ' M' := fun σ' M' e => by
            unfold whileL
            split
            · rename_i hx
              have hc := Classical.choose_spec hx
              have h2 := h1 (Classical.choose hx)
              unfold whileN at h2
              rw [q] at h2
              simp only [Res.out, q2] at h2
              rcases e with e | e <;> (rw [e] at h2; exact absurd h2 hc)
            · rfl
          cases q3 : b σ M1 with
          | nx σ' M' => exact go _ _ (.inl q3)
          | ct σ' M' => exact go _ _ (.inr q3)
          | bk σ' M' => rw [q3] at h0; cases h0
          | rt d M' => rw [q3] at h0; cases h0
          | ex c fs σ' M' => rw [q3] at h0; cases h0
          | stuck => rfl
    | exc c fs M1 => rw [q] at h0; cases h0
    | stuck => rfl
def forL (asg : D → Sg → Option Sg) (b : Sg → Mem → Out) : List D → Sg → Mem → Out
  | [], σ, M => .nx σ M
  | x :: r, σ, M => match asg x σ with
    | none => .stuck
    | some σ1 => match b σ1 M with
      | .nx σ' M' => forL asg b r σ' M'
      | .ct σ' M' => forL asg b r σ' M'
      | .bk σ' M' => .nx σ' M'
      | o => o
section
variable (Γ : Fns) (Cn : Str → Option D)
mutual
noncomputable def semS : IS → Sg → Mem → Out
  | .expr e, σ, M => (semE Γ Cn e σ M).out σ fun _ M1 => .nx σ M1
  | .set t e, σ, M => (semE Γ Cn e σ M).out σ fun x M1 => match asgT t x σ with | some σ' => .nx σ' M1 | none => .stuck
  | .setO i e, σ, M => (semE Γ Cn e σ M).out σ fun x M1 => .nx (σ.set i (.o x)) M1
  | .par2 o i j a b, σ, M => (semE Γ Cn a σ M).out σ fun x M1 => (semE Γ Cn b σ M1).out σ fun y M2 => .nx ((σ.set i (if o then .o x else .v x)).set j (.v y)) M2
  | .par2b i j a b, σ, M => (semE Γ Cn a σ M).out σ fun x M1 => (semE Γ Cn b σ M1).out σ fun y M2 => .nx ((σ.set i (.v x)).set j (.o y)) M2
  | .par3 i j l a b c, σ, M => (semE Γ Cn a σ M).out σ fun x M1 => (semE Γ Cn b σ M1).out σ fun y M2 => (semE Γ Cn c σ M2).out σ fun z M3 => .nx (((σ.set i (.v x)).set j (.v y)).set l (.v z)) M3
  | .aug i op e, σ, M => match σ[i]? with
    | some (.v x) => (semE Γ Cn e σ M).out σ fun y M1 => match augD op x y with | some z => .nx (σ.set i (.v z)) M1 | none => .stuck
    | _ => .stuck
  | .app i e, σ, M => match σ[i]? with
    | some (.o (.lst xs)) => (semE Γ Cn e σ M).out σ fun y M1 => if xs.length < sizeLine then .nx (σ.set i (.o (.lst (xs ++ [y])))) M1 else .stuck
    | _ => .stuck
  | .ext i e, σ, M => match σ[i]? with
    | some (.o (.lst xs)) => (semE Γ Cn e σ M).out σ fun y M1 => match lstOf y with | some ys => if xs.length + ys.length ≤ sizeLine then .nx (σ.set i (.o (.lst (xs ++ ys)))) M1 else .stuck | none => .stuck
    | _ => .stuck
  | .dis i, σ, M => match σ[i]? with
    | some (.o x) => .nx (σ.set i (.v x)) M
    | some (.v x) => .nx σ M
    | _ => .stuck
  | .rai c es, σ, M => (semEs Γ Cn es σ M).out σ fun xs M1 => .ex c xs σ M1
  | .put i k v, σ, M => match σ[i]? with
    | some (.o (.lst xs)) => (semE Γ Cn v σ M).out σ fun y M1 => (semE Γ Cn k σ M1).out σ fun j M2 => match j with
      | .int j => if 0 ≤ j ∧ j.toNat < xs.length then .nx (σ.set i (.o (.lst (xs.set j.toNat y)))) M2 else .stuck
      | _ => .stuck
    | _ => .stuck
  | .ret e, σ, M => (semE Γ Cn e σ M).out σ fun x M1 => .rt x M1
  | .retO i, σ, M => match σ[i]? with
    | some (.o x) => .rt x M
    | _ => .stuck
  | .retN, _, M => .rt .non M
  | .brk, σ, M => .bk σ M
  | .cont, σ, M => .ct σ M
  | .pass, σ, M => .nx σ M
  | .ife t a b, σ, M => (semE Γ Cn t σ M).out σ fun x M1 => match truD x with | some true => semSs a σ M1 | some false => semSs b σ M1 | none => .stuck
  | .whl t b, σ, M => whileL (semE Γ Cn t) (semSs b) σ M
  | .for tg k src b, σ, M => (semI Γ Cn k src σ M).out σ fun items M1 => forL (asgT tg) (semSs b) items σ M1
noncomputable def semSs : List IS → Sg → Mem → Out
  | [], σ, M => .nx σ M
  | s :: ss, σ, M => (semS s σ M).then fun σ1 M1 => semSs ss σ1 M1
end
end

/-! ### their readings -/
structure At (K : PySem.W.Frag) (β0 : List Addr) (H0 : Hp) (A : Addr → Prop) (β : List Addr) (H : Hp) (M : Mem) (ow : Nat → Option Addr) (σd : Sg) (σ : L2.St) : Prop where
  re : RE K β A H M ow σd σ
  ext : Ext β0 H0 β H
  fresh : ∀ i a, ow i = some a → H0 a = none
  av0 : ∀ a, A a → H0 a ≠ none
def PostS (mg : Str → Option Value) (T : Tb) (K : PySem.W.Frag) (W : WX) (β0 : List Addr) (H0 : Hp) (A : Addr → Prop) (fr : Bool) (β : List Addr) (H : Hp) (ow : Nat → Option Addr) (Z : Ends) : Out → Prop
  | .nx σd M => ∀ β' H' ow' σ, At K β0 H0 A β' H' M ow' σd σ → Step (avo A ow) β H (avo A ow') β' H' → Z.nx σ H'
  | .bk σd M => ∀ β' H' ow' σ, At K β0 H0 A β' H' M ow' σd σ → Step (avo A ow) β H (avo A ow') β' H' → Z.bk σ H'
  | .ct σd M => ∀ β' H' ow' σ, At K β0 H0 A β' H' M ow' σd σ → Step (avo A ow) β H (avo A ow') β' H' → Z.ct σ H'
  | .rt d M => ∀ β' H' v, Ext β0 H0 β' H' → RepM β' H' M → RepF (if fr then .fr else .pl) K β' A H0 H' d v → Z.rt v H'
  | .ex c fs σd M => ∀ β' H' ow' σ cls dx, At K β0 H0 A β' H' M ow' σd σ → Step (avo A ow) β H (avo A ow') β' H' → XRep mg T K β' (avo A ow') H' c fs cls dx → W cls dx σ H'
  | .stuck => False
def tS (mg : Str → Option Value) (T : Tb) (K : PySem.W.Frag) (W : WX) (fr : Bool) (c : Sg → Mem → Out) : TS := fun Z σ H =>
  ∃ β0 H0 A β M ow σd, At K β0 H0 A β H M ow σd σ ∧ PostS mg T K W β0 H0 A fr β H ow Z (c σd M)
section
variable {mg : Str → Option Value} {T : Tb} {K : PySem.W.Frag} {W : WX} {β0 β β' : List Addr} {A : Addr → Prop} {fr : Bool} {σ : L2.St} {H0 H H' : Hp} {M M' : Mem} {ow ow' : Nat → Option Addr} {σd : Sg} {Z : Ends}
theorem At.mono (a : At K β0 H0 A β H M ow σd σ) (e : Ext β H β' H') (m : RepM β' H' M') : At K β0 H0 A β' H' M' ow σd σ := ⟨a.re.mono e m, a.ext.trans e, a.fresh, a.av0⟩
theorem At.sub {a : Addr} (a1 : At K β0 H0 A β H M ow σd σ) {a : Addr} (h : H a = none) : H0 a = none ∧ ¬ avo A ow a :=
  ⟨a1.ext.back h, fun z => a1.re.avoLive z h⟩
theorem PostS.later {o : Out} (e : Step (avo A ow) β H (avo A ow') β' H') (h : PostS mg T K W β0 H0 A fr β H ow Z o) : PostS mg T K W β0 H0 A fr β' H' ow' Z o := by
  cases o with
  | nx σd M => exact fun β2 H2 ow2 σ a s => h β2 H2 ow2 σ a (e.trans s)
  | bk σd M => exact fun β2 H2 ow2 σ a s => h β2 H2 ow2 σ a (e.trans s)
  | ct σd M => exact fun β2 H2 ow2 σ a s => h β2 H2 ow2 σ a (e.trans s)
  | rt d M => exact h
  | ex c fs σd M => exact fun β2 H2 ow2 σ cls dx a s x => h β2 H2 ow2 σ cls dx a (e.trans s) x
  | stuck => exact h
/-- what stands behind an expression -/
def Got (mg : Str → Option Value) (T : Tb) (K : PySem.W.Frag) (W : WX) (fr : Bool) (kk : Kd) (f : Sg → D → Mem → Out) (Z : Ends) (σ : L2.St) (v : V) (H1 : Hp) : Prop :=
  ∃ β0 H0 A βs Hs Ms ow σd β M d, At K β0 H0 A βs Hs Ms ow σd σ ∧ Ext βs Hs β H1 ∧ RepM β H1 M ∧ RepF kk K β (avo A ow) Hs H1 d v ∧ PostS mg T K W β0 H0 A fr βs Hs ow Z (f σd d M)
theorem tS_out {kk : Kd} {ce : Sg → Mem → Res D} {f : Sg → D → Mem → Out} (h : tS mg T K W fr (fun σ M => (ce σ M).out σ (f σ)) Z σ H) : tE mg T K W kk ce σ H fun v H1 => Got mg T K W fr kk f Z σ v H1 := by
  obtain ⟨β0, H0, A, β, M, ow, σd, a, p⟩ := h
  refine ⟨β, A, M, ow, σd, a.re, ?_⟩
  dsimp only at p
  cases q : ce σd M with
  | ok d M' =>
    rw [q] at p
    exact fun β' v H' e m r => ⟨β0, H0, A, β, H, M, ow, σd, β', M', d, a, e, m, r, p⟩
  | exc c fs M' =>
    rw [q] at p
    exact fun β' cls dx H' e m x => p β' H' ow σ cls dx (a.mono e m) (Step.of e) x
  | stuck => rw [q] at p; exact p
theorem tS_test {ce : Sg → Mem → Res D} {f : Sg → Bool → Mem → Out} (h : tS mg T K W fr (fun σ M => (ce σ M).out σ fun x M1 => match truD x with | some b => f σ b M1 | none => .stuck) Z σ H) :
    tT mg T K W ce σ H fun b H1 => tS mg T K W fr (fun σ M => f σ b M) Z σ H1 := by
  obtain ⟨β0, H0, A, β, M, ow, σd, a, p⟩ := h
  refine ⟨β, A, M, ow, σd, a.re, ?_⟩
  dsimp only at p
  cases q : ce σd M with
  | ok d M' =>
    rw [q] at p
    simp only [Res.out] at p
    cases q2 : truD d with
    | none => rw [q2] at p; exact p.elim
    | some b =>
      rw [q2] at p
      exact ⟨b, q2, fun β' H' e m => ⟨β0, H0, A, β', M', ow, σd, a.mono e m, PostS.later (Step.of e) p⟩⟩
  | exc c fs M' =>
    rw [q] at p
    exact fun β' cls dx H' e m x => p β' H' ow σ cls dx (a.mono e m) (Step.of e) x
  | stuck => rw [q] at p; exact p
theorem tS_seq {c d : Sg → Mem → Out} (h : tS mg T K W fr (fun σ M => (c σ M).then d) Z σ H) : tSeq (tS mg T K W fr c) (tS mg T K W fr d) Z σ H := by
  obtain ⟨β0, H0, A, β, M, ow, σd, a, p⟩ := h
  refine ⟨β0, H0, A, β, M, ow, σd, a, ?_⟩
  dsimp only at p
  cases q : c σd M with
  | nx σ1 M1 =>
    rw [q] at p
    exact fun β' H' ow' σ' a' s => ⟨β0, H0, A, β', M1, ow', σ1, a', PostS.later s p⟩
  | bk σ1 M1 => rw [q] at p; exact p
  | ct σ1 M1 => rw [q] at p; exact p
  | rt d M1 => rw [q] at p; exact p
  | ex c fs σ1 M1 => rw [q] at p; exact p
  | stuck => rw [q] at p; exact p
theorem tS_nx (h : tS mg T K W fr (fun σ M => .nx σ M) Z σ H) : Z.nx σ H := by
  obtain ⟨β0, H0, A, β, M, ow, σd, a, p⟩ := h
  exact p β H ow σ a (Step.refl _ _ _)
def setW (ow : Nat → Option Addr) (i : Nat) (o : Option Addr) : Nat → Option Addr := fun j => if j = i then o else ow j
theorem setW_avo {i : Nat} {p a : Addr} (h : avo A (setW ow i (some p)) a) : avo A ow a ∨ a = p := by
  rcases h with h | ⟨j, h⟩
  · exact .inl (.inl h)
  · unfold setW at h
    split at h
    · exact .inr (Option.some.inj h).symm
    · exact .inl (.inr ⟨j, h⟩)
/-- a new slot of one's own -/
theorem At.own {βs : List Addr} {Hs : Hp} {Ms : Mem} {d : D} {p : Addr} {i : Nat} (a : At K β0 H0 A βs Hs Ms ow σd σ) (e : Ext βs Hs β H) (m : RepM β H M) (o : Own K β (fun z => avo A ow z ∨ z = p) H d p) (hp : Hs p = none) :
    At K β0 H0 A β H M (setW ow i (some p)) (σd.set i (.o d)) (σ.set i (some (.ref p))) ∧ Step (avo A ow) βs Hs (avo A (setW ow i (some p))) β H := by
  have gr : ∀ b, avo A (setW ow i (some p)) b → Hs b ≠ none → avo A ow b := fun b z n => (setW_avo z).elim id fun z => absurd hp (z ▸ n)
  have nv : ¬ avo A ow p := fun z => a.re.avoLive z hp
  refine ⟨⟨⟨m, ?_, ?_, fun b z => e.dom b (a.re.av b z), by rw [List.length_set, List.length_set]; exact a.re.len, ?_, e.tab a.re.tab⟩, a.ext.trans e, ?_, a.av0⟩, ⟨e.imp fun _ z => z.elim, gr⟩⟩
  · intro j l b h1 h2
    unfold setW at h1 h2
    split at h1 <;> split at h2
    · omega
    · cases h1; exact absurd (.inr ⟨l, h2⟩) nv
    · cases h2; exact absurd (.inr ⟨j, h1⟩) nv
    · exact a.re.inj j l b h1 h2
  · intro j b h
    unfold setW at h
    split at h
    · cases h; exact o.live
    · exact e.dom b (a.re.alive j b h)
  · intro j s h
    by_cases hj : i = j
    · subst hj
      have hi : i < σd.length := by
        have := (List.getElem?_eq_some_iff.mp h).1
        rwa [List.length_set] at this
      rw [List.getElem?_set_self hi] at h
      cases h
      refine ⟨p, by simp [setW], by rw [List.getElem?_set_self (by rw [← a.re.len]; exact hi)], o.mono (Ext.refl _ _) (fun b z _ => setW_avo z), fun z => nv (.inl z)⟩
    · rw [List.getElem?_set_ne hj] at h
      rw [List.getElem?_set_ne hj]
      have q := a.re.slot j s h
      cases s with
      | no => exact True.intro
      | v d =>
        obtain ⟨v, h1, h2⟩ := q
        exact ⟨v, h1, Rep.mono e gr _ _ h2⟩
      | o d =>
        obtain ⟨b, h1, h2, h3, h4⟩ := q
        exact ⟨b, by unfold setW; rw [if_neg (Ne.symm hj)]; exact h1, h2, h3.mono e gr, h4⟩
  · intro j b h
    unfold setW at h
    split at h
    · cases h; exact a.ext.back hp
    · exact a.fresh j b h
/-- a list of one's own is written -/
theorem At.write {ds ds' : List D} {p : Addr} {vs ws : List V} {i : Nat} (a : At K β0 H0 A β H M ow σd σ) (hi : σd[i]? = some (.o (.lst ds))) (hp : ow i = some p) (hH : H p = some (.lst vs)) (r : Reps K β (avo A ow) H ds' ws) :
    At K β0 H0 A β (upd H p (.lst ws)) M ow (σd.set i (.o (.lst ds'))) σ ∧ Step (avo A ow) β H (avo A ow) β (upd H p (.lst ws)) := by
  obtain ⟨p', q1, q2, q3, q4⟩ := a.re.slot i _ hi
  rw [hp] at q1; cases q1
  have wr : ExtO (fun z => z = p) β H β (upd H p (.lst ws)) := ExtO.write hH
  have hO : ∀ b, b = p → H b ≠ none → avo A ow b := fun b z _ => .inr ⟨i, by rw [z]; exact hp⟩
  refine ⟨⟨⟨a.re.mem.upd q3.1, a.re.inj, fun j b h => wr.dom b (a.re.alive j b h), fun b z => wr.dom b (a.re.av b z), by rw [List.length_set]; exact a.re.len, ?_, wr.tab a.re.tab⟩, a.ext.past (a.fresh i p hp) wr, a.fresh, a.av0⟩, ⟨wr.imp fun b z => hO b z (by rw [z, hH]; simp), fun b z _ => z⟩⟩
  intro j s h
  by_cases hj : i = j
  · subst hj
    have hl := (List.getElem?_eq_some_iff.mp hi).1
    rw [List.getElem?_set_self hl] at h
    cases h
    exact ⟨p, hp, q2, ⟨q3.1, ws, upd_same, Reps.monoO wr hO (fun b z _ => z) _ _ r⟩, q4⟩
  · rw [List.getElem?_set_ne hj] at h
    have q := a.re.slot j s h
    cases s with
    | no => exact True.intro
    | v d =>
      obtain ⟨v, h1, h2⟩ := q
      exact ⟨v, h1, Rep.monoO wr hO (fun b z _ => z) _ _ h2⟩
    | o d =>
      obtain ⟨b, h1, h2, h3, h4⟩ := q
      exact ⟨b, h1, h2, h3.monoO wr hO (fun b z _ => z) (fun z => hj (a.re.inj i j p hp (by rw [← z]; exact h1))), h4⟩
/-- a value of one's own is shared from now on -/
theorem At.dis {d : D} {i : Nat} (a : At K β0 H0 A β H M ow σd σ) (hi : σd[i]? = some (.o d)) : At K β0 H0 A β H M (setW ow i none) (σd.set i (.v d)) σ ∧ Step (avo A ow) β H (avo A (setW ow i none)) β H := by
  obtain ⟨p, q1, q2, q3, q4⟩ := a.re.slot i _ hi
  have sub : ∀ b, avo A (setW ow i none) b → avo A ow b := fun b z => z.elim .inl fun ⟨j, z⟩ => by
    unfold setW at z
    split at z
    · cases z
    · exact .inr ⟨j, z⟩
  have st : Step (avo A ow) β H (avo A (setW ow i none)) β H := ⟨ExtO.refl _ _, fun b z _ => sub b z⟩
  refine ⟨⟨⟨a.re.mem, ?_, ?_, a.re.av, by rw [List.length_set]; exact a.re.len, ?_, a.re.tab⟩, a.ext, ?_, a.av0⟩, st⟩
  · intro j l b h1 h2
    unfold setW at h1 h2
    split at h1 <;> split at h2
    · cases h1
    · cases h1
    · cases h2
    · exact a.re.inj j l b h1 h2
  · intro j b h
    unfold setW at h
    split at h
    · cases h
    · exact a.re.alive j b h
  · intro j s h
    by_cases hj : i = j
    · subst hj
      have hl := (List.getElem?_eq_some_iff.mp hi).1
      rw [List.getElem?_set_self hl] at h
      cases h
      refine ⟨.ref p, q2, (q3.mono (Ext.refl _ _) (fun b z _ => sub b z)).rep fun z => ?_⟩
      rcases z with z | ⟨j, z⟩
      · exact q4 z
      · unfold setW at z
        split at z
        · cases z
        · rename_i n
          exact n (a.re.inj j i p z q1)
    · rw [List.getElem?_set_ne hj] at h
      have q := a.re.slot j s h
      cases s with
      | no => exact True.intro
      | v d =>
        obtain ⟨v, h1, h2⟩ := q
        exact ⟨v, h1, Rep.step st _ _ h2⟩
      | o d =>
        obtain ⟨b, h1, h2, h3, h4⟩ := q
        exact ⟨b, by unfold setW; rw [if_neg (Ne.symm hj)]; exact h1, h2, h3.mono (Ext.refl _ _) (fun b z _ => sub b z), h4⟩
  · intro j b h
    unfold setW at h
    split at h
    · cases h
    · exact a.fresh j b h
theorem Rep.sub {A' : Addr → Prop} {d : D} {v : V} (h : Rep K β A H d v) (s : ∀ a, A' a → A a) : Rep K β A' H d v := Rep.mono (Ext.refl _ _) (fun a z _ => s a z) d v h
end
end CT

namespace CT
open PySem PySem.Spec PyProof.Rows L2

def notComp : Expr → Bool
  | .ListComp _ _ _ _ => false
  | .SetComp _ _ _ _ => false
  | .DictComp _ _ _ _ _ => false
  | _ => true
theorem swaps_no {value : Expr} {t : Option Expr} {l : Nat} {env : Env} (h : notComp value = true) : swapsWith value t l env = pure false := by
  cases value <;> first | rfl | (simp [notComp] at h)
theorem sole_no {t value : Expr} {l : Nat} {env : Env} (h : notComp value = true) : swapsWithSole [t] value l env = pure false := swaps_no h
def notPar (tg e : Expr) : Bool := match tg, e with
  | .Tuple _ _ _, .Tuple _ _ _ => false
  | .List _ _, .Tuple _ _ _ => false
  | _, _ => true
theorem stores_no {tg e : Expr} {env : Env} (h : notPar tg e = true) : swappedStores [tg] e env = pure none := by
  unfold swappedStores
  cases tg <;> cases e <;> first | rfl | (simp [notPar] at h)
theorem set_len {σ : L2.St} {i : Nat} {v : Option V} (h : σ[i]? = some v) : i < σ.length := (List.getElem?_eq_some_iff.mp h).1

section
variable {X : Cx} {T : Tb} {Γ : Fns} {k : Nat} {sc : Scope} {N : List Str} {W : WX} {fr : Bool}
structure CxS (X : Cx) (T : Tb) (Γ : Fns) (k : Nat) (sc : Scope) (N : List Str) (W : WX) : Prop where
  cx : CxOk X T Γ k true sc N
  tk : Takes X W
  fn : ∀ x, X.fn x = true
  kind : sc.kind = .function
  pass : PassesOwn (model X.prog X.w) X.A X.env X.xe
variable {pos : Pos}
theorem tE_imp {mg : Str → Option Value} {kk : Kd} {c : Sg → Mem → Res D} {σ : L2.St} {H : Hp} {Q Q' : VK} (i : ∀ v H1, Q v H1 → Q' v H1) (h : tE mg T X.K W kk c σ H Q) : tE mg T X.K W kk c σ H Q' := tE_mono h i
section
variable {mg : Str → Option Value} {K : PySem.W.Frag} {f : Sg → D → Mem → Out} {Z : Ends} {σ : L2.St} {v : V} {H1 : Hp} {kk : Kd}
theorem got_nx (h : Got mg T K W fr kk (fun σ _ M1 => .nx σ M1) Z σ v H1) : Z.nx σ H1 := by
  obtain ⟨β0, H0, A, βs, Hs, Ms, ow, σd, β, M, d, a, e, m, r, p⟩ := h
  exact p β H1 ow σ (a.mono e m) (Step.of e)
theorem got_set {t : Tgt} (hk : kk ≠ .br) (h : Got mg T K W fr kk (fun σ x M1 => match asgT t x σ with | some σ' => .nx σ' M1 | none => .stuck) Z σ v H1) : gOf K t v σ H1 Z.nx := by
  obtain ⟨β0, H0, A, βs, Hs, Ms, ow, σd, β, M, d, a, e, m, r, p⟩ := h
  dsimp only at p
  cases q : asgT t d σd with
  | none => rw [q] at p; exact p.elim
  | some σ' =>
    rw [q] at p
    have a1 := a.mono e m
    have r1 := RepF.plain hk (fun b z => a.re.avoLive z) r
    exact asg_ok t d v σd σ' σ Z.nx a1.re r1 q fun σ2 R2 _ => p β H1 ow σ2 ⟨R2, a1.ext, a1.fresh, a1.av0⟩ (Step.of e)
theorem got_setO {i : Nat} (hk : kk = .fr) (h : Got mg T K W fr kk (fun σ x M1 => .nx (σ.set i (.o x)) M1) Z σ v H1) : gName i v σ H1 Z.nx := by
  obtain ⟨β0, H0, A, βs, Hs, Ms, ow, σd, β, M, d, a, e, m, r, p⟩ := h
  subst hk
  obtain ⟨q, rfl, hq, o⟩ := r
  obtain ⟨a2, s2⟩ := a.own (i := i) e m o hq
  exact p β H1 _ _ a2 s2
theorem got_ret (hk : kk ≠ .br) (hf : fr = true → kk = .fr) (h : Got mg T K W fr kk (fun _ x M1 => .rt x M1) Z σ v H1) : Z.rt v H1 := by
  obtain ⟨β0, H0, A, βs, Hs, Ms, ow, σd, β, M, d, a, e, m, r, p⟩ := h
  refine p β H1 v (a.ext.trans e) m ?_
  cases fr with
  | true =>
    have := hf rfl
    subst this
    obtain ⟨q, rfl, hq, o⟩ := r
    exact ⟨q, rfl, a.ext.back hq, o.mono (Ext.refl _ _) fun b z _ => z.elim (fun z => .inl (.inl z)) .inr⟩
  | false => exact (RepF.plain hk (fun b z => a.re.avoLive z) r).sub fun b z => .inl z
end
theorem ss_expr {e : IE} {x : Expr} (C : CxS X T Γ k sc N W) (hc : notComp x = true) (h : mE T N true sc e x = true) : PS X (.Expr x pos) (tS X.mg T X.K W fr (semS Γ T.Cn (.expr e))) :=
  ps_imp (ps_expr ((sound e).e X sc W x C.cx C.tk h) (swaps_no hc)) fun Z σ H q => tE_mono (tS_out q) fun v H1 g => got_nx g
theorem ss_set {t : Tgt} {e : IE} {tg x : Expr} (C : CxS X T Γ k sc N W) (hc : notComp x = true) (hp : notPar tg x = true) (hn : nb e = true) (hs : notStar tg = true) (ht : mTg true sc N t tg = true) (h : mE T N true sc e x = true) :
    PS X (.Assign [tg] x pos) (tS X.mg T X.K W fr (semS Γ T.Cn (.set t e))) :=
  ps_imp (ps_asg ((sound e).e X sc W x C.cx C.tk h) (sndG t X true sc tg C.cx.n C.cx.nd C.cx.sc (fun _ x => C.fn x) (C.cx.calm rfl) ht) (sole_no hc) (stores_no hp) (assign_cons hs)) fun Z σ H q => tE_mono (tS_out q) fun v H1 g => got_set (nb_kd hn) g
theorem ss_setO {i : Nat} {e : IE} {y : Str} {py : Pos} {x : Expr} (C : CxS X T Γ k sc N W) (hc : notComp x = true) (hk : kd T e = .fr) (ht : mTg true sc N (.nm i) (.Name y py) = true) (h : mE T N true sc e x = true) :
    PS X (.Assign [.Name y py] x pos) (tS X.mg T X.K W fr (semS Γ T.Cn (.setO i e))) :=
  ps_imp (ps_asg ((sound e).e X sc W x C.cx C.tk h) (sndG (.nm i) X true sc _ C.cx.n C.cx.nd C.cx.sc (fun _ x => C.fn x) (C.cx.calm rfl) ht) (sole_no hc) (stores_no (by cases x <;> rfl)) (assign_cons rfl)) fun Z σ H q => tE_mono (tS_out q) fun v H1 g => got_setO hk g
theorem ss_ret {e : IE} {x : Expr} (C : CxS X T Γ k sc N W) (hn : nb e = true) (hf : fr = true → kd T e = .fr) (h : mE T N true sc e x = true) : PS X (.Return (some x) pos) (tS X.mg T X.K W fr (semS Γ T.Cn (.ret e))) :=
  ps_imp (ps_ret ((sound e).e X sc W x C.cx C.tk h)) fun Z σ H q => tE_mono (tS_out (f := fun _ x M1 => .rt x M1) q) fun v H1 g => got_ret (nb_kd hn) hf g
theorem ss_retN (hf : fr = false) : PS X (.Return none pos) (tS X.mg T X.K W fr (semS Γ T.Cn .retN)) :=
  ps_imp ps_retN fun Z σ H q => by
    obtain ⟨β0, H0, A, β, M, ow, σd, a, p⟩ := q
    subst hf
    simp only [semS] at p
    exact p β H .non a.ext a.re.mem (show Rep X.K β A H .non .non by simp only [Rep])
theorem pe_slot {i : Nat} {x : Str} {p : Pos} (C : CxS X T Γ k sc N W) (hi : N[i]? = some x) (hv : visB sc x = true) (hn : nmOk x = true) : PE X (.Name x p) (tVar i) := by
  obtain ⟨n1, n2⟩ := nm_of hn
  exact pe_var (i := i) (by rw [C.cx.n]; exact hi) (by rw [C.cx.sc]; exact vis_of hv) n1 n2
theorem ss_retO {i : Nat} {x : Str} {p : Pos} (C : CxS X T Γ k sc N W) (hi : N[i]? = some x) (hv : visB sc x = true) (hn : nmOk x = true) : PS X (.Return (some (.Name x p)) pos) (tS X.mg T X.K W fr (semS Γ T.Cn (.retO i))) :=
  ps_imp (ps_ret (pe_slot C hi hv hn)) fun Z σ H q => by
    obtain ⟨β0, H0, A, β, M, ow, σd, a, p⟩ := q
    simp only [semS] at p
    split at p
    · rename_i d hd
      obtain ⟨b, h1, h2, h3, h4⟩ := a.re.slot i _ hd
      refine ⟨_, h2, p β H _ a.ext a.re.mem ?_⟩
      cases fr with
      | true => exact ⟨b, rfl, a.fresh i b h1, h3.mono (Ext.refl _ _) fun c z _ => z.elim .inl fun z => .inr ⟨i, by rw [z]; exact h1⟩⟩
      | false => exact (h3.mono (Ext.refl _ _) fun c z _ => .inl z : Own X.K β A H d b).rep h4
    · exact p.elim
theorem ss_brk : PS X (.Break pos) (tS X.mg T X.K W fr (semS Γ T.Cn .brk)) := ps_imp ps_break fun Z σ H q => by
  obtain ⟨β0, H0, A, β, M, ow, σd, a, p⟩ := q
  simp only [semS] at p
  exact p β H ow σ a (Step.refl _ _ _)
theorem ss_cont : PS X (.Continue pos) (tS X.mg T X.K W fr (semS Γ T.Cn .cont)) := ps_imp ps_continue fun Z σ H q => by
  obtain ⟨β0, H0, A, β, M, ow, σd, a, p⟩ := q
  simp only [semS] at p
  exact p β H ow σ a (Step.refl _ _ _)
theorem ss_pass : PS X (.Pass pos) (tS X.mg T X.K W fr (semS Γ T.Cn .pass)) := ps_imp ps_pass fun Z σ H q => by
  obtain ⟨β0, H0, A, β, M, ow, σd, a, p⟩ := q
  simp only [semS] at p
  exact p β H ow σ a (Step.refl _ _ _)
theorem ss_ife {t : IE} {a b : List IS} {c : Expr} {sa sb : List Stmt} (C : CxS X T Γ k sc N W) (h : mE T N true sc t c = true) (ha : PSs X sa (tS X.mg T X.K W fr (semSs Γ T.Cn a))) (hb : PSs X sb (tS X.mg T X.K W fr (semSs Γ T.Cn b))) :
    PS X (.If c sa sb pos) (tS X.mg T X.K W fr (semS Γ T.Cn (.ife t a b))) :=
  ps_imp (ps_if ((sound t).t X sc W c C.cx C.tk h) ha hb) fun Z σ H q => by
    refine tT_mono (tS_test (fr := fr) (Z := Z) (f := fun σ b' M => match b' with | true => semSs Γ T.Cn a σ M | false => semSs Γ T.Cn b σ M) ?_) fun b' H1 g => ?_
    · obtain ⟨β0, H0, A, β, M, ow, σd, at', p⟩ := q
      refine ⟨β0, H0, A, β, M, ow, σd, at', ?_⟩
      simp only [semS] at p
      dsimp only
      cases q : semE Γ T.Cn t σd M with
      | ok x M1 =>
        rw [q] at p
        simp only [Res.out] at p ⊢
        cases q2 : truD x with
        | none => rw [q2] at p; exact p
        | some b' => rw [q2] at p; cases b' <;> exact p
      | exc c fs M1 => rw [q] at p; exact p
      | stuck => rw [q] at p; exact p
    · cases b' with
      | true => exact iteT g
      | false => exact iteF g
theorem ss_whl {t : IE} {b : List IS} {c : Expr} {sb : List Stmt} (C : CxS X T Γ k sc N W) (h : mE T N true sc t c = true) (hb : PSs X sb (tS X.mg T X.K W fr (semSs Γ T.Cn b))) :
    PS X (.While c sb [] pos) (tS X.mg T X.K W fr (semS Γ T.Cn (.whl t b))) :=
  ps_imp (ps_while C.pass ((sound t).t X sc W c C.cx C.tk h) hb) fun Z σ H q => by
    obtain ⟨β0, H0, A, β, M, ow, σd, a, p⟩ := q
    simp only [semS] at p
    have ns : whileL (semE Γ T.Cn t) (semSs Γ T.Cn b) σd M ≠ .stuck := fun z => by rw [z] at p; exact p
    obtain ⟨n, en, hn⟩ := whileL_ex ns
    rw [en] at p
    refine ⟨fun m σ H => ∃ β M ow σd, At X.K β0 H0 A β H M ow σd σ ∧ PostS X.mg T X.K W β0 H0 A fr β H ow Z (whileN (semE Γ T.Cn t) (semSs Γ T.Cn b) m σd M), ⟨n, β, M, ow, σd, a, p⟩, ?_⟩
    rintro m σ1 H1 ⟨β1, M1, ow1, σd1, a1, p1⟩
    cases m with
    | zero => exact p1.elim
    | succ m =>
      refine ⟨β1, A, M1, ow1, σd1, a1.re, ?_⟩
      unfold whileN at p1
      cases q1 : semE Γ T.Cn t σd1 M1 with
      | stuck => rw [q1] at p1; exact p1
      | exc c fs M' =>
        rw [q1] at p1
        exact fun β' cls dx H' e m x => p1 β' H' ow1 σ1 cls dx (a1.mono e m) (Step.of e) x
      | ok d M2 =>
        rw [q1] at p1
        simp only [Res.out] at p1
        cases q2 : truD d with
        | none => rw [q2] at p1; exact p1.elim
        | some b' =>
          rw [q2] at p1
          refine ⟨b', q2, fun β2 H2 e2 m2 => ?_⟩
          have a2 := a1.mono e2 m2
          have p2 := PostS.later (Step.of (A := avo A ow1) e2) p1
          cases b' with
          | false => exact iteF (p2 β2 H2 ow1 σ1 a2 (Step.refl _ _ _))
          | true =>
            refine iteT ⟨fun σ' H' => ∃ β M ow σd, At X.K β0 H0 A β H' M ow σd σ' ∧ PostS X.mg T X.K W β0 H0 A fr β H' ow Z (whileN (semE Γ T.Cn t) (semSs Γ T.Cn b) m σd M), fun σ' H' w => ⟨m, Nat.lt_succ_self m, w⟩, β0, H0, A, β2, M2, ow1, σd1, a2, ?_⟩
            dsimp only at p2
            cases q3 : semSs Γ T.Cn b σd1 M2 with
            | nx σ' M' =>
              rw [q3] at p2
              exact fun β' H' ow' σ3 a3 s3 => ⟨β', M', ow', σ', a3, PostS.later s3 p2⟩
            | ct σ' M' =>
              rw [q3] at p2
              exact fun β' H' ow' σ3 a3 s3 => ⟨β', M', ow', σ', a3, PostS.later s3 p2⟩
            | bk σ' M' =>
              rw [q3] at p2
              exact p2
            | rt d' M' =>
              rw [q3] at p2
              exact p2
            | ex c fs σ' M' =>
              rw [q3] at p2
              exact p2
            | stuck =>
              rw [q3] at p2
              exact p2.elim
theorem ss_for {tg : Tgt} {g : SK} {src : List IE} {b : List IS} {t i : Expr} {sb : List Stmt} (C : CxS X T Γ k sc N W) (hn : src.all nb = true) (hm : mSrc T N true sc g src t i = true) (ht : mTg true sc N tg t = true) (hb : PSs X sb (tS X.mg T X.K W fr (semSs Γ T.Cn b))) :
    PS X (.For t i sb [] pos) (tS X.mg T X.K W fr (semS Γ T.Cn (.for tg g src b))) := by
  have hset : notSet i = true := by
    cases i <;> first | rfl | (cases g <;> simp [mSrc, notSet] at hm)
  have pi := sndI (bw := false) (kk := .pl) C.cx rfl g t i hm (fun s hs hm' => CT.PE.plain (nb_kd (by subst hs; simpa using hn)) ((sound s).e X sc W i C.cx C.tk hm')) (fun es hm' => ((sounds src).Es X sc W es C.cx C.tk hm').2 hn)
  refine ps_imp (ps_for C.pass (C.cx.calm rfl) pi (sndG tg X true sc t C.cx.n C.cx.nd C.cx.sc (fun _ x => C.fn x) (C.cx.calm rfl) ht) hb (set_folded hset)) fun Z σ H q => ?_
  obtain ⟨β0, H0, A, β, M, ow, σd, a, p⟩ := q
  simp only [semS] at p
  refine ⟨β, A, M, ow, σd, a.re, ?_⟩
  cases q1 : semI Γ T.Cn g src σd M with
  | stuck => rw [q1] at p; exact p
  | exc c fs M' =>
    rw [q1] at p
    exact fun β' cls dx H' e m x => p β' H' ow σ cls dx (a.mono e m) (Step.of e) x
  | ok items M1 =>
    rw [q1] at p
    simp only [Res.out] at p
    intro β1 J H1 e1 m1 F
    have a1 := a.mono e1 m1
    have p1 := PostS.later (Step.of (A := avo A ow) e1) p
    refine ⟨fun i m σ' H' => m = items.length - i ∧ i ≤ items.length ∧ ∃ β' M' ow' σd', At X.K β0 H0 A β' H' M' ow' σd' σ' ∧ Step (avo A ow) β1 H1 (avo A ow') β' H' ∧
      PostS X.mg T X.K W β0 H0 A fr β' H' ow' Z (forL (asgT tg) (semSs Γ T.Cn b) (items.drop i) σd' M'), ⟨items.length, by simp, Nat.zero_le _, β1, M1, ow, σd, a1, Step.refl _ _ _, by simpa using p1⟩, ?_⟩
    rintro j m σ2 H2 ⟨rfl, hj, β2, M2, ow2, σd2, a2, s2, p2⟩
    by_cases hlt : j < items.length
    · refine .inr ⟨(F.go _ _ _ s2 j hlt).1, fun σ' H' => ∃ β' M' ow' σd', At X.K β0 H0 A β' H' M' ow' σd' σ' ∧ Step (avo A ow) β1 H1 (avo A ow') β' H' ∧
        PostS X.mg T X.K W β0 H0 A fr β' H' ow' Z (forL (asgT tg) (semSs Γ T.Cn b) (items.drop (j + 1)) σd' M'), fun σ' H' w => ⟨items.length - (j + 1), by omega, rfl, hlt, w⟩, fun x H3 y => ?_⟩
      obtain ⟨e3, m3, d, hd, rd⟩ := (F.go _ _ _ s2 j hlt).2 x H3 y
      have rd := rd fun c hc => a2.re.mem.live hc
      have a3 := a2.mono e3 (m3 _ a2.re.mem)
      have hdrop : items.drop j = d :: items.drop (j + 1) := by
        obtain ⟨h1, h2⟩ := List.getElem?_eq_some_iff.mp hd
        rw [List.drop_eq_getElem_cons h1, h2]
      rw [hdrop] at p2
      unfold forL at p2
      cases qa : asgT tg d σd2 with
      | none => rw [qa] at p2; exact p2.elim
      | some σd3 =>
        rw [qa] at p2
        dsimp only at p2
        have p3 := PostS.later (Step.of (A := avo A ow2) e3) p2
        have s3 : Step (avo A ow) β1 H1 (avo A ow2) β2 H3 := s2.trans (Step.of e3)
        refine asg_ok tg d x σd2 σd3 σ2 _ a3.re rd qa fun σ4 R4 _ => ⟨β0, H0, A, β2, M2, ow2, σd3, ⟨R4, a3.ext, a3.fresh, a3.av0⟩, ?_⟩
        cases q3 : semSs Γ T.Cn b σd3 M2 with
        | nx σ' M' =>
          rw [q3] at p3
          exact fun β' H' ow' σ5 a5 s5 => ⟨β', M', ow', σ', a5, s3.trans s5, PostS.later s5 p3⟩
        | ct σ' M' =>
          rw [q3] at p3
          exact fun β' H' ow' σ5 a5 s5 => ⟨β', M', ow', σ', a5, s3.trans s5, PostS.later s5 p3⟩
        | bk σ' M' =>
          rw [q3] at p3
          exact p3
        | rt d' M' =>
          rw [q3] at p3
          exact p3
        | ex c fs σ' M' =>
          rw [q3] at p3
          exact p3
        | stuck =>
          rw [q3] at p3
          exact p3.elim
    · have ej : j = items.length := by omega
      subst ej
      rw [List.drop_length] at p2
      exact .inl ⟨F.stop _ _ _ s2 _ (Nat.le_refl _), p2 β2 H2 ow2 σ2 a2 (Step.refl _ _ _)⟩
end
end CT

namespace CT
open PySem PySem.Spec PyProof.Rows L2
def isStar (a : Expr) : Bool := match a with
  | .Starred _ _ => true
  | _ => false
theorem star_abs {a : Expr} {P : Prop} (hs : notStar a = true) (h : isStar a = true) : P := by
  cases a <;> first | (cases h; done) | (simp [notStar] at hs)
theorem stores_two {env : Env} {x y : Str} {px py pt : Pos} {a b : Expr} {kt k2 pt2} (hx : env.kindOf x = some .local) (hy : env.kindOf y = some .local) (hl : (py.line == px.line) = true) (hxy : x ≠ y) (hb : env.blockKind = .function)
    (hs : notStar a = true) (hs2 : notStar b = true) (h1 : [a, b].all (foldedForSure 8) = false) (h2 : [a, b].all (constantsAlone 8) = false) :
    swappedStores [.Tuple [.Name x px, .Name y py] kt pt] (.Tuple [a, b] k2 pt2) env = pure (some [x, y]) := by
  unfold swappedStores
  simp only [List.length_cons, List.length_nil, hb, List.head?_cons, Option.map_some, Option.getD_some, Expr.pos, List.filterMap_cons, List.filterMap_nil, hx, hy, h1, h2, hl]
  have e : ([x, y].eraseDups).length = 2 := by
    have : (y == x) = false := by simpa using Ne.symm hxy
    simp [List.eraseDups_cons, this]
  simp [e]
  rintro (h | h)
  · exact star_abs hs h
  · exact star_abs hs2 h
theorem stores_three {env : Env} {x y z : Str} {px py pz pt : Pos} {a b c : Expr} {kt k2 pt2} (hx : env.kindOf x = some .local) (hy : env.kindOf y = some .local) (hz : env.kindOf z = some .local) (hl : (py.line == px.line) = true) (hl2 : (pz.line == px.line) = true) (hxy : x ≠ y) (hxz : x ≠ z) (hyz : y ≠ z) (hb : env.blockKind = .function)
    (hs : notStar a = true) (hs2 : notStar b = true) (hs3 : notStar c = true) (h1 : [a, b, c].all (foldedForSure 8) = false) (h2 : [a, b, c].all (constantsAlone 8) = false) :
    swappedStores [.Tuple [.Name x px, .Name y py, .Name z pz] kt pt] (.Tuple [a, b, c] k2 pt2) env = pure (some [x, y, z]) := by
  unfold swappedStores
  simp only [List.length_cons, List.length_nil, hb, List.head?_cons, Option.map_some, Option.getD_some, Expr.pos, List.filterMap_cons, List.filterMap_nil, hx, hy, hz, h1, h2, hl, hl2]
  have e : ([x, y, z].eraseDups).length = 3 := by
    have q1 : (y == x) = false := by simpa using Ne.symm hxy
    have q2 : (z == x) = false := by simpa using Ne.symm hxz
    have q3 : (z == y) = false := by simpa using Ne.symm hyz
    simp [List.eraseDups_cons, q1, q2, q3]
  simp [e]
  rintro (h | h | h)
  · exact star_abs hs h
  · exact star_abs hs2 h
  · exact star_abs hs3 h
section
variable {X : Cx} {T : Tb} {Γ : Fns} {k : Nat} {sc : Scope} {N : List Str} {W : WX} {fr : Bool} {pos : Pos}
theorem XRep.sub {mg : Str → Option Value} {K : PySem.W.Frag} {β : List Addr} {A A' : Addr → Prop} {H : Hp} {c : Str} {fs : List D} {cls : Value} {dx : Option Addr} (x : XRep mg T K β A H c fs cls dx) (s : ∀ a, A' a → A a) : XRep mg T K β A' H c fs cls dx := by
  obtain ⟨C, h1, h2, names, h3, h4, h5⟩ := x
  refine ⟨C, h1, h2, names, h3, h4, h5.imp id fun ⟨d, fv, e1, e2, e3, e4⟩ => ⟨d, fv, e1, e2, e3, fun i nm hn => ?_⟩⟩
  obtain ⟨v, x, f1, f2, f3⟩ := e4 i nm hn
  exact ⟨v, x, f1, f2, f3.sub s⟩
theorem CxS.bk (C : CxS X T Γ k sc N W) : X.env.blockKind = .function := by
  unfold Env.blockKind
  rw [C.cx.sc, C.kind]
  rfl
def locL (sc : Scope) (x : Str) : Bool := match sc.names.lookup x with
  | some .local => true
  | _ => false
theorem loc_of {x : Str} (C : CxS X T Γ k sc N W) (h : locL sc x = true) : X.env.scope.names.lookup x = some .local := by
  unfold locL at h
  rw [C.cx.sc]
  split at h
  · assumption
  · cases h
/-- two names at once -/
theorem ss_par2 {o : Bool} {i j : Nat} {a b : IE} {x y : Str} {px py pt : Pos} {u v : Expr} {kt k2 pt2} (C : CxS X T Γ k sc N W) (hi : N[i]? = some x) (hj : N[j]? = some y) (hx : locL sc x = true) (hy : locL sc y = true) (hl : (py.line == px.line) = true)
    (hij : i ≠ j) (h1 : [u, v].all (foldedForSure 8) = false) (h2 : [u, v].all (constantsAlone 8) = false) (hna : nb a = true) (hnb : nb b = true) (ho : o = true → kd T a = .fr) (ha : mE T N true sc a u = true) (hb : mE T N true sc b v = true) :
    PS X (.Assign [.Tuple [.Name x px, .Name y py] kt pt] (.Tuple [u, v] k2 pt2) pos) (tS X.mg T X.K W fr (semS Γ T.Cn (.par2 o i j a b))) := by
  have hxy : x ≠ y := fun z => by
    subst z
    exact hij ((List.getElem?_inj (List.getElem?_eq_some_iff.mp hi).1 C.cx.nd).mp (hi.trans hj.symm))
  refine ps_imp (ps_par (C.cx.calm rfl) (by rw [C.cx.n]; exact C.cx.nd) (by rw [C.cx.n]; exact hi) (by rw [C.cx.n]; exact hj) hij (loc_of C hx) (loc_of C hy)
    (pa_cons ((sound a).e X sc W u C.cx C.tk ha) (pa_cons ((sound b).e X sc W v C.cx C.tk hb) pa_nil (star_cons (mE_star hb))) (star_cons (mE_star ha)))
    (stores_two (loc_of C hx) (loc_of C hy) hl hxy C.bk (mE_star ha) (mE_star hb) h1 h2) rfl) fun Z σ H q => ?_
  obtain ⟨β0, H0, A, β, M, ow, σd, at0, p⟩ := q
  simp only [semS] at p
  refine ⟨β, A, M, ow, σd, at0.re, ?_⟩
  cases q1 : semE Γ T.Cn a σd M with
  | stuck => rw [q1] at p; exact p
  | exc c fs M' =>
    rw [q1] at p
    exact fun β' cls dx H' e m x => p β' H' ow σ cls dx (at0.mono e m) (Step.of e) x
  | ok d M1 =>
    rw [q1] at p
    simp only [Res.out] at p
    intro β1 w1 H1 e1 m1 r1
    have at1 := at0.mono e1 m1
    cases o with
    | true =>
      rw [ho rfl] at r1
      obtain ⟨pa, rfl, hpa, ow1⟩ := r1
      have RD : RE X.K β1 (fun z => A z ∨ z = pa) H1 M1 ow σd σ := at0.re.monoO (O := Nil) e1 (fun _ z => z.elim) m1 (fun b z => z.elim (fun z => e1.dom b (at0.re.av b z)) fun z => z ▸ ow1.live) (fun b z n => z.elim id fun z => absurd hpa (z ▸ n))
      refine ⟨β1, _, M1, ow, σd, RD, ?_⟩
      cases q2 : semE Γ T.Cn b σd M1 with
      | stuck => rw [q2] at p; exact p
      | exc c fs M' =>
        rw [q2] at p
        exact fun β' cls dx H' e m x => p β' H' ow σ cls dx (at1.mono e m) (Step.of (e1.trans e)) (x.sub fun b z => z.elim (fun z => .inl (.inl z)) .inr)
      | ok d2 M2 =>
        rw [q2] at p
        simp only [Res.out] at p
        intro β2 w2 H2 e2 m2 r2
        refine ⟨_, w2, rfl, ?_⟩
        obtain ⟨a2, s2⟩ := at0.own (i := i) (e1.trans e2) m2 (ow1.mono e2 fun b z _ => z) hpa
        have rr : Rep X.K β2 (avo A (setW ow i (some pa))) H2 d2 w2 := (RepF.plain (nb_kd hnb) (fun z hz => RD.avoLive hz) r2).sub fun b z => (setW_avo z).elim (fun z => z.elim (fun z => .inl (.inl z)) .inr) fun z => .inl (.inr z)
        exact p β2 H2 _ _ ⟨a2.re.set j rr, a2.ext, a2.fresh, a2.av0⟩ s2
    | false =>
      refine ⟨β1, A, M1, ow, σd, at1.re, ?_⟩
      cases q2 : semE Γ T.Cn b σd M1 with
      | stuck => rw [q2] at p; exact p
      | exc c fs M' =>
        rw [q2] at p
        exact fun β' cls dx H' e m x => p β' H' ow σ cls dx (at1.mono e m) (Step.of (e1.trans e)) x
      | ok d2 M2 =>
        rw [q2] at p
        simp only [Res.out] at p
        intro β2 w2 H2 e2 m2 r2
        refine ⟨w1, w2, rfl, ?_⟩
        have at2 := at1.mono e2 m2
        have v1 := RepF.plain (nb_kd hna) (fun z hz => at0.re.avoLive hz) (r1.mono e2)
        have v2 := RepF.plain (nb_kd hnb) (fun z hz => at1.re.avoLive hz) r2
        exact p β2 H2 ow _ ⟨(at2.re.set i v1).set j v2, at2.ext, at2.fresh, at2.av0⟩ (Step.of (e1.trans e2))
/-- three names at once -/
theorem ss_par3 {i j l : Nat} {a b c : IE} {x y z : Str} {px py pz pt : Pos} {u v w : Expr} {kt k2 pt2} (C : CxS X T Γ k sc N W) (hi : N[i]? = some x) (hj : N[j]? = some y) (hl' : N[l]? = some z) (hx : locL sc x = true) (hy : locL sc y = true) (hz : locL sc z = true) (hl : (py.line == px.line) = true) (hl2 : (pz.line == px.line) = true)
    (hij : i ≠ j) (hil : i ≠ l) (hjl : j ≠ l) (h1 : [u, v, w].all (foldedForSure 8) = false) (h2 : [u, v, w].all (constantsAlone 8) = false) (hna : nb a = true) (hnb : nb b = true) (hnc : nb c = true) (ha : mE T N true sc a u = true) (hb : mE T N true sc b v = true) (hc : mE T N true sc c w = true) :
    PS X (.Assign [.Tuple [.Name x px, .Name y py, .Name z pz] kt pt] (.Tuple [u, v, w] k2 pt2) pos) (tS X.mg T X.K W fr (semS Γ T.Cn (.par3 i j l a b c))) := by
  have ne : ∀ {i j : Nat} {x y : Str}, N[i]? = some x → N[j]? = some y → i ≠ j → x ≠ y := fun {i j x y} hi hj hij z => by
    subst z
    exact hij ((List.getElem?_inj (List.getElem?_eq_some_iff.mp hi).1 C.cx.nd).mp (hi.trans hj.symm))
  refine ps_imp (ps_par3 (C.cx.calm rfl) (by rw [C.cx.n]; exact C.cx.nd) (by rw [C.cx.n]; exact hi) (by rw [C.cx.n]; exact hj) (by rw [C.cx.n]; exact hl') hij hil hjl (loc_of C hx) (loc_of C hy) (loc_of C hz)
    (pa_cons ((sound a).e X sc W u C.cx C.tk ha) (pa_cons ((sound b).e X sc W v C.cx C.tk hb) (pa_cons ((sound c).e X sc W w C.cx C.tk hc) pa_nil (star_cons (mE_star hc))) (star_cons (mE_star hb))) (star_cons (mE_star ha)))
    (stores_three (loc_of C hx) (loc_of C hy) (loc_of C hz) hl hl2 (ne hi hj hij) (ne hi hl' hil) (ne hj hl' hjl) C.bk (mE_star ha) (mE_star hb) (mE_star hc) h1 h2) rfl) fun Z σ H q => ?_
  obtain ⟨β0, H0, A, β, M, ow, σd, at0, p⟩ := q
  simp only [semS] at p
  refine ⟨β, A, M, ow, σd, at0.re, ?_⟩
  cases q1 : semE Γ T.Cn a σd M with
  | stuck => rw [q1] at p; exact p
  | exc c fs M' =>
    rw [q1] at p
    exact fun β' cls dx H' e m x => p β' H' ow σ cls dx (at0.mono e m) (Step.of e) x
  | ok d M1 =>
    rw [q1] at p
    simp only [Res.out] at p
    intro β1 w1 H1 e1 m1 r1
    have at1 := at0.mono e1 m1
    refine ⟨β1, A, M1, ow, σd, at1.re, ?_⟩
    cases q2 : semE Γ T.Cn b σd M1 with
    | stuck => rw [q2] at p; exact p
    | exc c fs M' =>
      rw [q2] at p
      exact fun β' cls dx H' e m x => p β' H' ow σ cls dx (at1.mono e m) (Step.of (e1.trans e)) x
    | ok d2 M2 =>
      rw [q2] at p
      simp only [Res.out] at p
      intro β2 w2 H2 e2 m2 r2
      have at2 := at1.mono e2 m2
      refine ⟨β2, A, M2, ow, σd, at2.re, ?_⟩
      cases q3 : semE Γ T.Cn c σd M2 with
      | stuck => rw [q3] at p; exact p
      | exc c fs M' =>
        rw [q3] at p
        exact fun β' cls dx H' e m x => p β' H' ow σ cls dx (at2.mono e m) (Step.of ((e1.trans e2).trans e)) x
      | ok d3 M3 =>
        rw [q3] at p
        simp only [Res.out] at p
        intro β3 w3 H3 e3 m3 r3
        refine ⟨w1, w2, w3, rfl, ?_⟩
        have at3 := at2.mono e3 m3
        have v1 := RepF.plain (nb_kd hna) (fun z hz => at0.re.avoLive hz) ((r1.mono e2).mono e3)
        have v2 := RepF.plain (nb_kd hnb) (fun z hz => at1.re.avoLive hz) (r2.mono e3)
        have v3 := RepF.plain (nb_kd hnc) (fun z hz => at2.re.avoLive hz) r3
        exact p β3 H3 ow _ ⟨((at3.re.set i v1).set j v2).set l v3, at3.ext, at3.fresh, at3.av0⟩ (Step.of ((e1.trans e2).trans e3))
/-- name op= e -/
theorem ss_aug {i : Nat} {op : Op} {o : Operator} {e : IE} {x : Str} {p : Pos} {u : Expr} (C : CxS X T Γ k sc N W) (hi : N[i]? = some x) (hx : locL sc x = true) (ho : opOf op = o) (hop : op = .add ∨ op = .sub) (h : mE T N true sc e u = true) :
    PS X (.AugAssign (.Name x p) o u pos) (tS X.mg T X.K W fr (semS Γ T.Cn (.aug i op e))) := by
  have key : ∀ {ti : TIp} {f : Int → Int → Int} (hti : ti = ipI f) (hf : ∀ a b d, augD op a b = some d → ∃ m n, a = .int m ∧ b = .int n ∧ d = .int (f m n)) Z σ H, tS X.mg T X.K W fr (semS Γ T.Cn (.aug i op e)) Z σ H → tAug i (tE X.mg T X.K W (kd T e) (semE Γ T.Cn e)) ti Z σ H := by
    intro ti f hti hf Z σ H q
    subst hti
    obtain ⟨β0, H0, A, β, M, ow, σd, a, p⟩ := q
    simp only [semS] at p
    split at p
    · rename_i d hd
      obtain ⟨v, h1, h2⟩ := a.re.slot i _ hd
      refine ⟨v, h1, β, A, M, ow, σd, a.re, ?_⟩
      cases q1 : semE Γ T.Cn e σd M with
      | stuck => rw [q1] at p; exact p
      | exc c fs M' =>
        rw [q1] at p
        exact fun β' cls dx H' e m x => p β' H' ow σ cls dx (a.mono e m) (Step.of e) x
      | ok y M1 =>
        rw [q1] at p
        simp only [Res.out] at p
        intro β1 w H1 e1 m1 r1
        split at p
        · rename_i z hz
          obtain ⟨m, n, rfl, rfl, rfl⟩ := hf _ _ _ hz
          have ev : v = .int m := by simpa only [Rep] using h2
          have ew := repW_int r1.weak
          subst ev; subst ew
          refine ⟨m, n, rfl, rfl, ?_⟩
          have a1 := a.mono e1 m1
          exact p β1 H1 ow _ ⟨a1.re.set i rep_int, a1.ext, a1.fresh, a1.av0⟩ (Step.of e1)
        · exact p.elim
    · exact p.elim
  have hn : X.N[i]? = some x := by rw [C.cx.n]; exact hi
  have hnd : X.N.Nodup := by rw [C.cx.n]; exact C.cx.nd
  rcases hop with rfl | rfl
  · subst ho
    refine ps_imp (ps_aug hnd hn (.inl (loc_of C hx)) ((sound e).e X sc W u C.cx C.tk h) ip_add (.inl (C.fn x))) (key rfl fun a b d hd => ?_)
    cases a <;> cases b <;> simp [augD] at hd
    exact ⟨_, _, rfl, rfl, hd.symm⟩
  · subst ho
    refine ps_imp (ps_aug hnd hn (.inl (loc_of C hx)) ((sound e).e X sc W u C.cx C.tk h) ip_sub (.inl (C.fn x))) (key rfl fun a b d hd => ?_)
    cases a <;> cases b <;> simp [augD] at hd
    exact ⟨_, _, rfl, rfl, hd.symm⟩
end
end CT

namespace CT
open PySem PySem.Spec PyProof.Rows L2
section
variable {X : Cx} {T : Tb} {Γ : Fns} {k : Nat} {sc : Scope} {N : List Str} {W : WX} {fr : Bool} {pos : Pos}
def tiB (op : Op) : TIp := fun x y H Q => ∃ i j z, x = .int i ∧ y = .int j ∧ binD op (.int i) (.int j) = some (.int z) ∧ Q (.int z) H
theorem ip_any (op : Op) (h : op ≠ .pow) : PIp X (opOf op) (tiB op) := by
  intro pins s σ H x y v u Q I r1 r2 g
  obtain ⟨i, j, z, rfl, rfl, e, q⟩ := g
  cases op <;> simp only [binD] at e
  · cases Option.some.inj e; exact iop_add pins s σ H _ _ v u Q I r1 r2 ⟨i, j, rfl, rfl, q⟩
  · cases Option.some.inj e; exact iop_sub pins s σ H _ _ v u Q I r1 r2 ⟨i, j, rfl, rfl, q⟩
  · split at e
    · rename_i hc
      cases Option.some.inj e; exact iop_mul pins s σ H _ _ v u Q I r1 r2 ⟨i, j, rfl, rfl, hc, q⟩
    · cases e
  · split at e
    · rename_i hc
      cases Option.some.inj e; exact iop_mod pins s σ H _ _ v u Q I r1 r2 ⟨i, j, rfl, rfl, hc, q⟩
    · cases e
  · split at e
    · rename_i hc
      cases Option.some.inj e; exact iop_fdiv pins s σ H _ _ v u Q I r1 r2 ⟨i, j, rfl, rfl, hc, q⟩
    · cases e
  · exact absurd rfl h
  · split at e
    · rename_i hc
      cases Option.some.inj e; exact iop_shl pins s σ H _ _ v u Q I r1 r2 ⟨i, j, rfl, rfl, hc, q⟩
    · cases e
  · split at e
    · rename_i hc
      cases Option.some.inj e; exact iop_shr pins s σ H _ _ v u Q I r1 r2 ⟨i, j, rfl, rfl, hc, q⟩
    · cases e
  · cases Option.some.inj e; exact iop_and pins s σ H _ _ v u Q I r1 r2 ⟨i, j, rfl, rfl, q⟩
theorem bin_int {op : Op} {i j : Int} {d : D} (e : binD op (.int i) (.int j) = some d) : ∃ z, d = .int z := by
  cases op <;> simp only [binD] at e <;> first | (cases Option.some.inj e; exact ⟨_, rfl⟩) | (split at e <;> first | (cases Option.some.inj e; exact ⟨_, rfl⟩) | (cases e))
theorem aug_int {op : Op} {a b d : D} (ho : op ≠ .pow) (e : augD op a b = some d) : ∃ i j z, a = .int i ∧ b = .int j ∧ d = .int z ∧ binD op (.int i) (.int j) = some (.int z) := by
  cases a <;> cases b <;> cases op <;> simp only [augD] at e <;> first | (cases e; done) | (exact absurd rfl ho) | skip
  all_goals first
    | (obtain ⟨z, hz⟩ := bin_int e; subst hz; exact ⟨_, _, z, rfl, rfl, rfl, e⟩)
    | (cases Option.some.inj e; exact ⟨_, _, _, rfl, rfl, rfl, rfl⟩)
theorem ss_aug' {i : Nat} {op : Op} {o : Operator} {e : IE} {x : Str} {p : Pos} {u : Expr} (C : CxS X T Γ k sc N W) (hi : N[i]? = some x) (hx : locL sc x = true) (ho : opOf op = o) (hop : op ≠ .pow) (h : mE T N true sc e u = true) :
    PS X (.AugAssign (.Name x p) o u pos) (tS X.mg T X.K W fr (semS Γ T.Cn (.aug i op e))) := by
  have hn : X.N[i]? = some x := by rw [C.cx.n]; exact hi
  have hnd : X.N.Nodup := by rw [C.cx.n]; exact C.cx.nd
  subst ho
  refine ps_imp (ps_aug hnd hn (.inl (loc_of C hx)) ((sound e).e X sc W u C.cx C.tk h) (ip_any op hop) (.inl (C.fn x))) fun Z σ H q => ?_
  obtain ⟨β0, H0, A, β, M, ow, σd, a, p⟩ := q
  simp only [semS] at p
  split at p
  · rename_i d hd
    obtain ⟨v, h1, h2⟩ := a.re.slot i _ hd
    refine ⟨v, h1, β, A, M, ow, σd, a.re, ?_⟩
    cases q1 : semE Γ T.Cn e σd M with
    | stuck => rw [q1] at p; exact p
    | exc c fs M' =>
      rw [q1] at p
      exact fun β' cls dx H' e m x => p β' H' ow σ cls dx (a.mono e m) (Step.of e) x
    | ok y M1 =>
      rw [q1] at p
      simp only [Res.out] at p
      intro β1 w H1 e1 m1 r1
      split at p
      · rename_i z hz
        obtain ⟨m, n, z', rfl, rfl, rfl, hb⟩ := aug_int hop hz
        have ev : v = .int m := by simpa only [Rep] using h2
        have ew := repW_int r1.weak
        subst ev; subst ew
        refine ⟨m, n, z', rfl, rfl, hb, ?_⟩
        have a1 := a.mono e1 m1
        exact p β1 H1 ow _ ⟨a1.re.set i rep_int, a1.ext, a1.fresh, a1.av0⟩ (Step.of e1)
      · exact p.elim
  · exact p.elim
/-- raise C(e, ..) -/
theorem lookup_zip {α : Type} : ∀ {names : List Str} {vs : List α} {i : Nat} {nm : Str} {v : α}, names.Nodup → names[i]? = some nm → vs[i]? = some v → (names.zip vs).reverse.lookup nm = some v := fun {names vs i nm v} nd h1 h2 => by
  refine CTX.lookup_mem ?_ (List.mem_reverse.mpr ?_)
  · rw [List.map_reverse]
    refine CTX.nodup_rev ?_
    have hs : ((names.zip vs).map (·.1)).Sublist names := by
      have : ∀ (a : List Str) (b : List α), ((a.zip b).map (·.1)).Sublist a := fun a => by
        induction a with
        | nil => intro b; simp
        | cons x a ih =>
          intro b
          cases b with
          | nil => simp
          | cons y b => simp only [List.zip_cons_cons, List.map_cons]; exact (ih b).cons₂ x
      exact this names vs
    exact hs.nodup nd
  · rw [List.mem_iff_getElem?]
    exact ⟨i, by rw [List.getElem?_zip_eq_some]; exact ⟨h1, h2⟩⟩
theorem ss_rai {c : Str} {es : List IE} {names : List Str} {p cp : Pos} {y : Expr} {ys : List Expr} (C : CxS X T Γ k sc N W) (hx : T.XN c = some names) (hl : names.length = es.length) (hg : glbB sc c = true) (hn : es.all nb = true) (h : mEs T N true sc es (y :: ys) = true) :
    PS X (.Raise (some (.Call (.Name c p) (y :: ys) [] cp)) none pos) (tS X.mg T X.K W fr (semS Γ T.Cn (.rai c es))) := by
  obtain ⟨hk, hdb, Ca, fI, TX⟩ := C.cx.fx.xc c names hx
  obtain ⟨k', rfl⟩ := Nat.exists_eq_add_of_le hk
  have hst := mEs_star h
  simp only [List.all_cons, Bool.and_eq_true] at hst
  have hr : Room (k' + 2) X.A := (C.cx.room rfl).mono (by omega)
  refine ps_imp (ps_raise (C.cx.calm rfl) C.tk (pmk_xc TX hr (((sounds es).Es X sc W _ C.cx C.tk h).2 hn) (glb_of C.cx.sc hg) hdb (star_cons hst.1) (star_none hst.2))) fun Z σ H q => ?_
  obtain ⟨β0, H0, A, β, M, ow, σd, a, p⟩ := q
  simp only [semS] at p
  refine ⟨β, A, M, ow, σd, a.re, ?_⟩
  cases q1 : semEs Γ T.Cn es σd M with
  | stuck => rw [q1] at p; exact p
  | exc c fs M' =>
    rw [q1] at p
    exact fun β' cls dx H' e m x => p β' H' ow σ cls dx (a.mono e m) (Step.of e) x
  | ok xs M1 =>
    rw [q1] at p
    intro β1 vs H1 e1 m1 r1
    have r1 : Reps X.K β1 (avo A ow) H1 xs vs := r1
    have lx := semEs_len q1
    have lv : vs.length = names.length := by rw [← r1.length, lx, hl]
    refine ⟨lv, fun d hd => ?_⟩
    have a1 := a.mono e1 m1
    have en : Ext β1 H1 β1 (upd H1 d (.xd (names.zip vs).reverse)) := Ext.new hd
    refine p β1 (upd H1 d (.xd (names.zip vs).reverse)) ow σ (.ref Ca) (some d) (a1.mono en (m1.new hd)) ((Step.of e1).trans (Step.of en)) ⟨Ca, rfl, TX.gC, names, hx, by rw [lx, hl], .inr ⟨d, _, rfl, upd_same, (a1.re.fresh hd).1, fun i nm hi => ?_⟩⟩
    have hil : i < names.length := (List.getElem?_eq_some_iff.mp hi).1
    obtain ⟨v, hv, rv⟩ := r1.get (List.getElem?_eq_getElem (by rw [lx, ← hl]; exact hil : i < xs.length))
    have nd := TX.nd
    exact ⟨v, _, List.getElem?_eq_getElem _, lookup_zip (List.nodup_cons.mp nd).2 hi hv, Rep.mono en (fun a z _ => z) _ _ rv⟩
/-- xs[k] = v on a list of one's own -/
theorem ss_put {i : Nat} {ke ve : IE} {x : Str} {p tp : Pos} {kx vx : Expr} (C : CxS X T Γ k sc N W) (hi : N[i]? = some x) (hv : visB sc x = true) (hn : nmOk x = true) (hc : notComp vx = true) (hb : nb ve = true) (hs : notSlice kx = true) (hk : mE T N true sc ke kx = true) (h : mE T N true sc ve vx = true) :
    PS X (.Assign [.Subscript (.Name x p) kx tp] vx pos) (tS X.mg T X.K W fr (semS Γ T.Cn (.put i ke ve))) := by
  have ha : ∀ v, assign (.Subscript (.Name x p) kx tp) X.env v = (do
      let ov ← holding [v] (eval (.Name x p) X.env)
      let iv ← holding [v, ov] (eval kx X.env)
      standAt tp
      holding [v, ov, iv] (setItem ov iv v)
      release [v, ov, iv] []) := fun v => by
    cases kx <;> first | rfl | (simp [notSlice] at hs)
  refine ps_imp (ps_asg ((sound ve).e X sc W vx C.cx C.tk h) (pg_sub (pe_slot C hi hv hn) ((sound ke).e X sc W kx C.cx C.tk hk) set_list ha) (sole_no hc) (stores_no (by cases vx <;> rfl)) (assign_cons rfl)) fun Z σ H q => ?_
  obtain ⟨β0, H0, A, β, M, ow, σd, a, p⟩ := q
  simp only [semS] at p
  split at p
  · rename_i xs hs'
    refine ⟨β, A, M, ow, σd, a.re, ?_⟩
    cases q1 : semE Γ T.Cn ve σd M with
    | stuck => rw [q1] at p; exact p
    | exc c fs M' =>
      rw [q1] at p
      exact fun β' cls dx H' e m x => p β' H' ow σ cls dx (a.mono e m) (Step.of e) x
    | ok y M1 =>
      rw [q1] at p
      simp only [Res.out] at p
      intro β1 w H1 e1 m1 r1
      have a1 := a.mono e1 m1
      have rw1 := RepF.plain (nb_kd hb) (fun z hz => a.re.avoLive hz) r1
      obtain ⟨b, g1, g2, ⟨g3, ws, g4, g5⟩, g6⟩ := a1.re.slot i _ hs'
      refine ⟨.ref b, g2, β1, A, M1, ow, σd, a1.re, ?_⟩
      cases q2 : semE Γ T.Cn ke σd M1 with
      | stuck => rw [q2] at p; exact p
      | exc c fs M' =>
        rw [q2] at p
        exact fun β' cls dx H' e m x => p β' H' ow σ cls dx (a1.mono e m) ((Step.of e1).trans (Step.of e)) x
      | ok j M2 =>
        rw [q2] at p
        simp only [Res.out] at p
        intro β2 u H2 e2 m2 r2
        have a2 := a1.mono e2 m2
        obtain ⟨b', f1, f2, ⟨f3, ws', f4, f5⟩, f6⟩ := a2.re.slot i _ hs'
        rw [g1] at f1; cases f1
        cases j <;> try exact p.elim
        rename_i jj
        have hu := repW_int r2.weak
        subst hu
        dsimp only at p
        split at p
        · rename_i hz
          have rw2 := Rep.mono e2 (fun a z _ => z) _ _ rw1
          obtain ⟨a3, s3⟩ := a2.write hs' g1 f4 (Reps.set rw2 jj.toNat f5)
          refine ⟨b, ws', jj, jj.toNat, rfl, rfl, f4, ?_, p β2 _ ow σ a3 (((Step.of e1).trans (Step.of e2)).trans s3)⟩
          have hlen := f5.length
          unfold ixN
          rw [if_pos hz.1, if_pos (by omega)]
        · exact p.elim
  · exact p.elim
/-- two names at once, the second one a value of one's own -/
theorem ss_par2b {i j : Nat} {a b : IE} {x y : Str} {px py pt : Pos} {u v : Expr} {kt k2 pt2} (C : CxS X T Γ k sc N W) (hi : N[i]? = some x) (hj : N[j]? = some y) (hx : locL sc x = true) (hy : locL sc y = true) (hl : (py.line == px.line) = true)
    (hij : i ≠ j) (h1 : [u, v].all (foldedForSure 8) = false) (h2 : [u, v].all (constantsAlone 8) = false) (hna : nb a = true) (hnb : kd T b = .fr) (ha : mE T N true sc a u = true) (hb : mE T N true sc b v = true) :
    PS X (.Assign [.Tuple [.Name x px, .Name y py] kt pt] (.Tuple [u, v] k2 pt2) pos) (tS X.mg T X.K W fr (semS Γ T.Cn (.par2b i j a b))) := by
  have hxy : x ≠ y := fun z => by
    subst z
    exact hij ((List.getElem?_inj (List.getElem?_eq_some_iff.mp hi).1 C.cx.nd).mp (hi.trans hj.symm))
  refine ps_imp (ps_par (C.cx.calm rfl) (by rw [C.cx.n]; exact C.cx.nd) (by rw [C.cx.n]; exact hi) (by rw [C.cx.n]; exact hj) hij (loc_of C hx) (loc_of C hy)
    (pa_cons ((sound a).e X sc W u C.cx C.tk ha) (pa_cons ((sound b).e X sc W v C.cx C.tk hb) pa_nil (star_cons (mE_star hb))) (star_cons (mE_star ha)))
    (stores_two (loc_of C hx) (loc_of C hy) hl hxy C.bk (mE_star ha) (mE_star hb) h1 h2) rfl) fun Z σ H q => ?_
  obtain ⟨β0, H0, A, β, M, ow, σd, at0, p⟩ := q
  simp only [semS] at p
  refine ⟨β, A, M, ow, σd, at0.re, ?_⟩
  cases q1 : semE Γ T.Cn a σd M with
  | stuck => rw [q1] at p; exact p
  | exc c fs M' =>
    rw [q1] at p
    exact fun β' cls dx H' e m x => p β' H' ow σ cls dx (at0.mono e m) (Step.of e) x
  | ok d M1 =>
    rw [q1] at p
    simp only [Res.out] at p
    intro β1 w1 H1 e1 m1 r1
    have at1 := at0.mono e1 m1
    refine ⟨β1, A, M1, ow, σd, at1.re, ?_⟩
    cases q2 : semE Γ T.Cn b σd M1 with
    | stuck => rw [q2] at p; exact p
    | exc c fs M' =>
      rw [q2] at p
      exact fun β' cls dx H' e m x => p β' H' ow σ cls dx (at1.mono e m) (Step.of (e1.trans e)) x
    | ok d2 M2 =>
      rw [q2] at p
      simp only [Res.out] at p
      intro β2 w2 H2 e2 m2 r2
      have r2 : RepF .fr X.K β2 (avo A ow) H1 H2 d2 w2 := by rw [← hnb]; exact r2
      obtain ⟨pb, rfl, hpb, ow2⟩ := r2
      refine ⟨w1, .ref pb, rfl, ?_⟩
      obtain ⟨a2, s2⟩ := at0.own (i := j) (e1.trans e2) m2 ow2 (e1.back hpb)
      have v1 := RepF.plain (nb_kd hna) (fun z hz => at0.re.avoLive hz) r1
      have rr : Rep X.K β2 (avo A (setW ow j (some pb))) H2 d w1 := Rep.mono e2 (fun z hz hn => (setW_avo hz).elim id fun e => absurd (by rw [e]; exact hpb) hn) _ _ v1
      have a3 := a2.re.set i rr
      rw [List.set_comm _ _ (Ne.symm hij), List.set_comm _ _ (Ne.symm hij)] at a3
      exact p β2 H2 _ _ ⟨a3, a2.ext, a2.fresh, a2.av0⟩ s2
/-- a target among whose names is no plain local -/
def tsCell (sc : Scope) (ts : List Expr) : Bool := ts.any fun t => match t with | .Name x _ => !decide (sc.names.lookup x = some .local) | _ => false
def parOk (sc : Scope) (tg e : Expr) : Bool := notPar tg e || (match tg with | .Tuple ts _ _ => tsCell sc ts || decide (4 ≤ ts.length) | _ => false)
theorem filterMap_lt {α β : Type} {f : α → Option β} : ∀ {l : List α}, (∃ x ∈ l, f x = none) → (l.filterMap f).length < l.length
  | [], h => by obtain ⟨x, hx, _⟩ := h; cases hx
  | y :: l, h => by
    have hle := List.length_filterMap_le f l
    cases hy : f y with
    | none => rw [List.filterMap_cons_none hy]; simp only [List.length_cons]; omega
    | some z =>
      rw [List.filterMap_cons_some hy]
      have : ∃ x ∈ l, f x = none := by
        obtain ⟨x, hx, hf⟩ := h
        rcases List.mem_cons.mp hx with e | e
        · rw [e, hy] at hf; cases hf
        · exact ⟨x, e, hf⟩
      have := filterMap_lt this
      simp only [List.length_cons]; omega
theorem stores_cell {env : Env} {sc : Scope} {ts : List Expr} {kt pt} {e : Expr} (hs : env.scope = sc) (h : tsCell sc ts = true) : swappedStores [.Tuple ts kt pt] e env = pure none := by
  have hlt : ∀ line : Nat, (ts.filterMap fun t => match t with | .Name id pos => if (env.kindOf id == some .local && pos.line == line) = true then some id else none | _ => none).length < ts.length := fun line => by
    refine filterMap_lt ?_
    unfold tsCell at h
    obtain ⟨t, ht, hx⟩ := List.any_eq_true.mp h
    refine ⟨t, ht, ?_⟩
    split at hx
    · rename_i x p
      have hk : ¬ env.kindOf x = some .local := by
        show ¬ env.scope.names.lookup x = some .local
        rw [hs]
        simpa using hx
      have : (env.kindOf x == some .local) = false := by simpa using hk
      simp [this]
    · cases hx
  unfold swappedStores
  cases e <;> try rfl
  rename_i vs _ _
  dsimp only
  split
  · rfl
  · split
    · rfl
    · have hne := Nat.ne_of_lt (hlt ((ts.head?.map (·.pos.line)).getD 0))
      split
      · rfl
      · rename_i h3
        exfalso
        simp only [Bool.or_eq_true, not_or, bne_iff_ne, ne_eq, Decidable.not_not] at h3
        exact hne h3.1
theorem stores_four {env : Env} {ts : List Expr} {kt pt} {e : Expr} (h : 4 ≤ ts.length) : swappedStores [.Tuple ts kt pt] e env = pure none := by
  have h2 : (ts.length == 2) = false := by rw [beq_eq_false_iff_ne]; omega
  have h3 : (ts.length == 3) = false := by rw [beq_eq_false_iff_ne]; omega
  unfold swappedStores
  cases e <;> try rfl
  dsimp only
  rw [h2, h3]
  rfl
theorem ss_setP {t : Tgt} {e : IE} {tg x : Expr} (C : CxS X T Γ k sc N W) (hc : notComp x = true) (hp : parOk sc tg x = true) (hn : nb e = true) (hs : notStar tg = true) (ht : mTg true sc N t tg = true) (h : mE T N true sc e x = true) :
    PS X (.Assign [tg] x pos) (tS X.mg T X.K W fr (semS Γ T.Cn (.set t e))) := by
  have hw : swappedStores [tg] x X.env = pure none := by
    unfold parOk at hp
    rw [Bool.or_eq_true] at hp
    rcases hp with hp | hp
    · exact stores_no hp
    · split at hp
      · rcases Bool.or_eq_true _ _ ▸ hp with hp | hp
        · exact stores_cell C.cx.sc hp
        · exact stores_four (of_decide_eq_true hp)
      · cases hp
  exact ps_imp (ps_asg ((sound e).e X sc W x C.cx C.tk h) (sndG t X true sc tg C.cx.n C.cx.nd C.cx.sc (fun _ x => C.fn x) (C.cx.calm rfl) ht) (sole_no hc) hw (assign_cons hs)) fun Z σ H q => tE_mono (tS_out q) fun v H1 g => got_set (nb_kd hn) g
end
end CT

namespace CT
open PySem PySem.Spec PyProof.Rows L2
section
variable {X : Cx} {T : Tb} {Γ : Fns} {k : Nat} {sc : Scope} {N : List Str} {W : WX} {fr : Bool} {pos : Pos}
theorem few_one {e : Expr} {cpos : Pos} {env : Env} (h : notStar e = true) : ((backTo cpos (starEach [e] env)).all (fun x => !x.1) && (backToKw cpos (keywordEach [] env)).all (fun x => x.1.isSome)
      && decide (([e] : List Expr).length + ([] : List Keyword).length + (if ([] : List Keyword).isEmpty then 0 else 1) < 30)) = true := by
  rw [star_cons h]; rfl
/-- xs.append(e) on a list of one's own -/
theorem ss_app {i : Nat} {e : IE} {x : Str} {p apos cpos : Pos} {u : Expr} (C : CxS X T Γ k sc N W) (hi : N[i]? = some x) (hv : visB sc x = true) (hn : nmOk x = true) (hl : (apos.endLine == cpos.line) = true) (hb : nb e = true) (h : mE T N true sc e u = true) :
    PS X (.Expr (.Call (.Attribute (.Name x p) "append" apos) [u] [] cpos) pos) (tS X.mg T X.K W fr (semS Γ T.Cn (.app i e))) := by
  refine ps_imp (ps_expr (pe_bm PySem.F.plainAttrs_list PySem.F.slot_list_append PySem.F.type_list_append mt_append (pe_slot C hi hv hn) (pa_cons ((sound e).e X sc W u C.cx C.tk h) pa_nil (star_cons (mE_star h))) rfl (few_one (mE_star h)) hl (star_cons (mE_star h)) rfl) rfl) fun Z σ H q => ?_
  obtain ⟨β0, H0, A, β, M, ow, σd, a, p⟩ := q
  simp only [semS] at p
  split at p
  · rename_i xs hs
    obtain ⟨b, h1, h2, ⟨h3, vs, h4, h5⟩, h6⟩ := a.re.slot i _ hs
    refine ⟨.ref b, h2, .inl ⟨rfl, _, .inl (.inl h4)⟩, β, A, M, ow, σd, a.re, ?_⟩
    cases q1 : semE Γ T.Cn e σd M with
    | stuck => rw [q1] at p; exact p
    | exc c fs M' =>
      rw [q1] at p
      exact fun β' cls dx H' e m x => p β' H' ow σ cls dx (a.mono e m) (Step.of e) x
    | ok y M1 =>
      rw [q1] at p
      simp only [Res.out] at p
      intro β1 w H1 e1 m1 r1
      by_cases hz : xs.length < sizeLine
      · rw [if_pos hz] at p
        have a1 := a.mono e1 m1
        obtain ⟨b', g1, g2, ⟨g3, ws, g4, g5⟩, g6⟩ := a1.re.slot i _ hs
        rw [h1] at g1; cases g1
        have rw' := RepF.plain (nb_kd hb) (fun z hz => a.re.avoLive hz) r1
        obtain ⟨a2, s2⟩ := a1.write hs h1 g4 (g5.append (Reps.one rw'))
        exact ⟨b, ws, w, rfl, rfl, g4, by rw [← g5.length]; exact hz, p β1 _ ow σ a2 ((Step.of e1).trans s2)⟩
      · rw [if_neg hz] at p; exact p.elim
  · exact p.elim
/-- xs.extend(e) on a list of one's own, by a list -/
theorem ss_ext {i : Nat} {e : IE} {x : Str} {p apos cpos : Pos} {u : Expr} (C : CxS X T Γ k sc N W) (hi : N[i]? = some x) (hv : visB sc x = true) (hn : nmOk x = true) (hl : (apos.endLine == cpos.line) = true) (hb : nb e = true) (h : mE T N true sc e u = true) :
    PS X (.Expr (.Call (.Attribute (.Name x p) "extend" apos) [u] [] cpos) pos) (tS X.mg T X.K W fr (semS Γ T.Cn (.ext i e))) := by
  refine ps_imp (ps_expr (pe_bm PySem.F.plainAttrs_list PySem.F.slot_list_extend PySem.F.type_list_extend mt_extend (pe_slot C hi hv hn) (pa_cons ((sound e).e X sc W u C.cx C.tk h) pa_nil (star_cons (mE_star h))) rfl (few_one (mE_star h)) hl (star_cons (mE_star h)) rfl) rfl) fun Z σ H q => ?_
  obtain ⟨β0, H0, A, β, M, ow, σd, a, p⟩ := q
  simp only [semS] at p
  split at p
  · rename_i xs hs
    obtain ⟨b, h1, h2, ⟨h3, vs, h4, h5⟩, h6⟩ := a.re.slot i _ hs
    refine ⟨.ref b, h2, .inl ⟨rfl, _, .inl (.inl h4)⟩, β, A, M, ow, σd, a.re, ?_⟩
    cases q1 : semE Γ T.Cn e σd M with
    | stuck => rw [q1] at p; exact p
    | exc c fs M' =>
      rw [q1] at p
      exact fun β' cls dx H' e m x => p β' H' ow σ cls dx (a.mono e m) (Step.of e) x
    | ok y M1 =>
      rw [q1] at p
      simp only [Res.out] at p
      intro β1 w H1 e1 m1 r1
      cases y <;> simp only [lstOf] at p <;> try exact p.elim
      rename_i ys
      by_cases hz : xs.length + ys.length ≤ sizeLine
      · rw [if_pos hz] at p
        have a1 := a.mono e1 m1
        obtain ⟨b', g1, g2, ⟨g3, ws, g4, g5⟩, g6⟩ := a1.re.slot i _ hs
        rw [h1] at g1; cases g1
        have rw' := RepF.plain (nb_kd hb) (fun z hz => a.re.avoLive hz) r1
        simp only [Rep] at rw'
        obtain ⟨c, us, rfl, hc, hcb, hca, ru⟩ := rw'
        obtain ⟨a2, s2⟩ := a1.write hs h1 g4 (g5.append ru)
        exact ⟨b, c, ws, us, rfl, rfl, g4, hc, by rw [← g5.length, ← ru.length]; exact hz, p β1 _ ow σ a2 ((Step.of e1).trans s2)⟩
      · rw [if_neg hz] at p; exact p.elim
  · exact p.elim
/-! ### name = [.. for ..] -/
def lcSw (sc : Scope) (y : Str) (py : Pos) (scope : Scope) (pos : Pos) : Bool := locL sc y && (py.line == pos.line) && !(scope.names.any fun (n, k) => n == y && (k == .local || k == .cell))
theorem ps_lc {elt : IE} {tg : Tgt} {own : List (Str × Nat)} {kq : SK} {src ifs : List IE} {i : Nat} {y : Str} {py cp : Pos} {x t it : Expr} {fs : List Expr} {scope : Scope} (C : CxS X T Γ k sc N W) (hi : N[i]? = some y)
    (hsw : lcSw sc y py scope cp = true) (h : mE T N true sc (.comp elt tg own kq src ifs) (.ListComp x [⟨t, it, fs, 0⟩] scope cp) = true) :
    PS X (.Assign [.Name y py] (.ListComp x [⟨t, it, fs, 0⟩] scope cp) pos) (tAsg (tE X.mg T X.K W .fr (semE Γ T.Cn (.comp elt tg own kq src ifs))) (gName i)) := by
  simp only [lcSw, Bool.and_eq_true, Bool.not_eq_true'] at hsw
  obtain ⟨⟨hy, hline⟩, hany⟩ := hsw
  unfold mE at h
  simp only [Bool.and_eq_true, List.all_eq_true, decide_eq_true_eq] at h
  obtain ⟨⟨⟨⟨⟨⟨⟨⟨hc, hb⟩, ht⟩, hsl⟩, hnb⟩, he⟩, hif⟩, hl⟩, hsrc⟩ := h
  have hsrc' : mSrc T N true sc kq src t it = true := hsrc
  have hcalm := C.cx.calm rfl
  have hset : notSet it = true := by
    cases it <;> first | rfl | (cases kq <;> simp [mSrc, notSet] at hsrc')
  have pi := sndI (bw := true) (kk := .br) C.cx rfl kq t it hsrc' (fun s hs hm => CT.PE.weak ((sound s).e X sc W it C.cx C.tk hm)) (fun es hm => ((sounds src).Es X sc W es C.cx C.tk hm).1)
  have bo : BlkOk X.N X.env.scope scope own := blkOk_by (by rw [C.cx.n, C.cx.sc]; exact hb)
  refine ps_imp (ps_setLc (g := gOf X.K tg) (tt := tTs X.mg T X.K WF (semIf Γ T.Cn ifs)) (te := tE X.mg T X.K WF (kd T elt) (semE Γ T.Cn elt)) hcalm (by rw [C.cx.n]; exact C.cx.nd) (by rw [C.cx.n]; exact hi) (loc_of C hy)
    (sw_true (by rw [C.cx.sc]; exact C.kind) (loc_of C hy) hline hany) pi bo
    (fun s H A cl fp => sndG tg (X.blk s H scope (compEnvC scope cl A X.env) fp) false (relS scope sc) t (C.cx.blk s H scope A cl fp).n C.cx.nd (C.cx.blk s H scope A cl fp).sc (fun z => (nomatch z)) hcalm ht)
    (fun s H A cl fp => (sounds ifs).If (X.blk s H scope (compEnvC scope cl A X.env) fp) (relS scope sc) WF fs (C.cx.blk s H scope A cl fp) takes0 hif hl)
    (fun s H A cl fp => (sound elt).e (X.blk s H scope (compEnvC scope cl A X.env) fp) (relS scope sc) WF x (C.cx.blk s H scope A cl fp) takes0 he) (set_folded hset)) fun Z σ H q => ?_
  refine comp_ok (ci := semI Γ T.Cn kq src) (kk := .fr) (nb_kd hnb) (fun j hj => by simpa using hsl j hj) ?_
  obtain ⟨β, A, M, ow, σd, R, p⟩ := q
  refine ⟨β, A, M, ow, σd, R, ?_⟩
  have e : semE Γ T.Cn (.comp elt tg own kq src ifs) σd M = (semI Γ T.Cn kq src σd M).bind fun items M1 => (compL (turnG Γ T.Cn elt tg own ifs σd) items 0 M1).bind fun ys M2 => .ok (.lst ys) M2 := by
    simp only [semE, semI]
    cases semEs Γ T.Cn src σd M with
    | ok xs M1 =>
      simp only [Res.bind, Res.of]
      cases srcD kq xs <;> rfl
    | exc c fs M' => rfl
    | stuck => rfl
  rw [e] at p
  exact p
/-! ### terms beside statements -/
def kindF (sc : Scope) : Bool := match sc.kind with | .function => true | _ => false
section
variable (T : Tb) (N : List Str) (sc : Scope) (fr : Bool)
def mAsg (t : Tgt) (e : IE) : Expr → Expr → Bool
  | tg, .ListComp x [⟨tt, it, fs, 0⟩] scope cp => (match t, tg with
    | .nm i, .Name y py => decide (N[i]? = some y) && lcSw sc y py scope cp && (match e with | .comp _ _ _ _ _ _ => true | _ => false) && mE T N true sc e (.ListComp x [⟨tt, it, fs, 0⟩] scope cp)
    | _, _ => false)
  | tg, x => notComp x && parOk sc tg x && nb e && notStar tg && mTg true sc N t tg && mE T N true sc e x
def mAsgO (i : Nat) (e : IE) : Expr → Expr → Bool
  | .Name y py, .ListComp x [⟨tt, it, fs, 0⟩] scope cp => decide (N[i]? = some y) && lcSw sc y py scope cp && (match e with | .comp _ _ _ _ _ _ => true | _ => false) && mE T N true sc e (.ListComp x [⟨tt, it, fs, 0⟩] scope cp)
  | .Name y py, x => notComp x && decide (kd T e = .fr) && mTg true sc N (.nm i) (.Name y py) && mE T N true sc e x
  | _, _ => false
mutual
def mS : IS → Stmt → Bool
  | .expr e, st => match st with | .Expr x _ => notComp x && mE T N true sc e x | _ => false
  | .set t e, st => match st with | .Assign [tg] x _ => mAsg T N sc t e tg x | _ => false
  | .setO i e, st => match st with | .Assign [tg] x _ => mAsgO T N sc i e tg x | _ => false
  | .par2 o i j a b, st => match st with
    | .Assign [.Tuple [.Name x px, .Name y py] _ _] (.Tuple [u, v] _ _) _ => decide (N[i]? = some x) && decide (N[j]? = some y) && locL sc x && locL sc y && (py.line == px.line) && decide (i ≠ j) &&
        !([u, v].all (foldedForSure 8)) && !([u, v].all (constantsAlone 8)) && nb a && nb b && (!o || decide (kd T a = .fr)) && mE T N true sc a u && mE T N true sc b v
    | _ => false
  | .par3 i j l a b c, st => match st with
    | .Assign [.Tuple [.Name x px, .Name y py, .Name z pz] _ _] (.Tuple [u, v, w] _ _) _ => decide (N[i]? = some x) && decide (N[j]? = some y) && decide (N[l]? = some z) && locL sc x && locL sc y && locL sc z && (py.line == px.line) && (pz.line == px.line) &&
        decide (i ≠ j) && decide (i ≠ l) && decide (j ≠ l) && !([u, v, w].all (foldedForSure 8)) && !([u, v, w].all (constantsAlone 8)) && nb a && nb b && nb c && mE T N true sc a u && mE T N true sc b v && mE T N true sc c w
    | _ => false
  | .aug i op e, st => match st with | .AugAssign (.Name x _) o u _ => decide (N[i]? = some x) && locL sc x && decide (opOf op = o) && decide (op ≠ .pow) && mE T N true sc e u | _ => false
  | .app i e, st => match st with
    | .Expr (.Call (.Attribute (.Name x _) m apos) [u] [] cpos) _ => decide (m = ("append" : Str)) && decide (N[i]? = some x) && visB sc x && nmOk x && (apos.endLine == cpos.line) && nb e && mE T N true sc e u
    | _ => false
  | .ext i e, st => match st with
    | .Expr (.Call (.Attribute (.Name x _) m apos) [u] [] cpos) _ => decide (m = ("extend" : Str)) && decide (N[i]? = some x) && visB sc x && nmOk x && (apos.endLine == cpos.line) && nb e && mE T N true sc e u
    | _ => false
  | .dis _, _ => false
  | .par2b i j a b, st => match st with
    | .Assign [.Tuple [.Name x px, .Name y py] _ _] (.Tuple [u, v] _ _) _ => decide (N[i]? = some x) && decide (N[j]? = some y) && locL sc x && locL sc y && (py.line == px.line) && decide (i ≠ j) &&
        !([u, v].all (foldedForSure 8)) && !([u, v].all (constantsAlone 8)) && nb a && decide (kd T b = .fr) && mE T N true sc a u && mE T N true sc b v
    | _ => false
  | .rai c es, st => match st with
    | .Raise (some (.Call (.Name y _) (z :: zs) [] _)) none _ => decide (c = y) && glbB sc y && es.all nb && (match T.XN c with | some names => names.length == es.length | none => false) && mEs T N true sc es (z :: zs)
    | _ => false
  | .put i k v, st => match st with
    | .Assign [.Subscript (.Name x _) kx _] vx _ => decide (N[i]? = some x) && visB sc x && nmOk x && notComp vx && nb v && notSlice kx && mE T N true sc k kx && mE T N true sc v vx
    | _ => false
  | .ret e, st => match st with | .Return (some x) _ => nb e && (!fr || decide (kd T e = .fr)) && mE T N true sc e x | _ => false
  | .retO i, st => match st with | .Return (some (.Name x _)) _ => decide (N[i]? = some x) && visB sc x && nmOk x | _ => false
  | .retN, st => match st with | .Return none _ => !fr | _ => false
  | .brk, st => match st with | .Break _ => true | _ => false
  | .cont, st => match st with | .Continue _ => true | _ => false
  | .pass, st => match st with | .Pass _ => true | _ => false
  | .ife t a b, st => match st with | .If c sa sb _ => mE T N true sc t c && mSs a sa && mSs b sb | _ => false
  | .whl t b, st => match st with | .While c sb [] _ => mE T N true sc t c && mSs b sb | _ => false
  | .for tg g src b, st => match st with | .For t i sb [] _ => src.all nb && mSrc T N true sc g src t i && mTg true sc N tg t && mSs b sb | _ => false
def mSs : List IS → List Stmt → Bool
  | [], [] => true
  | .dis _ :: r, sts => mSs r sts
  | s :: r, st :: sts => mS s st && mSs r sts
  | _, _ => false
end
end
theorem got_lc_set {mg : Str → Option Value} {K : PySem.W.Frag} {e : IE} {i : Nat} {Z : Ends} {σ : L2.St} {H : Hp} (q : tS mg T K W fr (semS Γ T.Cn (.set (.nm i) e)) Z σ H) : tAsg (tE mg T K W .fr (semE Γ T.Cn e)) (gName i) Z σ H :=
  tE_mono (tS_out q) fun v H1 g => got_set (t := .nm i) (by decide) g
theorem ss_asg {t : Tgt} {e : IE} {tg x : Expr} (C : CxS X T Γ k sc N W) (h : mAsg T N sc t e tg x = true) : PS X (.Assign [tg] x pos) (tS X.mg T X.K W fr (semS Γ T.Cn (.set t e))) := by
  unfold mAsg at h
  split at h
  · split at h
    · simp only [Bool.and_eq_true, decide_eq_true_eq] at h
      obtain ⟨⟨⟨h1, h2⟩, h3⟩, h4⟩ := h
      cases e <;> simp at h3
      exact ps_imp (ps_lc C h1 h2 h4) fun Z σ H q => got_lc_set q
    · cases h
  · simp only [Bool.and_eq_true] at h
    obtain ⟨⟨⟨⟨⟨h1, h2⟩, h3⟩, h4⟩, h5⟩, h6⟩ := h
    exact ss_setP C h1 h2 h3 h4 h5 h6
theorem ss_asgO {i : Nat} {e : IE} {tg x : Expr} (C : CxS X T Γ k sc N W) (h : mAsgO T N sc i e tg x = true) : PS X (.Assign [tg] x pos) (tS X.mg T X.K W fr (semS Γ T.Cn (.setO i e))) := by
  unfold mAsgO at h
  split at h
  · simp only [Bool.and_eq_true, decide_eq_true_eq] at h
    obtain ⟨⟨⟨h1, h2⟩, h3⟩, h4⟩ := h
    cases e <;> simp at h3
    exact ps_imp (ps_lc C h1 h2 h4) fun Z σ H q => tE_mono (tS_out q) fun v H1 g => got_setO rfl g
  · simp only [Bool.and_eq_true, decide_eq_true_eq] at h
    obtain ⟨⟨⟨h1, h2⟩, h3⟩, h4⟩ := h
    exact ss_setO C h1 h2 h3 h4
  · cases h
theorem sss_dis {i : Nat} {r : List IS} {sts : List Stmt} (h : PSs X sts (tS X.mg T X.K W fr (semSs Γ T.Cn r))) : PSs X sts (tS X.mg T X.K W fr (semSs Γ T.Cn (.dis i :: r))) :=
  pss_imp h fun Z σ H q => by
    obtain ⟨β0, H0, A, β, M, ow, σd, a, p⟩ := q
    simp only [semSs, semS] at p
    split at p
    · rename_i d hd
      obtain ⟨a2, s2⟩ := a.dis hd
      exact ⟨β0, H0, A, β, M, _, _, a2, PostS.later s2 p⟩
    · exact ⟨β0, H0, A, β, M, ow, σd, a, p⟩
    · exact p.elim
mutual
theorem soundS (C : CxS X T Γ k sc N W) : ∀ (s : IS) (st : Stmt), mS T N sc fr s st = true → PS X st (tS X.mg T X.K W fr (semS Γ T.Cn s))
  | .expr e, st, h => by
    unfold mS at h
    split at h <;> try (cases h; done)
    simp only [Bool.and_eq_true] at h
    exact ss_expr C h.1 h.2
  | .set t e, st, h => by
    unfold mS at h
    split at h <;> try (cases h; done)
    exact ss_asg C h
  | .setO i e, st, h => by
    unfold mS at h
    split at h <;> try (cases h; done)
    exact ss_asgO C h
  | .par2 o i j a b, st, h => by
    unfold mS at h
    split at h <;> try (cases h; done)
    simp only [Bool.and_eq_true, decide_eq_true_eq, Bool.not_eq_true', Bool.or_eq_true] at h
    obtain ⟨⟨⟨⟨⟨⟨⟨⟨⟨⟨⟨⟨h1, h2⟩, h3⟩, h4⟩, h5⟩, h6⟩, h7⟩, h8⟩, h9⟩, h10⟩, h11⟩, h12⟩, h13⟩ := h
    exact ss_par2 C h1 h2 h3 h4 h5 h6 h7 h8 h9 h10 (fun z => h11.elim (fun q => by rw [z] at q; cases q) id) h12 h13
  | .par3 i j l a b c, st, h => by
    unfold mS at h
    split at h <;> try (cases h; done)
    simp only [Bool.and_eq_true, decide_eq_true_eq, Bool.not_eq_true'] at h
    obtain ⟨⟨⟨⟨⟨⟨⟨⟨⟨⟨⟨⟨⟨⟨⟨⟨⟨⟨h1, h2⟩, h3⟩, h4⟩, h5⟩, h6⟩, h7⟩, h8⟩, h9⟩, h10⟩, h11⟩, h12⟩, h13⟩, h14⟩, h15⟩, h16⟩, h17⟩, h18⟩, h19⟩ := h
    exact ss_par3 C h1 h2 h3 h4 h5 h6 h7 h8 h9 h10 h11 h12 h13 h14 h15 h16 h17 h18 h19
  | .aug i op e, st, h => by
    unfold mS at h
    split at h <;> try (cases h; done)
    simp only [Bool.and_eq_true, decide_eq_true_eq] at h
    obtain ⟨⟨⟨⟨h1, h2⟩, h3⟩, h4⟩, h5⟩ := h
    exact ss_aug' C h1 h2 h3 h4 h5
  | .app i e, st, h => by
    unfold mS at h
    split at h <;> try (cases h; done)
    simp only [Bool.and_eq_true, decide_eq_true_eq] at h
    obtain ⟨⟨⟨⟨⟨⟨rfl, h2⟩, h3⟩, h4⟩, h5⟩, h6⟩, h7⟩ := h
    exact ss_app C h2 h3 h4 h5 h6 h7
  | .ext i e, st, h => by
    unfold mS at h
    split at h <;> try (cases h; done)
    simp only [Bool.and_eq_true, decide_eq_true_eq] at h
    obtain ⟨⟨⟨⟨⟨⟨rfl, h2⟩, h3⟩, h4⟩, h5⟩, h6⟩, h7⟩ := h
    exact ss_ext C h2 h3 h4 h5 h6 h7
  | .par2b i j a b, st, h => by
    unfold mS at h
    split at h <;> try (cases h; done)
    simp only [Bool.and_eq_true, decide_eq_true_eq, Bool.not_eq_true'] at h
    obtain ⟨⟨⟨⟨⟨⟨⟨⟨⟨⟨⟨h1, h2⟩, h3⟩, h4⟩, h5⟩, h6⟩, h7⟩, h8⟩, h9⟩, h10⟩, h12⟩, h13⟩ := h
    exact ss_par2b C h1 h2 h3 h4 h5 h6 h7 h8 h9 h10 h12 h13
  | .rai c es, st, h => by
    unfold mS at h
    split at h <;> try (cases h; done)
    simp only [Bool.and_eq_true, decide_eq_true_eq] at h
    obtain ⟨⟨⟨⟨rfl, h2⟩, h3⟩, h4⟩, h5⟩ := h
    split at h4
    · rename_i names hx
      exact ss_rai C hx (by simpa using h4) h2 h3 h5
    · cases h4
  | .put i kk v, st, h => by
    unfold mS at h
    split at h <;> try (cases h; done)
    simp only [Bool.and_eq_true, decide_eq_true_eq] at h
    obtain ⟨⟨⟨⟨⟨⟨⟨h1, h2⟩, h3⟩, h4⟩, h5⟩, h6⟩, h7⟩, h8⟩ := h
    exact ss_put C h1 h2 h3 h4 h5 h6 h7 h8
  | .dis i, st, h => by simp [mS] at h
  | .ret e, st, h => by
    unfold mS at h
    split at h <;> try (cases h; done)
    simp only [Bool.and_eq_true, decide_eq_true_eq, Bool.not_eq_true', Bool.or_eq_true] at h
    exact ss_ret C h.1.1 (fun z => h.1.2.elim (fun q => by rw [z] at q; cases q) id) h.2
  | .retO i, st, h => by
    unfold mS at h
    split at h <;> try (cases h; done)
    simp only [Bool.and_eq_true, decide_eq_true_eq] at h
    exact ss_retO C h.1.1 h.1.2 h.2
  | .retN, st, h => by
    unfold mS at h
    split at h <;> try (cases h; done)
    exact ss_retN (by simpa using h)
  | .brk, st, h => by
    unfold mS at h
    split at h <;> try (cases h; done)
    exact ss_brk
  | .cont, st, h => by
    unfold mS at h
    split at h <;> try (cases h; done)
    exact ss_cont
  | .pass, st, h => by
    unfold mS at h
    split at h <;> try (cases h; done)
    exact ss_pass
  | .ife t a b, st, h => by
    unfold mS at h
    split at h <;> try (cases h; done)
    simp only [Bool.and_eq_true] at h
    exact ss_ife C h.1.1 (soundSs C a _ h.1.2) (soundSs C b _ h.2)
  | .whl t b, st, h => by
    unfold mS at h
    split at h <;> try (cases h; done)
    simp only [Bool.and_eq_true] at h
    exact ss_whl C h.1 (soundSs C b _ h.2)
  | .for tg g src b, st, h => by
    unfold mS at h
    split at h <;> try (cases h; done)
    simp only [Bool.and_eq_true] at h
    exact ss_for C h.1.1.1 h.1.1.2 h.1.2 (soundSs C b _ h.2)
theorem soundSs (C : CxS X T Γ k sc N W) : ∀ (ss : List IS) (sts : List Stmt), mSs T N sc fr ss sts = true → PSs X sts (tS X.mg T X.K W fr (semSs Γ T.Cn ss))
  | [], [], _ => pss_imp pss_nil fun Z σ H q => by
    obtain ⟨β0, H0, A, β, M, ow, σd, a, p⟩ := q
    simp only [semSs] at p
    exact p β H ow σ a (Step.refl _ _ _)
  | [], _ :: _, h => by simp [mSs] at h
  | s :: r, sts, h => by
    by_cases hd : ∃ i, s = .dis i
    · obtain ⟨i, rfl⟩ := hd
      exact sss_dis (soundSs C r sts (by simpa only [mSs] using h))
    · cases sts with
      | nil => cases s <;> simp [mSs] at h hd
      | cons st sts =>
        have h' : mS T N sc fr s st = true ∧ mSs T N sc fr r sts = true := by
          cases s <;> first | (exact absurd ⟨_, rfl⟩ hd) | (simpa only [mSs, Bool.and_eq_true] using h)
        exact pss_imp (pss_cons (soundS C s _ h'.1) (soundSs C r _ h'.2)) fun Z σ H q => tS_seq (by
          obtain ⟨β0, H0, A, β, M, ow, σd, a, p⟩ := q
          simp only [semSs] at p
          exact ⟨β0, H0, A, β, M, ow, σd, a, p⟩)
end
end
end CT

namespace CT
open PySem PySem.Spec PyProof.Rows L2
/-! ### defs -/
def outF (fr : Bool) : Out → Res D
  | .nx _ M => if fr then .stuck else .ok .non M
  | .rt d M => .ok d M
  | .ex c fs _ M => .exc c fs M
  | _ => .stuck
def startG (n : Nat) (ds : List D) : Sg := ds.map SV.v ++ List.replicate (n - ds.length) SV.no
noncomputable def semF (Γ : Fns) (Cn : Str → Option D) (n : Nat) (fr : Bool) (body : List IS) : List D → Mem → Res D := fun ds M => outF fr (semSs Γ Cn body (startG n ds) M)
section
variable {P : Program} {w : World} {K : PySem.W.Frag} {mg : Str → Option Value} {base : Heap} {T : Tb} {Γ : Fns} {k : Nat}
theorem start_re {β : List Addr} {A : Addr → Prop} {H : Hp} {M : Mem} {ds : List D} {vs : List V} {N : List Str} (m : RepM β H M) (hA : ∀ a, A a → H a ≠ none) (r : Reps K β A H ds vs) (ht : LamX.Tabs lamTabs H) :
    RE K β A H M (fun _ => none) (startG N.length ds) (start N vs) := by
  refine ⟨m, fun i j a h => (nomatch h), fun i a h => (nomatch h), hA, ?_, fun i s h => ?_, ht⟩
  · unfold startG L2.start
    simp [r.length]
  · unfold startG at h
    unfold L2.start
    by_cases hi : i < ds.length
    · rw [List.getElem?_append_left (by simpa using hi), List.getElem?_map, List.getElem?_eq_getElem hi] at h
      cases h
      obtain ⟨v, h1, h2⟩ := r.get (List.getElem?_eq_getElem hi)
      refine ⟨v, ?_, h2.sub fun a z => z.elim id fun ⟨_, z⟩ => by cases z⟩
      rw [List.getElem?_append_left (by rw [List.length_map, ← r.length]; exact hi), List.getElem?_map, h1]
      rfl
    · rw [List.getElem?_append_right (by simpa using hi), List.getElem?_replicate] at h
      split at h
      · cases h; exact True.intro
      · cases h
theorem fn_body {X : Cx} {x : Str} {sc : Scope} {sts : List Stmt} {N ps : List Str} {fr : Bool} {body : List IS} {H : Hp} {vs : List V} {Q : VK} {E : XK} {n : Nat} (C : CxS X T Γ k sc N (fun cls d _ H => E cls d H)) (hN : X.N = N) (hm : mSs T N sc fr body sts = true)
    (h : spOf X.mg T X.K n fr (semF Γ T.Cn N.length fr body) vs H Q E) : ∃ t, PSs X sts t ∧ t { nx := fun _ H' => Q .non H', rt := Q } (L2.start N vs) H := by
  obtain ⟨ht, β, A1, M, ds, m, hA, r, hl, p⟩ := h
  refine ⟨_, soundSs (fr := fr) C body _ hm, β, H, A1, β, M, fun _ => none, startG N.length ds, ⟨start_re m hA r ht, Ext.refl _ _, fun i a z => (nomatch z), hA⟩, ?_⟩
  unfold semF at p
  cases q : semSs Γ T.Cn body (startG N.length ds) M with
  | nx σ1 M1 =>
    rw [q] at p
    intro β' H' ow' σ' a' s'
    unfold outF at p
    cases fr with
    | true => exact p.elim
    | false => exact p β' .non H' a'.ext a'.re.mem (show Rep X.K β' A1 H' .non .non by simp only [Rep])
  | bk σ1 M1 => rw [q] at p; exact p.elim
  | ct σ1 M1 => rw [q] at p; exact p.elim
  | rt d M1 => rw [q] at p; exact fun β' H' v e m' r' => p β' v H' e m' r'
  | ex c fs σ1 M1 => rw [q] at p; exact fun β' H' ow' σ' cls dx a' s' x => p β' cls dx H' a'.ext a'.re.mem (x.sub fun b z => .inl z)
  | stuck => rw [q] at p; exact p.elim
theorem fn_ir {x : Str} {st : Stmt} {f : Addr} {fd : FuncData} {N ps : List Str} {fr : Bool} {body : List IS} (F : Fun K x x st f fd) (S : FnScope N ps (defScope st)) (hno : ∀ s e y, T.mL s e y = false) (hm : mSs T N (defScope st) fr body (defBody st) = true) (fx : Fx P w K mg base T Γ k) :
    FnOk P w K mg base (L2.CX P w) (k + 1) f fd ps (spOf mg T K ps.length fr (semF Γ T.Cn N.length fr body)) := by
  refine F.okX S (fun vs H Q E h => ?_) (fun cdv A outer s H vs Q E hr h => ?_)
  · obtain ⟨_, β, A, M, ds, _, _, r, hl, _⟩ := h
    rw [← r.length, hl]
  · have C : CxS (cxOf (L2.CX P w) P w K mg base N x (defScope st) f cdv A outer s H E) T Γ k (defScope st) N (fun cls d _ H => E cls d H) :=
      ⟨⟨rfl, S.nd, rfl, fun _ => rfl, fun _ => hr, hr.units, fx, fun _ z => by obtain ⟨_, _, _, z⟩ := z; rw [hno] at z; cases z⟩, takes_of rfl rfl rfl rfl, fun _ => rfl, S.kind, passes_of rfl⟩
    exact fn_body (x := x) (ps := ps) C rfl hm h
/-- a def that makes lambdas -/
theorem fn_irL {x : Str} {st : Stmt} {f c Pt : Addr} {kV doc pm ct oc : Value} {an od : Option Addr} {osl : Array (Option Value)} {N ps : List Str} {fr : Bool} {body : List IS}
    (lk : K.lookup f = some ⟨oc, od, .func (PySem.W.fnOf x x (defArgs st) (defBody st) (defScope st) .none kV doc pm an (.ref c) ct), osl⟩) (hcd : PySem.W.codeIn K (.ref c) x = true) (S : FnScope N ps (defScope st)) (hL : ∀ s e y, T.mL s e y = true → mE T.no N true s e y = true)
    (hmem : ∀ L : Addr, (Pt, (envOfC x (defScope st) L f (.ref c)).qual ++ "<lambda>") ∈ lamTabs ∧ ∀ p ∈ lamTabs, p.1 = Pt → p.2 = (envOfC x (defScope st) L f (.ref c)).qual ++ "<lambda>") (TB : LamX.TabB base mg c Pt)
    (hm : mSs T N (defScope st) fr body (defBody st) = true) (fx : Fx P w K mg base T Γ k) :
    FnOk P w K mg base (L2.CX P w) (k + 3) f (PySem.W.fnOf x x (defArgs st) (defBody st) (defScope st) .none kV doc pm an (.ref c) ct) ps (spOf mg T K ps.length fr (semF Γ T.Cn N.length fr body)) := by
  refine fn_of lk hcd S (fun vs H Q E h => ?_) (fun A outer s H vs Q E hr h => ?_)
  · obtain ⟨_, β, A, M, ds, _, _, r, hl, _⟩ := h
    rw [← r.length, hl]
  · have C : CxS (cxOf (L2.CX P w) P w K mg base N x (defScope st) f (.ref c) A outer s H E) T Γ k (defScope st) N (fun cls d _ H => E cls d H) :=
      ⟨⟨rfl, S.nd, rfl, fun _ => rfl, fun _ => hr.mono (by omega), hr.units, fx, fun _ _ => ⟨hL, hr, c, Pt, (hmem _).1, (hmem _).2, rfl, TB⟩⟩, takes_of rfl rfl rfl rfl, fun _ => rfl, S.kind, passes_of rfl⟩
    exact fn_body (x := x) (ps := ps) C rfl hm h
end
/-! ### all defs, one after another -/
abbrev Tab := List (Str × Nat × Bool × (List D → Mem → Res D))
def gam (L : Tab) : Fns := fun x ds M => match L.lookup x with
  | some (_, _, F) => F ds M
  | none => .stuck
def tbl (Cn : Str → Option D) (XN : Str → Option (List Str)) (XS : Str → Str → Option Bool) (Wn : Str → Option WrD) (L : Tab) : Tb := ⟨Cn, XN, XS, fun x => (L.lookup x).map fun p => (p.1, p.2.1), Wn, fun _ _ _ => false⟩
section
variable {P : Program} {w : World} {K : PySem.W.Frag} {mg : Str → Option Value} {base : Heap} {k : Nat} {Cn : Str → Option D} {XN : Str → Option (List Str)} {XS : Str → Str → Option Bool} {Wn : Str → Option WrD}
theorem postF_congr {T T' : Tb} (e : T.XN = T'.XN) {β : List Addr} {A : Addr → Prop} {fr : Bool} {H : Hp} {Q : VK} {E : XK} {r : Res D} (h : PostF mg T K β A fr H Q E r) : PostF mg T' K β A fr H Q E r := by
  cases r with
  | ok d M => exact h
  | exc c fs M => exact fun β' cls dx H' e1 m x => h β' cls dx H' e1 m (by
      obtain ⟨C, h1, h2, names, h3, h4, h5⟩ := x
      exact ⟨C, h1, h2, names, by rw [e]; exact h3, h4, h5⟩)
  | stuck => exact h
theorem spOf_congr {T T' : Tb} (e : T.XN = T'.XN) {n : Nat} {fr : Bool} {F : List D → Mem → Res D} {vs : List V} {H : Hp} {Q : VK} {E : XK} (h : spOf mg T K n fr F vs H Q E) : spOf mg T' K n fr F vs H Q E := by
  obtain ⟨ht, β, A, M, ds, h1, h2, h3, h4, h5⟩ := h
  exact ⟨ht, β, A, M, ds, h1, h2, h3, h4, postF_congr e h5⟩
/-- one more def -/
theorem fx_cons {L : Tab} {x : Str} {n : Nat} {fr : Bool} {F : List D → Mem → Res D} {f : Addr} {fd : FuncData} {ps : List Str} (fx : Fx P w K mg base (tbl Cn XN XS Wn L) (gam L) k) (hp : ps.length = n) (g : mg x = some (.ref f)) (kp : PySem.W.keepIn K (.ref f) = true) (b : Binds K fd ps [])
    (ok : FnOk P w K mg base (L2.CX P w) (k + 1) f fd ps (spOf mg (tbl Cn XN XS Wn L) K n fr F)) : Fx P w K mg base (tbl Cn XN XS Wn ((x, n, fr, F) :: L)) (gam ((x, n, fr, F) :: L)) (k + 1) := by
  refine ⟨fx.con, fx.blt, fun y m fr' h => ?_, fun c names h => let ⟨h1, h2⟩ := fx.xc c names h; ⟨by omega, h2⟩, fx.xm, fx.wr, ⟨fx.xx.cl, fx.xx.is, fx.xx.zero⟩⟩
  by_cases hy : y = x
  · subst hy
    have h' : ((List.lookup y ((y, n, fr, F) :: L)).map fun p => (p.1, p.2.1)) = some (m, fr') := h
    rw [List.lookup_cons_self] at h'
    cases h'
    refine ⟨f, fd, ps, hp, g, kp, b, ok.imp fun vs H Q E z => ?_⟩
    have e : gam ((y, n, fr, F) :: L) y = F := by
      funext ds M
      unfold gam
      rw [List.lookup_cons_self]
    rw [e] at z
    exact spOf_congr rfl z
  · have hl : List.lookup y ((x, n, fr, F) :: L) = List.lookup y L := by
      rw [List.lookup_cons]
      have : (y == x) = false := by simpa using hy
      rw [this]
    have h' : ((List.lookup y ((x, n, fr, F) :: L)).map fun p => (p.1, p.2.1)) = some (m, fr') := h
    rw [hl] at h'
    obtain ⟨f', fd', ps', q1, q2, q3, q4, q5⟩ := fx.fn y m fr' h'
    refine ⟨f', fd', ps', q1, q2, q3, q4, (q5.mono (Nat.le_succ k)).imp fun vs H Q E z => ?_⟩
    have e : gam ((x, n, fr, F) :: L) y = gam L y := by
      funext ds M
      unfold gam
      rw [hl]
    rw [e] at z
    exact spOf_congr rfl z
/-- a def by its term -/
theorem fx_ir {L : Tab} {x : Str} {st : Stmt} {f : Addr} {fd : FuncData} {N ps : List Str} {fr : Bool} {body : List IS} (fx : Fx P w K mg base (tbl Cn XN XS Wn L) (gam L) k) (F : Fun K x x st f fd) (g : mg x = some (.ref f)) (b : Binds K fd ps [])
    (S : FnScope N ps (defScope st)) (hm : mSs (tbl Cn XN XS Wn L) N (defScope st) fr body (defBody st) = true) :
    Fx P w K mg base (tbl Cn XN XS Wn ((x, ps.length, fr, semF (gam L) Cn N.length fr body) :: L)) (gam ((x, ps.length, fr, semF (gam L) Cn N.length fr body) :: L)) (k + 1) :=
  fx_cons fx rfl g F.kp b (fn_ir F S (fun _ _ _ => rfl) hm fx)
end
end CT

namespace CT
open PySem PySem.Spec PyProof.Rows L2
section
variable {X : Cx}
theorem get_list : PGet X (rIxL X.K) := by
  intro pins s σ H x y v u Q I rx ry h
  obtain ⟨p, xs, i, z, rfl, rfl, hq, he, q⟩ := h
  cases rx
  obtain ⟨t, rfl⟩ := ry
  obtain ⟨its, r, pl, hz⟩ := I.list hq
  obtain ⟨j, h1, h2, h3, h4, h5⟩ := atI_get he
  obtain ⟨w, ew, rw'⟩ := r.get h2
  have hl := r.length
  have hn := line63
  have fin : EP X pins σ Q w s := ⟨z, H, I, rw', q⟩
  by_cases h0 : 0 ≤ i
  · have hj : i.toNat = j := by
      rw [seqIndex_of h0 h5] at h1
      exact Option.some.inj h1
    exact wpAny_getItem_list pl.isList h0 (by omega) (by rw [hj]; simpa using ew) fin
  · have hj : (i + (its.toArray.size : Int)).toNat = j := by
      rw [seqIndex_neg (by omega) h4] at h1
      rw [List.size_toArray, ← hl]
      exact Option.some.inj h1
    exact wpAny_getItem_list_neg pl.isList (by omega) (by rw [List.size_toArray] <;> omega) (by omega) (by rw [hj]; simpa using ew) fin
/-- what stands at a place of the list in slot i -/
def tBg (i : Nat) (j : Int) : TE := fun σ H Q => ∃ a xs v, σ[i]? = some (some (.ref a)) ∧ H a = some (.lst xs) ∧ atI xs j = some v ∧ Q v H
theorem pe_bg {i : Nat} {j : Int} {x : Str} {p pos p2 : Pos} {kk} (hN : X.N[i]? = some x) (hv : X.env.scope.names.lookup x = some .local) (hd : (x == ("__debug__" : Str)) = false) (hcd : (x == ("__classdict__" : Str)) = false) :
    PE X (.Subscript (.Name x p) (.Constant (.int j) kk p2) pos) (tBg i j) :=
  pe_imp (pe_ix ix_list (pe_var (i := i) hN (.inl hv) hd hcd) pe_int (fun _ _ => rfl)) fun σ H Q ⟨a, xs, v, h1, h2, h3, q⟩ => ⟨.ref a, h1, a, xs, j, v, rfl, rfl, .inl (.inl h2), h3, q⟩
def intOf : Option D → Option Int
  | some (.int i) => some i
  | _ => none
/-- an int by the state of the list in slot 0 -/
def tN (c : Int → Int → Int → L2.St → Option Int) : TE := fun σ H Q => ∃ a l x y z i, σ[0]? = some (some (.ref a)) ∧ H a = some (.lst [.int x, .int y, .int z, .ref l]) ∧ c x y z σ = some i ∧ Q (.int i) H
section
variable {ca cb : Int → Int → Int → L2.St → Option Int} {a b : Expr} {pos : Pos}
theorem pn_int {i : Int} {kk} : PE X (.Constant (.int i) kk pos) (tN fun _ _ _ _ => some i) := pe_imp pe_int fun σ H Q ⟨a, l, x, y, z, j, h1, h2, h3, q⟩ => by
  cases h3; exact q
theorem pn_bg {j : Int} {n : Str} {p pos p2 : Pos} {kk} {f : Int → Int → Int → Int} (hN : X.N[0]? = some n) (hv : X.env.scope.names.lookup n = some .local) (hd : (n == ("__debug__" : Str)) = false) (hcd : (n == ("__classdict__" : Str)) = false)
    (hf : ∀ x y z l, atI [V.int x, V.int y, V.int z, V.ref l] j = some (.int (f x y z))) : PE X (.Subscript (.Name n p) (.Constant (.int j) kk p2) pos) (tN fun x y z _ => some (f x y z)) :=
  pe_imp (pe_bg (i := 0) hN hv hd hcd) fun σ H Q ⟨a, l, x, y, z, j, h1, h2, h3, q⟩ => by
    cases h3; exact ⟨a, _, _, h1, h2, hf x y z l, q⟩
theorem pn_var {k : Nat} {n : Str} {p : Pos} (hN : X.N[k]? = some n) (hv : X.env.scope.names.lookup n = some .local) (hd : (n == ("__debug__" : Str)) = false) (hcd : (n == ("__classdict__" : Str)) = false) :
    PE X (.Name n p) (tN fun _ _ _ σ => match σ[k]? with | some (some (.int i)) => some i | _ => none) :=
  pe_imp (pe_var (i := k) hN (.inl hv) hd hcd) fun σ H Q ⟨a, l, x, y, z, j, h1, h2, h3, q⟩ => by
    dsimp only at h3
    split at h3
    · rename_i i hi
      cases h3
      exact ⟨_, hi, q⟩
    · cases h3
theorem pn_op (op : Op) (ha : PE X a (tN ca)) (hb : PE X b (tN cb)) : PE X (.BinOp a (opOf op) b pos) (tN fun x y z σ => (ca x y z σ).bind fun i => (cb x y z σ).bind fun j => intOf (binD op (.int i) (.int j))) :=
  pe_imp (pe_op (op_bin op) ha hb) fun σ H Q ⟨a, l, x, y, z, r, h1, h2, h3, q⟩ => by
    dsimp only at h3
    cases q1 : ca x y z σ with
    | none => rw [q1] at h3; cases h3
    | some i =>
    cases q2 : cb x y z σ with
    | none => rw [q1, q2] at h3; cases h3
    | some j =>
    rw [q1, q2] at h3
    have h3 : intOf (binD op (.int i) (.int j)) = some r := h3
    refine ⟨a, l, x, y, z, i, h1, h2, q1, a, l, x, y, z, j, h1, h2, q2, ?_⟩
    have ifs : ∀ {c : Prop} [Decidable c] {d : D}, intOf (if c then some d else none) = some r → c ∧ intOf (some d) = some r := fun {c _ d} h => by
      by_cases hc : c
      · rw [if_pos hc] at h; exact ⟨hc, h⟩
      · rw [if_neg hc] at h; cases h
    cases op with
    | add => simp only [binD, intOf] at h3; cases h3; exact .inl ⟨i, j, rfl, rfl, q⟩
    | sub => simp only [binD, intOf] at h3; cases h3; exact ⟨i, j, rfl, rfl, q⟩
    | mul =>
      obtain ⟨hc, h3⟩ := ifs (by simpa only [binD] using h3)
      cases h3; exact .inl ⟨i, j, rfl, rfl, hc, q⟩
    | mod =>
      obtain ⟨hc, h3⟩ := ifs (by simpa only [binD] using h3)
      cases h3; exact ⟨i, j, rfl, rfl, hc, q⟩
    | fdiv =>
      obtain ⟨hc, h3⟩ := ifs (by simpa only [binD] using h3)
      cases h3; exact ⟨i, j, rfl, rfl, hc, q⟩
    | pow =>
      obtain ⟨hc, h3⟩ := ifs (by simpa only [binD] using h3)
      cases h3; exact ⟨i, j, rfl, rfl, hc, q⟩
    | shl =>
      obtain ⟨hc, h3⟩ := ifs (by simpa only [binD] using h3)
      cases h3; exact ⟨i, j, rfl, rfl, hc, q⟩
    | shr =>
      obtain ⟨hc, h3⟩ := ifs (by simpa only [binD] using h3)
      cases h3; exact ⟨i, j, rfl, rfl, hc, q⟩
    | band => simp only [binD, intOf] at h3; cases h3; exact ⟨i, j, rfl, rfl, q⟩
theorem pn_in {p : Pos} (hg : Gl X "int") (hm : X.mg "int" = none) (ha : PE X a (tN ca)) (hs : starEach [a] X.env = [(false, eval a X.env)]) :
    PE X (.Call (.Name "int" p) [a] [] pos) (tN ca) :=
  pe_imp (pe_callTy call_int1 hg hm (by decide +kernel) (pa_cons ha pa_nil hs) (by decide +kernel) (by decide +kernel) hs rfl) fun σ H Q ⟨a, l, x, y, z, r, h1, h2, h3, q⟩ =>
    ⟨a, l, x, y, z, r, h1, h2, h3, .inl ⟨r, rfl, q⟩⟩
/-- a test of two ints -/
def tNt (c : Int → Int → Int → L2.St → Option Bool) : TT := fun σ H Q => ∃ a l x y z b, σ[0]? = some (some (.ref a)) ∧ H a = some (.lst [.int x, .int y, .int z, .ref l]) ∧ c x y z σ = some b ∧ Q b H
theorem pn_cmp {o : CmpOp} {f : Int → Int → Bool} {r : R2} (hr : OpR X (compareOp o) r) (hq : ∀ (i j : Int) (H : Hp) (Q : VK), Q (.bl (f i j)) H → r (.int i) (.int j) H Q) (ha : PE X a (tN ca)) (hb : PE X b (tN cb)) (hm : behindInMarks o b = false) :
    PT X (.Compare a [o] [b] pos) (tNt fun x y z σ => (ca x y z σ).bind fun i => (cb x y z σ).map fun j => f i j) :=
  pt_imp (pt_cmpR hr ha hb hm) fun σ H Q ⟨a, l, x, y, z, r', h1, h2, h3, q⟩ => by
    dsimp only at h3
    cases q1 : ca x y z σ with
    | none => rw [q1] at h3; cases h3
    | some i =>
    cases q2 : cb x y z σ with
    | none => rw [q1, q2] at h3; cases h3
    | some j =>
    rw [q1, q2] at h3
    have h3 : some (f i j) = some r' := h3
    cases h3
    exact ⟨a, l, x, y, z, i, h1, h2, q1, a, l, x, y, z, j, h1, h2, q2, hq _ _ _ _ ⟨_, rfl, q⟩⟩
end
end
end CT

namespace CT
open PySem PySem.Spec PyProof.Rows L2
/-! ### the bag -/
def takeV (x : Int) (y : Int) (many : Int) : Int × Int :=
  if 0 < x then (x % many, x / many)
  else
    let begin := ((y + 1) * 39373) % 1000000007
    let second := ((begin * begin) % 998244353 * 30011) % 998244353
    ((second / 7) % many, x)
def cellAt (cs : List Int) (z : Int) : Int := ((cutL cs (some z) none) ++ [0]).headD 0
def takeS (x y z : Int) (cs : List Int) (many : Int) : Int × Int × Int × Int :=
  if x = 0 then
    let cell := cellAt cs z
    let x1 := if 10 ^ 18 ≤ cell then cell else x
    let y1 := (y * 48271 + cell % 2147483647 + 7919 * (z + 1)) % 2147483647
    let r := takeV x1 y1 many
    (r.1, r.2, y1, z + 1)
  else
    let r := takeV x y many
    (r.1, r.2, y, z)
def takeF : List D → Mem → Res D
  | [.obj n, .int many], M => match M[n]?, M[n + 1]? with
    | some (.bag x y z), some (.cells cs) => if 0 < many ∧ many < 1073741824 ∧ cs.length ≤ 63 then .ok (.int (takeS x y z cs many).1) (M.set n (.bag (takeS x y z cs many).2.1 (takeS x y z cs many).2.2.1 (takeS x y z cs many).2.2.2)) else .stuck
    | _, _ => .stuck
  | _, _ => .stuck
def bagF : List D → Mem → Res D
  | [.scr ns], M => if ns.length ≤ 63 then .ok (.obj M.length) (M ++ [.bag 0 1234567891 0, .cells (ns.map fun i => if i < 0 then -i else i)]) else .stuck
  | _, _ => .stuck
/-- the bag at the heap H -/
structure BagAt (β : List Addr) (H0 : Hp) (M : Mem) (n : Nat) (cs : List Int) (a l : Addr) (x y z : Int) (H : Hp) : Prop where
  ha : β[n]? = some a
  hl : β[n + 1]? = some l
  hc : M[n + 1]? = some (.cells cs)
  hn : n < M.length
  ext : Ext β H0 β H
  mem : RepM β H (M.set n (.bag x y z))
section
variable {β : List Addr} {H0 H : Hp} {M : Mem} {n : Nat} {cs : List Int} {a l : Addr} {x y z x' y' z' : Int}
theorem BagAt.bag (b : BagAt β H0 M n cs a l x y z H) : H a = some (.lst [.int x, .int y, .int z, .ref l]) := by
  have h : (M.set n (.bag x y z))[n]? = some (.bag x y z) := List.getElem?_set_self b.hn
  obtain ⟨l', h1, h2⟩ := b.mem.at_ n a _ b.ha h
  rw [b.hl] at h2; cases h2
  exact h1
theorem BagAt.cell (b : BagAt β H0 M n cs a l x y z H) : H l = some (.lst (cs.map V.int)) := by
  have h : (M.set n (.bag x y z))[n + 1]? = some (.cells cs) := by rw [List.getElem?_set_ne (by omega)]; exact b.hc
  exact b.mem.at_ (n + 1) l _ b.hl h
theorem BagAt.new {p : Addr} {o : HO} (b : BagAt β H0 M n cs a l x y z H) (hp : H p = none) : BagAt β H0 M n cs a l x y z (upd H p o) :=
  ⟨b.ha, b.hl, b.hc, b.hn, b.ext.trans (Ext.new hp), b.mem.new hp⟩
theorem BagAt.upd (b : BagAt β H0 M n cs a l x y z H) : BagAt β H0 M n cs a l x' y' z' (upd H a (.lst [.int x', .int y', .int z', .ref l])) := by
  have ma : a ∈ β := List.mem_of_getElem? b.ha
  have e : Ext β H β (L2.upd H a (.lst [.int x', .int y', .int z', .ref l])) := by
    refine ⟨⟨[], by simp, by simp⟩, fun c o q n t i => ?_, fun c q => ?_, fun t p hp => tab_write b.bag (fun ps z => by cases z) (fun c q z => codeO_lst _ z.symm) (t p hp)⟩
    · have : c ≠ a := fun z => n (z ▸ ma)
      rw [upd_ne this]; exact q
    · by_cases z : c = a
      · subst z; rw [upd_same]; simp
      · rw [upd_ne z]; exact q
  refine ⟨b.ha, b.hl, b.hc, b.hn, b.ext.trans e, by rw [List.length_set, b.mem.len, List.length_set], b.mem.nd, fun m c mo h1 h2 => ?_⟩
  by_cases hm : n = m
  · subst hm
    rw [List.getElem?_set_self b.hn] at h2
    rw [b.ha] at h1
    cases h1; cases h2
    exact ⟨l, upd_same, b.hl⟩
  · have hca : c ≠ a := fun z => by
      subst z
      exact hm ((List.getElem?_inj (List.getElem?_eq_some_iff.mp b.ha).1 b.mem.nd).mp (b.ha.trans h1.symm))
    rw [List.getElem?_set_ne hm] at h2
    have h3 : (M.set n (.bag x y z))[m]? = some mo := by rw [List.getElem?_set_ne hm]; exact h2
    have q := b.mem.at_ m c mo h1 h3
    cases mo with
    | bag x2 y2 z2 =>
      obtain ⟨l2, q1, q2⟩ := q
      exact ⟨l2, by rw [upd_ne hca]; exact q1, q2⟩
    | cells ds =>
      show L2.upd H a _ c = _
      rw [upd_ne hca]; exact q
end
theorem cutV_cells (cs : List Int) (z : Int) : ∃ v, atI (cutV (cs.map V.int) (some z) none ++ [V.int 0]) 0 = some v ∧ v = .int (cellAt cs z) := by
  have e : cutV (cs.map V.int) (some z) none = (cutL cs (some z) none).map V.int := by
    unfold cutV cutL
    rw [List.length_map, ← List.map_drop, ← List.map_take]
  rw [e]
  unfold cellAt
  cases cutL cs (some z) none with
  | nil => exact ⟨_, rfl, rfl⟩
  | cons c r =>
    refine ⟨.int c, ?_, rfl⟩
    exact atI_nat (j := 0) rfl
end CT
namespace CT
open PySem PySem.Spec PyProof.Rows L2
def scC (N P : List Str) (sc : Scope) : Bool :=
  decide (sc.kind = .function) && !sc.isCoroutine && !sc.isGenerator && decide N.Nodup && decide (N.take P.length = P) && P.all (fun x => decide (sc.names.lookup x = some .local) || decide (sc.names.lookup x = some .cell)) && sc.names.all (fun y => !decide (y.2 = .free))
theorem fnScope_by' {N P : List Str} {sc : Scope} (h : scC N P sc = true) : FnScope N P sc := by
  unfold scC at h
  simp only [Bool.and_eq_true, Bool.not_eq_true', decide_eq_true_eq, List.all_eq_true, Bool.or_eq_true, decide_eq_false_iff_not] at h
  obtain ⟨⟨⟨⟨⟨⟨h1, h2⟩, h3⟩, h4⟩, h5⟩, h6⟩, h7⟩ := h
  exact ⟨h1, h2, h3, h4, h5, h6, h7⟩
end CT
namespace CT
open PySem PySem.Spec PyProof.Rows L2
/-- behind the drawing of a cell -/
def tTail : TS := fun Z σ H => ∃ β H0 M n cs a l x y z many c2 c3, σ = [some (.ref a), some (.int many), c2, c3, none, none, none] ∧ BagAt β H0 M n cs a l x y z H ∧ 0 < many ∧ many < 1073741824 ∧
  ∀ H', BagAt β H0 M n cs a l (takeV x y many).2 y z H' → Z.rt (.int (takeV x y many).1) H'
def y1Of (y cell z : Int) : Int := (y * 48271 + cell % 2147483647 + 7919 * (z + 1)) % 2147483647
/-- the drawing of a cell -/
def tDraw : TS := fun Z σ H => ∃ β H0 M n cs a l x y z many, σ = [some (.ref a), some (.int many), none, none, none, none, none] ∧ BagAt β H0 M n cs a l x y z H ∧ cs.length ≤ 63 ∧
  ∀ H' c2 c3, BagAt β H0 M n cs a l (if 10 ^ 18 ≤ cellAt cs z then cellAt cs z else x) (y1Of y (cellAt cs z) z) (z + 1) H' → Z.nx [some (.ref a), some (.int many), c2, c3, none, none, none] H'
theorem cut_len (cs : List Int) (z : Int) : (cutV (cs.map V.int) (some z) none).length ≤ cs.length := by
  unfold cutV
  rw [List.length_take, List.length_drop, List.length_map]
  omega
end CT
namespace CT
open PySem PySem.Spec PyProof.Rows L2
def tStir : TS := fun Z σ H => ∃ β H0 M n cs a l x y z many c, σ = [some (.ref a), some (.int many), some (.int c), none, none, none, none] ∧ BagAt β H0 M n cs a l x y z H ∧
  ∀ H' c3, BagAt β H0 M n cs a l x ((y * 48271 + c % 2147483647 + 7919 * z) % 2147483647) z H' → Z.nx [some (.ref a), some (.int many), some (.int c), c3, none, none, none] H'
end CT
namespace CT
open PySem PySem.Spec PyProof.Rows L2
/-! ### the making of the bag -/
theorem compL_abs (f : D → Mem → Res (Option D)) (M : Mem) (hf : ∀ i : Int, f (.int i) M = .ok (some (.int (if i < 0 then -i else i))) M) : ∀ (ns : List Int) (n : Nat), n + ns.length ≤ sizeLine → compL f (ns.map .int) n M = .ok (ns.map fun i => .int (if i < 0 then -i else i)) M
  | [], n, _ => rfl
  | i :: ns, n, h => by
    simp only [List.map_cons, compL, hf]
    rw [if_pos (by simp only [List.length_cons] at h; omega), compL_abs f M hf ns (n + 1) (by simp only [List.length_cons] at h; omega)]
    rfl
def bagComp : IE := .comp (.blt .abs [.var 1]) (.nm 1) [("cell", 1)] .any [.slice (.var 0) [] [.int 63]] []
theorem bagComp_sem {Γ : Fns} {Cn : Str → Option D} {ns : List Int} {M : Mem} (h : ns.length ≤ 63) : semE Γ Cn bagComp (startG 2 [.scr ns]) M = .ok (.lst (ns.map fun i => .int (if i < 0 then -i else i))) M := by
  have hc : cutL ns none (some 63) = ns := by
    unfold cutL
    rw [show HT.sIx ns.length 0 none = 0 from rfl, show HT.sIx ns.length ns.length (some 63) = min 63 ns.length from HT.sIx_nat ns.length ns.length 63, List.drop_zero, Nat.sub_zero]
    exact List.take_of_length_le (by omega)
  have hz : sizeLine ≥ 1000 := by decide
  have e : semEs Γ Cn [.slice (.var 0) [] [.int 63]] (startG 2 [.scr ns]) M = .ok [.lst (ns.map .int)] M := by
    show ((semE Γ Cn (.slice (.var 0) [] [.int 63]) (startG 2 [.scr ns]) M).bind fun x M1 => _) = _
    have : semE Γ Cn (.slice (.var 0) [] [.int 63]) (startG 2 [.scr ns]) M = .ok (.lst ((cutL ns none (some 63)).map .int)) M := rfl
    rw [this, hc]
    rfl
  unfold bagComp
  simp only [semE]
  rw [e]
  simp only [Res.bind, srcD]
  rw [compL_abs _ M (fun i => rfl) ns 0 (by omega)]
section
variable {P : Program} {w : World} {K : PySem.W.Frag} {mg : Str → Option Value} {base : Heap} {T : Tb}
theorem Reps.to_ints {β : List Addr} {A : Addr → Prop} {H : Hp} : ∀ {ns : List Int} {vs : List V}, Reps K β A H (ns.map D.int) vs → vs = ns.map V.int
  | [], _, h => by simpa only [List.map_nil, Reps] using h
  | n :: ns, _, h => by
    simp only [List.map_cons, Reps] at h
    obtain ⟨v, r, rfl, h1, h2⟩ := h
    have h1 : v = .int n := by simpa only [Rep] using h1
    rw [h1, h2.to_ints]; rfl
theorem bag_made {β β' : List Addr} {A : Addr → Prop} {H H' : Hp} {M : Mem} {cs : List Int} {l p : Addr} (e : Ext β H β' H') (m : RepM β' H' M) (hl : H l = none) (o : Own K β' A H' (.lst (cs.map D.int)) l) (hp : H' p = none) :
    Ext β H (β' ++ [p, l]) (upd H' p (.lst [.int 0, .int 1234567891, .int 0, .ref l])) ∧ RepM (β' ++ [p, l]) (upd H' p (.lst [.int 0, .int 1234567891, .int 0, .ref l])) (M ++ [.bag 0 1234567891 0, .cells cs]) ∧ (β' ++ [p, l])[M.length]? = some p := by
  obtain ⟨nl, vs, hH, r⟩ := o
  have hv := r.to_ints
  subst hv
  have lp : l ≠ p := fun z => by rw [z, hp] at hH; cases hH
  have np : p ∉ β' := fun z => m.live z hp
  have e2 : Ext β H β' (upd H' p (.lst [.int 0, .int 1234567891, .int 0, .ref l])) := e.trans (Ext.new hp)
  refine ⟨⟨?_, e2.keep, e2.dom, e2.tab⟩, ⟨?_, ?_, fun n a mo h1 h2 => ?_⟩, ?_⟩
  · obtain ⟨l0, rfl, h0⟩ := e.pre
    refine ⟨l0 ++ [p, l], by simp, fun b hb => ?_⟩
    rcases List.mem_append.mp hb with hb | hb
    · exact h0 b hb
    · simp only [List.mem_cons, List.not_mem_nil, or_false] at hb
      rcases hb with z | z
      · rw [z]; exact e.back hp
      · rw [z]; exact hl
  · rw [List.length_append, List.length_append, m.len]; rfl
  · rw [List.nodup_append]
    refine ⟨m.nd, by simp [Ne.symm lp], fun a ha b hb => ?_⟩
    simp only [List.mem_cons, List.not_mem_nil, or_false] at hb
    rcases hb with z | z
    · rw [z]; exact fun q => np (q ▸ ha)
    · rw [z]; exact fun q => nl (q ▸ ha)
  · have ml := m.len
    by_cases hn : n < M.length
    · rw [List.getElem?_append_left (by omega)] at h1 h2
      have q := m.at_ n a mo h1 h2
      have ha : a ≠ p := fun z => np (z ▸ List.mem_of_getElem? h1)
      cases mo with
      | bag x y z =>
        obtain ⟨l2, q1, q2⟩ := q
        exact ⟨l2, by rw [upd_ne ha]; exact q1, by rw [List.getElem?_append_left (List.getElem?_eq_some_iff.mp q2).1]; exact q2⟩
      | cells ds =>
        show upd H' p _ a = _
        rw [upd_ne ha]; exact q
    · rw [List.getElem?_append_right (by omega)] at h1 h2
      rw [ml] at h1
      have hk : n - M.length = 0 ∨ n - M.length = 1 ∨ 2 ≤ n - M.length := by omega
      rcases hk with hk | hk | hk
      · rw [hk] at h1 h2
        cases h1; cases h2
        refine ⟨l, upd_same, ?_⟩
        have : n = M.length := by omega
        rw [this, List.getElem?_append_right (by omega), ml]
        simp
      · rw [hk] at h1 h2
        cases h1; cases h2
        show upd H' p _ l = _
        rw [upd_ne lp]; exact hH
      · rw [List.getElem?_eq_none (by simp; omega)] at h2
        cases h2
  · rw [List.getElem?_append_right (by rw [m.len]; exact Nat.le_refl _), m.len, Nat.sub_self]; rfl
end
end CT
namespace CT
open PySem PySem.Spec PyProof.Rows L2
theorem repF_obj {K : PySem.W.Frag} {β : List Addr} {A : Addr → Prop} {H0 H : Hp} {n : Nat} {q : Addr} (h : β[n]? = some q) : RepF (if false = true then .fr else .pl) K β A H0 H (.obj n) (.ref q) := by
  show Rep K β A H (.obj n) (.ref q)
  simp only [Rep]
  exact ⟨q, h, rfl⟩
end CT

namespace CT
open PySem PySem.Spec PyProof.Rows L2
structure DefAt (K : PySem.W.Frag) (x : Str) (st : Stmt) : Prop where
  ex : ∃ f fd, PySem.W.nsIn K mainGlobals x = some (some (.ref f)) ∧ Fun K x x st f fd
theorem defAt {K : PySem.W.Frag} {x : Str} {st : Stmt} {f : Addr} {oc : Value} {od an : Option Addr} {osl : Array (Option Value)} {kV doc pm cdv ct : Value} (a : PySem.W.nsIn K mainGlobals x = some (some (.ref f)))
    (l : K.lookup f = some ⟨oc, od, .func (PySem.W.fnOf x x (defArgs st) (defBody st) (defScope st) .none kV doc pm an cdv ct), osl⟩) (c : PySem.W.codeIn K cdv x = true) (k : PySem.W.keepIn K (.ref f) = true) : DefAt K x st :=
  ⟨_, _, a, fun_mk l c k⟩
/-- what is bound to a constant -/
structure ConAt (K : PySem.W.Frag) (x : Str) (d : D) : Prop where
  ex : ∃ u v, PySem.W.nsIn K mainGlobals x = some (some u) ∧ RelV v u ∧ ∀ β A H, Rep K β A H d v
theorem con_int {K : PySem.W.Frag} {x : Str} {i : Int} {t : Tok} (a : PySem.W.nsIn K mainGlobals x = some (some (.int i t))) : ConAt K x (.int i) := ⟨_, .int i, a, ⟨t, rfl⟩, fun _ _ _ => rep_int⟩
theorem con_str {K : PySem.W.Frag} {x : Str} {s : Str} {t : Tok} (h : PyData.strOk s = true) (a : PySem.W.nsIn K mainGlobals x = some (some (.str s t))) : ConAt K x (.str s) := ⟨_, .str s, a, ⟨t, rfl⟩, fun _ _ _ => rep_str h⟩
/-- a constant of a frozen tuple -/
inductive ConV (K : PySem.W.Frag) : D → Value → Prop where
  | non : ConV K .non .none
  | bl (b : Bool) : ConV K (.bl b) (.bool b)
  | int (i : Int) (t : Tok) : ConV K (.int i) (.int i t)
  | str (s : Str) (t : Tok) (h : PyData.strOk s = true) : ConV K (.str s) (.str s t)
theorem ConV.rep {K : PySem.W.Frag} {d : D} {u : Value} (h : ConV K d u) : ∃ v, RelV v u ∧ ∀ β A H, Rep K β A H d v := by
  cases h with
  | non => exact ⟨.non, rfl, fun _ _ _ => rep_non⟩
  | bl b => exact ⟨.bl b, rfl, fun _ _ _ => rep_bl⟩
  | int i t => exact ⟨.int i, ⟨t, rfl⟩, fun _ _ _ => rep_int⟩
  | str s t h => exact ⟨.str s, ⟨t, rfl⟩, fun _ _ _ => rep_str h⟩
theorem con_vals {K : PySem.W.Frag} : ∀ {ds : List D} {us : List Value}, Paired (ConV K) ds us → ∃ vs, Vals vs us ∧ ∀ β A H, Reps K β A H ds vs
  | _, _, .nil => ⟨[], .nil, fun _ _ _ => Reps.nil⟩
  | _, _, .cons h r => by
    obtain ⟨v, h1, h2⟩ := h.rep
    obtain ⟨vs, h3, h4⟩ := con_vals r
    exact ⟨v :: vs, .cons h1 h3, fun β A H => Reps.cons (h2 β A H) (h4 β A H)⟩
theorem con_tup {K : PySem.W.Frag} {x : Str} {ds : List D} {a : Addr} {od : Option Addr} {its : Array Value} {n : Nat} {sl : Array (Option Value)} (h : PySem.W.nsIn K mainGlobals x = some (some (.ref a))) (l : K.lookup a = some ⟨.type "tuple", od, .seq its n, sl⟩)
    (p : Paired (ConV K) ds its.toList) (z : its.size ≤ sizeLine) : ConAt K x (.tup ds) := by
  obtain ⟨vs, h1, h2⟩ := con_vals p
  refine ⟨_, .ref a, h, rfl, fun β A H => ?_⟩
  simp only [Rep]
  exact ⟨a, vs, rfl, .inr ⟨_, its, n, l, rfl, rfl, z, h1⟩, h2 β A H⟩
section
variable {P : Program} {w : World} {K : PySem.W.Frag} {mg : Str → Option Value} {base h : Heap} {k : Nat} {Cn : Str → Option D} {XN : Str → Option (List Str)} {XS : Str → Str → Option Bool} {Wn : Str → Option WrD}
theorem fx_def {L : Tab} {x : Str} {st : Stmt} {N ps : List Str} {fr : Bool} {body : List IS} (X : K.In h) (G : h.Ns mainGlobals mg) (fx : Fx P w K mg base (tbl Cn XN XS Wn L) (gam L) k) (d : DefAt K x st) (b : ∀ f fd, Fun K x x st f fd → Binds K fd ps [])
    (S : FnScope N ps (defScope st)) (hm : mSs (tbl Cn XN XS Wn L) N (defScope st) fr body (defBody st) = true) :
    Fx P w K mg base (tbl Cn XN XS Wn ((x, ps.length, fr, semF (gam L) Cn N.length fr body) :: L)) (gam ((x, ps.length, fr, semF (gam L) Cn N.length fr body) :: L)) (k + 1) := by
  obtain ⟨f, fd, a, F⟩ := d.ex
  exact fx_ir fx F (PySem.W.mg_of X G a) (b f fd F) S hm
/-- the law's promise; cs: code objects and their tables -/
def spLaw (K : PySem.W.Frag) (cs : List (Addr × Addr)) : Sp := fun vs H Q _ => ∃ (a : Addr) (ns : List Int), vs = [.ref a] ∧ SqL K H a (ns.map V.int) ∧ (∀ p ∈ cs, H p.2 = some (.tbl #[])) ∧ ns.length ≤ 63 ∧ ∀ H', Q (.bl true) H'
theorem law_sp {T : Tb} {F : List D → Mem → Res D} {cs : List (Addr × Addr)} (hF : ∀ ns : List Int, ns.length ≤ 63 → ∃ M, F [.scr ns] [] = .ok (.bl true) M) (hcs : ∀ p ∈ lamTabs, ∃ c, (c, p.1) ∈ cs) : ∀ vs H Q E, spLaw K cs vs H Q E → spOf mg T K 1 false F vs H Q E := by
  rintro vs H Q E ⟨a, ns, rfl, hS, hO, hl, q⟩
  refine ⟨fun p hp => ?_, [], fun _ => False, [], [.scr ns], ⟨rfl, List.nodup_nil, fun n a mo z => by simp at z⟩, fun a z => z.elim, ?_, rfl, ?_⟩
  · obtain ⟨c, hc⟩ := hcs p hp
    exact LamX.TabS.nil (hO _ hc)
  · refine Reps.one ?_
    simp only [Rep]
    refine ⟨a, rfl, ?_⟩
    rcases hS with hS | hS
    · rcases hS with hS | ⟨o, hS⟩
      · exact .inr ⟨hS, by simp, fun z => z⟩
      · exact .inl (.inl ⟨⟨o, hS⟩, by simp⟩)
    · exact .inl (.inr hS)
  · obtain ⟨M, e⟩ := hF ns hl
    rw [e]
    intro β' v H' _ _ r
    have := repW_bl (RepF.weak r)
    subst this
    exact q H'
theorem cx_false {P : Program} {w : World} {H : Hp} {s : Shared} {e : Value} {s' : Shared} (h : L2.CX P w [] H s (fun _ _ _ => False) e s') : False := by
  obtain ⟨_, _, _, _, _, _, _, _, _, _, _, _, z⟩ := h
  exact z.elim
def ConsAt (K : PySem.W.Frag) : List (Str × D) → Prop
  | [] => True
  | p :: r => ConAt K p.1 p.2 ∧ ConsAt K r
theorem ConsAt.get : ∀ {l : List (Str × D)} {x : Str} {d : D}, ConsAt K l → l.lookup x = some d → ConAt K x d
  | [], _, _, _, e => by simp at e
  | (y, c) :: r, x, d, h, e => by
    rw [List.lookup_cons] at e
    split at e
    · rename_i q
      have := eq_of_beq q
      subst this
      cases e
      exact h.1
    · exact ConsAt.get h.2 e
def NoneAt (K : PySem.W.Frag) : List Str → Prop
  | [] => True
  | x :: r => PySem.W.nsIn K mainGlobals x = some none ∧ NoneAt K r
theorem NoneAt.get : ∀ {l : List Str} {x : Str}, NoneAt K l → x ∈ l → PySem.W.nsIn K mainGlobals x = some none
  | [], _, _, h => by cases h
  | y :: r, x, h, hx => by
    rcases List.mem_cons.mp hx with e | e
    · rw [e]; exact h.1
    · exact NoneAt.get h.2 e
/-! ### classes of errors -/
def clsBody : Stmt → List Stmt
  | .ClassDef _ _ _ body _ _ _ _ _ _ _ => body
  | _ => []
def isInit : Stmt → Bool
  | .FunctionDef n _ _ _ _ _ _ _ _ _ => n == ("__init__" : Str)
  | _ => false
def initOf (s : Stmt) : Stmt := ((clsBody s).find? isInit).getD (.Pass ⟨0, 0, 0, 0⟩)
structure XcAt (P : Program) (K : PySem.W.Frag) (x : Str) (fs : List Str) : Prop where
  ex : ∃ C fI, PySem.W.nsIn K mainGlobals x = some (some (.ref C)) ∧ PySem.W.nsIn K mainGlobals "super" = some none ∧ ∀ mg : Str → Option Value, mg x = some (.ref C) → mg "super" = none → CTX.XcTxt P K mg x C fI fs
def NoF (K : PySem.W.Frag) (C : Addr) : List Str → Prop
  | [] => True
  | f :: r => PySem.W.findIn K (.ref C) f = some none ∧ NoF K C r
theorem NoF.get {C : Addr} : ∀ {l : List Str}, NoF K C l → ∀ f ∈ l, PySem.W.findIn K (.ref C) f = some none
  | [], _, _, h => by cases h
  | y :: r, h, x, hx => by
    rcases List.mem_cons.mp hx with e | e
    · rw [e]; exact h.1
    · exact NoF.get h.2 x e
/-- what stands in the text alone -/
def initOk (P : Program) (fs : List Str) (st : Stmt) : Bool :=
  CTX.initB fs (defBody st) && decide (((defArgs st).posonlyargs ++ (defArgs st).args).head?.map (·.arg) = some ("self" : Str)) && decide ((defScope st).names.lookup ("super" : Str) = some .globalImplicit) && decide ((defScope st).names.lookup ("__class__" : Str) = some .free) &&
    ((("self" : Str) :: fs).all fun f => decide ((defScope st).names.lookup f = some .local)) && decide ((defScope st).kind = .function) && !(defScope st).isCoroutine && !(defScope st).isGenerator && ((defScope st).names.all fun y => !decide (y.2 = .cell)) &&
    !(P.main.scope.names.lookup ("super" : Str)).isSome && !fs.isEmpty && decide ((("self" : Str) :: fs).Nodup) && ((("self" : Str) :: fs).all fun f => !(f == ("__debug__" : Str))) && decide (fs.length ≤ 20)
theorem xcAt {x qual : Str} {fs : List Str} {C fI cda cc N : Addr} {st : Stmt} {nm q : Str} {bs bm : List Value} {sn : List Str} {sub : List Value} {ab : Bool} {col : Option Bool} {dd : Option Addr} {m0 m1 m2 m3 m5 : Option Value} {od an cdd cld : Option Addr} {osl ccs csl : Array (Option Value)} {oc kV dc pm ct ccl cl : Value} {vs : Array Value} {file : Str} {tf : Tok}
    (aC : PySem.W.nsIn K mainGlobals x = some (some (.ref C))) (xL : K.lookup C = some (excClassObj nm q C N bs bm true sn sub ab col dd m0 m1 m2 m3 m5 "ValueError.__new__")) (rv : PySem.HandSPX.refsVE bm = true)
    (sa : PySem.W.findIn K (.ref C) "__setattr__" = some (some (.builtin "object.__setattr__"))) (ga : PySem.W.findIn K (.ref C) "__getattribute__" = some (some (.builtin "BaseException.__getattribute__"))) (gg : PySem.W.findIn K (.ref C) "__getattr__" = some none) (nb : NoF K C fs)
    (a1 : PySem.W.findIn K (.ref C) "__init__" = some (some (.ref fI))) (t1 : PySem.W.typeIn K (.ref fI) = some (.type "function"))
    (l1 : K.lookup fI = some ⟨oc, od, .func (PySem.W.ksFn "__init__" qual (defArgs st) (defBody st) (defScope st) .none kV dc pm an (.ref cda) ct cc), osl⟩) (c1 : PySem.W.codeIn K (.ref cda) qual = true)
    (kC : PySem.W.keepIn K (.ref C) = true) (eC : PySem.W.subIn K (.ref C) (.type "BaseException") = some true) (vC : PySem.W.subIn K (.ref C) (.type "ValueError") = some true) (tC : PySem.W.typeIn K (.ref C) = some (.type "type")) (hC : PySem.W.hasDictIn K C = true) (mC : PySem.W.mroIn K C (.ref C) = some true)
    (su : PySem.W.ks_superIn K C C "__init__" = some (some (.builtin "ValueError.__init__"))) (nsu : PySem.W.nsIn K mainGlobals "super" = some none) (op : PySem.W.nsIn K cStatics "thirdparty.any" = some none)
    (cd : K.lookup cda = some ⟨ccl, cdd, .fields vs, ccs⟩) (hv : vs[2]? = some (.str file tf)) (hfile : ((P.main.file : Str) == file) = true) (ce : K.lookup cc = some ⟨cl, cld, .cell (some (.ref C)), csl⟩) (hst : initOk P fs st = true)
    (hb : ∀ us : List Value, us.length = fs.length + 1 → bindArgs (PySem.W.ksFn "__init__" qual (defArgs st) (defBody st) (defScope st) .none kV dc pm an (.ref cda) ct cc) ⟨us, []⟩ = pure ((("self" : Str) :: fs).zip us)) : XcAt P K x fs := by
  unfold initOk at hst
  simp only [Bool.and_eq_true, decide_eq_true_eq, Bool.not_eq_true', List.all_eq_true, decide_eq_false_iff_not] at hst
  obtain ⟨⟨⟨⟨⟨⟨⟨⟨⟨⟨⟨⟨⟨h1, h2⟩, h3⟩, h4⟩, h5⟩, h6⟩, h7⟩, h8⟩, h9⟩, h10⟩, h11⟩, h12⟩, h13⟩, h14⟩ := hst
  obtain ⟨ar, har, harn⟩ := Option.map_eq_some_iff.mp h2
  exact ⟨C, fI, aC, nsu, fun mg g s => {
    gC := g, cls := ⟨nm, q, N, bs, bm, sn, sub, ab, col, dd, m0, m1, m2, m3, m5, xL, rv⟩, sa := sa, ga := ga, gg := gg, noN := nb.get, iC := a1, tC := t1, kC := kC, exC := eC, veC := vC, tyC := tC, hdC := hC, mroC := mC, sup := su, nsup := s, opq := op, top := h10,
    fne := fun z => by rw [z] at h11; cases h11
    nd := h12, ndb := h13, fl := h14
    fn := ⟨qual, defArgs st, defBody st, defScope st, .none, kV, dc, pm, ct, oc, an, od, osl, cc, cda, ar, vs, file, tf, ccl, cl, cdd, cld, ccs, csl, l1, c1, h1, har, harn, cd, hv, hfile, ce, h3, h4, h5, h6, h7, h8, fun y hy => h9 y hy, hb⟩ }⟩
def XcsAt (P : Program) (K : PySem.W.Frag) : List (Str × List Str) → Prop
  | [] => True
  | p :: r => ((p.1 == ("__debug__" : Str)) = false ∧ XcAt P K p.1 p.2) ∧ XcsAt P K r
theorem XcsAt.get : ∀ {l : List (Str × List Str)} {x : Str} {d : List Str}, XcsAt P K l → l.lookup x = some d → (x == ("__debug__" : Str)) = false ∧ XcAt P K x d
  | [], _, _, _, e => by simp at e
  | (y, c) :: r, x, d, h, e => by
    rw [List.lookup_cons] at e
    split at e
    · rename_i q
      have := eq_of_beq q
      subst this
      cases e
      exact h.1
    · exact XcsAt.get h.2 e
/-- which clause takes which error -/
structure XmAt (K : PySem.W.Frag) (c h : Str) : Prop where
  ex : ∃ C Ch, PySem.W.nsIn K mainGlobals c = some (some (.ref C)) ∧ PySem.W.nsIn K mainGlobals h = some (some (.ref Ch)) ∧ PySem.W.exmOne K (.ref C) (.ref Ch) = some (decide (c = h))
theorem xmAt {c h : Str} {C Ch : Addr} {b : Bool} (a : PySem.W.nsIn K mainGlobals c = some (some (.ref C))) (a' : PySem.W.nsIn K mainGlobals h = some (some (.ref Ch))) (h1 : PySem.W.subIn K (.ref Ch) (.type "BaseException") = some true) (h2 : PySem.W.isClsIn K Ch = true) (h3 : PySem.W.typeIn K (.ref Ch) = some (.type "type"))
    (h4 : PySem.W.subIn K (.ref C) (.ref Ch) = some b) (hb : decide (c = h) = b) : XmAt K c h := by
  refine ⟨C, Ch, a, a', ?_⟩
  have e1 : (PySem.W.subIn K (.ref Ch) (.type "BaseException") == some true) = true := by rw [h1] <;> rfl
  have e2 : ((PySem.W.clsIn K Ch).isSome && PySem.W.typeIn K (.ref Ch) == some (.type "type")) = true := by
    have h2' : (PySem.W.clsIn K Ch).isSome = true := h2
    rw [h2', h3] <;> rfl
  show (if (PySem.W.subIn K (.ref Ch) (.type "BaseException") == some true) = true then (if ((PySem.W.clsIn K Ch).isSome && PySem.W.typeIn K (.ref Ch) == some (.type "type")) = true then PySem.W.subIn K (.ref C) (.ref Ch) else none) else none) = _
  rw [if_pos e1, if_pos e2, h4, hb]
def XmsAt (K : PySem.W.Frag) : List (Str × Str) → Prop
  | [] => True
  | p :: r => XmAt K p.1 p.2 ∧ XmsAt K r
theorem XmsAt.get : ∀ {l : List (Str × Str)} {p : Str × Str}, XmsAt K l → p ∈ l → XmAt K p.1 p.2
  | [], _, _, h => by cases h
  | y :: r, p, h, hp => by
    rcases List.mem_cons.mp hp with e | e
    · rw [e]; exact h.1
    · exact XmsAt.get h.2 e
/-! ### defs that try what they are given -/
structure WrAt (K : PySem.W.Frag) (XN : Str → Option (List Str)) (x : Str) (W : WrD) : Prop where
  ex : ∃ st a Ng, DefAt K x st ∧ (∀ f fd, Fun K x x st f fd → Binds K fd [a] []) ∧ FnScope Ng [a] (defScope st) ∧ mWr XN Ng (defScope st) a W (defBody st) = true
def WrsAt (K : PySem.W.Frag) (XN : Str → Option (List Str)) : List (Str × WrD) → Prop
  | [] => True
  | p :: r => WrAt K XN p.1 p.2 ∧ WrsAt K XN r
theorem WrsAt.get : ∀ {l : List (Str × WrD)} {x : Str} {d : WrD}, WrsAt K XN l → l.lookup x = some d → WrAt K XN x d
  | [], _, _, _, e => by simp at e
  | (y, c) :: r, x, d, h, e => by
    rw [List.lookup_cons] at e
    split at e
    · rename_i q
      have := eq_of_beq q
      subst this
      cases e
      exact h.1
    · exact WrsAt.get h.2 e
theorem lookup_key {α : Type} : ∀ {l : List (Str × α)} {x : Str} {d : α}, l.lookup x = some d → x ∈ l.map (·.1)
  | [], _, _, e => by simp at e
  | (y, c) :: r, x, d, e => by
    rw [List.lookup_cons] at e
    split at e
    · rename_i q
      have := eq_of_beq q
      subst this
      simp
    · exact List.mem_cons_of_mem _ (lookup_key e)
/-- whether the class c is one of h's -/
def IsAt (K : PySem.W.Frag) (h c : Str) (b : Bool) : Prop := ∃ C cv, PySem.W.nsIn K mainGlobals c = some (some (.ref C)) ∧ ExcC K C ∧ PySem.W.kitOne K (.ref C) cv = some b ∧
  ((∃ Ch, PySem.W.nsIn K mainGlobals h = some (some (.ref Ch)) ∧ cv = .ref Ch) ∨ (PySem.W.nsIn K mainGlobals h = some none ∧ ∃ t, bootBuiltins h = some (.type t) ∧ cv = .type t))
def IssAt (K : PySem.W.Frag) : List (Str × Str × Bool) → Prop
  | [] => True
  | q :: r => IsAt K q.1 q.2.1 q.2.2 ∧ IssAt K r
def xsOf (l : List (Str × Str × Bool)) (h c : Str) : Option Bool := (l.find? fun q => decide (q.1 = h) && decide (q.2.1 = c)).map (·.2.2)
theorem IssAt.get {K : PySem.W.Frag} : ∀ {l : List (Str × Str × Bool)} {h c : Str} {b : Bool}, IssAt K l → xsOf l h c = some b → IsAt K h c b
  | [], _, _, _, _, e => by simp [xsOf] at e
  | q :: r, h, c, b, ⟨a, s⟩, e => by
    unfold xsOf at e
    rw [List.find?_cons] at e
    split at e
    · rename_i z
      simp only [Bool.and_eq_true, decide_eq_true_eq] at z
      obtain ⟨rfl, rfl⟩ := z
      cases e
      exact a
    · exact IssAt.get s e
/-- an exception class without __init__ -/
def Ex0At (K : PySem.W.Frag) (c : Str) : Prop := (c == ("__debug__" : Str)) = false ∧ ∃ C bm B n i, PySem.W.nsIn K mainGlobals c = some (some (.ref C)) ∧ PySem.W.keepIn K (.ref C) = true ∧ ExcBaseFacts B n i bm ∧ PySem.W.excIn K C bm n = true
def Ex0sAt (K : PySem.W.Frag) : List Str → Prop
  | [] => True
  | c :: r => Ex0At K c ∧ Ex0sAt K r
theorem Ex0sAt.get {K : PySem.W.Frag} : ∀ {l : List Str} {c : Str}, Ex0sAt K l → c ∈ l → Ex0At K c
  | [], _, _, h => by cases h
  | d :: l, c, ⟨a, s⟩, h => by
    rcases List.mem_cons.mp h with rfl | h
    · exact a
    · exact Ex0sAt.get s h
def xsAll (l : List (Str × Str × Bool)) (zs : List Str) (h c : Str) : Option Bool := if h = ("()" : Str) then (if c ∈ zs then some true else none) else xsOf l h c
theorem fx_base {cns : List (Str × D)} {xns : List (Str × List Str)} {wns : List (Str × WrD)} {xms : List (Str × Str)} {xss : List (Str × Str × Bool)} {zs : List Str} {sT sB : Stmt} (X : K.In h) (G : h.Ns mainGlobals mg) (hc : ConsAt K cns) (hz : NoneAt K bltNames) (hx : XcsAt P K xns) (hxm : XmsAt K xms) (hxs : IssAt K xss) (hz0 : Ex0sAt K zs) (hpairs : ∀ c ∈ xns.map (·.1), ∀ h ∈ xns.map (·.1), (c, h) ∈ xms) (hw : WrsAt K (fun x => xns.lookup x) wns)
    (dT : DefAt K "_law_take" sT) (dB : DefAt K "_law_bag" sB)
    (bT : ∀ f fd, Fun K "_law_take" "_law_take" sT f fd → Binds K fd ["bag", "many"] []) (bB : ∀ f fd, Fun K "_law_bag" "_law_bag" sB f fd → Binds K fd ["script"] [])
    (okT : ∀ (T : Tb) f fd, Fun K "_law_take" "_law_take" sT f fd → mg "int" = none → FnOk P w K mg base (L2.CX P w) 1 f fd ["bag", "many"] (spOf mg T K 2 false takeF))
    (okB : ∀ (T : Tb) f fd, Fun K "_law_bag" "_law_bag" sB f fd → (∀ x ∈ bltNames, mg x = none) → FnOk P w K mg base (L2.CX P w) 1 f fd ["script"] (spOf mg T K 1 false bagF)) :
    Fx P w K mg base (tbl (fun x => cns.lookup x) (fun x => xns.lookup x) (xsAll xss zs) (fun x => wns.lookup x) [("_law_take", 2, false, takeF), ("_law_bag", 1, false, bagF)]) (gam [("_law_take", 2, false, takeF), ("_law_bag", 1, false, bagF)]) 4 := by
  have hb : ∀ x ∈ bltNames, mg x = none := fun x hx => PySem.W.mg_none_of X G (hz.get hx)
  have f0 : Fx P w K mg base (tbl (fun x => cns.lookup x) (fun x => xns.lookup x) (xsAll xss zs) (fun x => wns.lookup x) []) (gam []) 2 := ⟨fun x d e => by
    obtain ⟨u, v, a, r, q⟩ := (hc.get e).ex
    exact ⟨u, v, PySem.W.mg_of X G a, r, q⟩, hb, fun x n fr z => (nomatch z), fun c names e => by
      obtain ⟨hd, xa⟩ := hx.get e
      obtain ⟨C, fI, a1, a2, a3⟩ := xa.ex
      exact ⟨Nat.le_refl _, hd, C, fI, a3 mg (PySem.W.mg_of X G a1) (PySem.W.mg_none_of X G a2)⟩, fun c h nc nh C Ch e1 e2 g1 g2 => by
      obtain ⟨C', Ch', a1, a2, a3⟩ := (hxm.get (hpairs c (lookup_key e1) h (lookup_key e2))).ex
      have z1 := g1.symm.trans (PySem.W.mg_of X G a1)
      have z2 := g2.symm.trans (PySem.W.mg_of X G a2)
      cases z1; cases z2
      exact a3, fun x W e => by
      obtain ⟨st, a, Ng, d, b, S, m⟩ := (hw.get e).ex
      obtain ⟨f, fd, q, F⟩ := d.ex
      exact ⟨st, f, fd, a, Ng, F, PySem.W.mg_of X G q, b f fd F, S, m⟩, ⟨fun c names e => by
      obtain ⟨hd, xa⟩ := hx.get e
      obtain ⟨C, fI, a1, a2, a3⟩ := xa.ex
      exact ⟨C, a1, PySem.W.mg_of X G a1⟩, fun h c b hn e => by
      unfold xsAll at e
      have e : (if h = ("()" : Str) then (if c ∈ zs then some true else none) else xsOf xss h c) = some b := e
      rw [if_neg hn] at e
      obtain ⟨C, cv, a1, a2, a3, a4⟩ := hxs.get e
      rcases a4 with ⟨Ch, q, rfl⟩ | ⟨q, t, q2, rfl⟩
      · exact ⟨C, .ref Ch, _, a1, a2, .inl ⟨Ch, PySem.W.mg_of X G q, rfl, rfl⟩, a3⟩
      · exact ⟨C, .ty t, _, a1, a2, .inr ⟨PySem.W.mg_none_of X G q, t, q2, rfl, rfl⟩, a3⟩, fun c b e => by
      have e : (if ("()" : Str) = "()" then (if c ∈ zs then some true else none) else xsOf xss "()" c) = some b := e
      rw [if_pos rfl] at e
      by_cases hc : c ∈ zs
      · obtain ⟨hd, C, bm, B, n, i, a1, a2, a3, a4⟩ := hz0.get hc
        exact ⟨C, bm, B, n, i, a1, PySem.W.mg_of X G a1, a2, hd, a3, a4⟩
      · rw [if_neg hc] at e; cases e⟩⟩
  obtain ⟨f, fd, a, F⟩ := dT.ex
  obtain ⟨f', fd', a', F'⟩ := dB.ex
  have f1 := fx_cons f0 rfl (PySem.W.mg_of X G a') F'.kp (bB _ _ F') ((okB _ _ _ F' hb).mono (by decide))
  exact fx_cons f1 rfl (PySem.W.mg_of X G a) F.kp (bT _ _ F) ((okT _ _ _ F (hb _ (by decide +kernel))).mono (by decide))
/-- the law's own def, where it makes lambdas -/
def tblL (T : Tb) (N : List Str) : Tb := { T with mL := fun s e y => mE T N true s e y }
theorem law_endL {l : PySem.W.OpenLaw} {fa f c Pt : Addr} {kk : Nat} {L : Tab} {st : Stmt} {N : List Str} {body : List IS} {oc kV doc pm ct : Value} {od an : Option Addr} {osl : Array (Option Value)} (X : K.In h) (G : h.Ns mainGlobals mg) (hfa : mg "law" = some (.ref fa))
    (a : PySem.W.nsIn K mainGlobals "law" = some (some (.ref f))) (lk : K.lookup f = some ⟨oc, od, .func (PySem.W.fnOf "law" "law" (defArgs st) (defBody st) (defScope st) .none kV doc pm an (.ref c) ct), osl⟩) (hcd : PySem.W.codeIn K (.ref c) "law" = true)
    (S : FnScope N ["script"] (defScope st)) (hm : mSs (tblL (tbl Cn XN XS Wn L) N) N (defScope st) false body (defBody st) = true) (hF : ∀ ns : List Int, ns.length ≤ 63 → ∃ M, semF (gam L) Cn N.length false body [.scr ns] [] = .ok (.bl true) M)
    (hb : ∀ (fd : FuncData), fd = PySem.W.fnOf "law" "law" (defArgs st) (defBody st) (defScope st) .none kV doc pm an (.ref c) ct → ∀ (s : Shared) (v : Value), BindsTo s fd ⟨[v], []⟩ [("script", v)])
    (hT : h.get? Pt = some { cls := .none, data := .fields #[] }) (nT : K.lookup Pt = none) (hC : PySem.W.codeHdIn K c Pt = true)
    (hq : lamTabs = [(Pt, ("law.<locals>.<lambda>" : Str))]) (hql : ∀ Lo : Addr, (envOfC "law" (defScope st) Lo f (.ref c)).qual ++ "<lambda>" = ("law.<locals>.<lambda>" : Str))
    (fx : ∀ base : Heap, K.In base → base.Ns mainGlobals mg → Fx l.prog w K mg base (tbl Cn XN XS Wn L) (gam L) kk) :
    LamX.LawAtS l w K (L2.CX l.prog w) (kk + 3) 63 "script" mg fa h := by
  have e := hfa.symm.trans (PySem.W.mg_of X G a)
  cases e
  refine ⟨_, [(c, Pt)], spLaw K [(c, Pt)], fun p hp => ?_, fun p hp => ?_, fun p hp => ?_, hb _ rfl, fun H a ns hl _ hH hS => ⟨a, ns, rfl, hS, hH, hl, fun _ => rfl⟩, fun base k1 k2 TB => ?_⟩
  · simp only [List.mem_cons, List.not_mem_nil, or_false] at hp; subst hp; exact hT
  · simp only [List.mem_cons, List.not_mem_nil, or_false] at hp; subst hp; exact nT
  · simp only [List.mem_cons, List.not_mem_nil, or_false] at hp; subst hp; exact PySem.W.codeHd_of_K X hC
  · have fx' := fx base k1 k2
    refine (fn_irL (Pt := Pt) (T := tblL (tbl Cn XN XS Wn L) N) lk hcd S (fun _ _ _ z => z) (fun Lo => ?_) (TB (c, Pt) (by simp)) hm ⟨fx'.con, fx'.blt, fx'.fn, fx'.xc, fx'.xm, fx'.wr, ⟨fx'.xx.cl, fx'.xx.is, fx'.xx.zero⟩⟩).imp (law_sp hF fun p hp => ?_)
    · rw [hql, hq]
      exact ⟨by simp, fun p hp _ => by simp only [List.mem_cons, List.not_mem_nil, or_false] at hp; rw [hp]⟩
    · rw [hq] at hp
      simp only [List.mem_cons, List.not_mem_nil, or_false] at hp
      exact ⟨c, by rw [hp]; simp⟩
/-- .. where it makes none -/
theorem law_end {l : PySem.W.OpenLaw} {fa : Addr} {kk : Nat} {L : Tab} {st : Stmt} {N : List Str} {body : List IS} (X : K.In h) (G : h.Ns mainGlobals mg) (hfa : mg "law" = some (.ref fa)) (d : DefAt K "law" st)
    (S : FnScope N ["script"] (defScope st)) (hm : mSs (tbl Cn XN XS Wn L) N (defScope st) false body (defBody st) = true) (hF : ∀ ns : List Int, ns.length ≤ 63 → ∃ M, semF (gam L) Cn N.length false body [.scr ns] [] = .ok (.bl true) M)
    (hb : ∀ fd f, Fun K "law" "law" st f fd → ∀ (s : Shared) (v : Value), BindsTo s fd ⟨[v], []⟩ [("script", v)]) (hq : lamTabs = [])
    (fx : ∀ base : Heap, K.In base → base.Ns mainGlobals mg → Fx l.prog w K mg base (tbl Cn XN XS Wn L) (gam L) kk) :
    LamX.LawAtS l w K (L2.CX l.prog w) (kk + 1) 63 "script" mg fa h := by
  obtain ⟨f, fd, a, F⟩ := d.ex
  have e := hfa.symm.trans (PySem.W.mg_of X G a)
  cases e
  exact ⟨fd, [], spLaw K [], fun p hp => (nomatch hp), fun p hp => (nomatch hp), fun p hp => (nomatch hp), hb fd _ F, fun H a ns hl _ hH hS => ⟨a, ns, rfl, hS, hH, hl, fun _ => rfl⟩, fun base k1 k2 _ => (fn_ir F S (fun _ _ _ => rfl) hm (fx base k1 k2)).imp (law_sp hF fun p hp => by rw [hq] at hp; cases hp)⟩
end
end CT

namespace CT
open PySem PySem.Spec PyProof.Rows L2
/-! ### the data's side: the bag -/
def Bg (M : Mem) : Prop := ∃ x y z cs, M = [.bag x y z, .cells cs] ∧ cs.length ≤ 63
theorem takeV_range {x y m : Int} (h : 0 < m) : 0 ≤ (takeV x y m).1 ∧ (takeV x y m).1 < m := by
  unfold takeV
  split
  · exact ⟨Int.emod_nonneg _ (by omega), Int.emod_lt_of_pos _ h⟩
  · exact ⟨Int.emod_nonneg _ (by omega), Int.emod_lt_of_pos _ h⟩
theorem take_spec {M : Mem} (h : Bg M) {m : Int} (h0 : 0 < m) (h1 : m < 1073741824) : ∃ v M', takeF [.obj 0, .int m] M = .ok (.int v) M' ∧ 0 ≤ v ∧ v < m ∧ Bg M' := by
  obtain ⟨x, y, z, cs, rfl, hc⟩ := h
  have e : takeF [.obj 0, .int m] [.bag x y z, .cells cs] = .ok (.int (takeS x y z cs m).1) [.bag (takeS x y z cs m).2.1 (takeS x y z cs m).2.2.1 (takeS x y z cs m).2.2.2, .cells cs] := by
    show (if 0 < m ∧ m < 1073741824 ∧ cs.length ≤ 63 then _ else _) = _
    rw [if_pos ⟨h0, h1, hc⟩]
    rfl
  refine ⟨_, _, e, ?_, ?_, _, _, _, cs, rfl, hc⟩
  · unfold takeS
    split
    · exact (takeV_range h0).1
    · exact (takeV_range h0).1
  · unfold takeS
    split
    · exact (takeV_range h0).2
    · exact (takeV_range h0).2
theorem bag_spec {ns : List Int} (h : ns.length ≤ 63) : ∃ M, bagF [.scr ns] [] = .ok (.obj 0) M ∧ Bg M := by
  refine ⟨_, ?_, 0, 1234567891, 0, ns.map fun i => if i < 0 then -i else i, rfl, by rw [List.length_map]; exact h⟩
  show (if ns.length ≤ 63 then _ else _) = _
  rw [if_pos h]
  rfl
def I_some : List IS := [.ret (.idx (.var 1) (.call "_law_take" [.var 0, .blt .len [.var 1]]))]
theorem some_spec {Γ : Fns} {Cn : Str → Option D} (hg : Γ "_law_take" = takeF) {M : Mem} (h : Bg M) {xs : List D} (h0 : xs ≠ []) (h1 : xs.length < 1073741824) :
    ∃ d M', semF Γ Cn 2 false I_some [.obj 0, .lst xs] M = .ok d M' ∧ d ∈ xs ∧ Bg M' := by
  have hl : 0 < xs.length := List.length_pos_iff.mpr h0
  obtain ⟨v, M', e, v0, v1, b⟩ := take_spec h (m := xs.length) (by omega) (by omega)
  obtain ⟨n, rfl⟩ := Int.eq_ofNat_of_zero_le v0
  have hn : n < xs.length := by omega
  refine ⟨xs[n], M', ?_, List.getElem_mem hn, b⟩
  have e1 : semE Γ Cn (.call "_law_take" [.var 0, .blt .len [.var 1]]) (startG 2 [.obj 0, .lst xs]) M = .ok (.int n) M' := by
    show Γ "_law_take" [.obj 0, .int xs.length] M = _
    rw [hg]; exact e
  have e2 : semE Γ Cn (.idx (.var 1) (.call "_law_take" [.var 0, .blt .len [.var 1]])) (startG 2 [.obj 0, .lst xs]) M = .ok xs[n] M' := by
    show ((semE Γ Cn (.call "_law_take" [.var 0, .blt .len [.var 1]]) (startG 2 [.obj 0, .lst xs]) M).bind fun y M2 => Res.of (idxD (.lst xs) y) M2) = _
    rw [e1]
    show Res.of (atI xs (n : Int)) M' = _
    rw [atI_nat (List.getElem?_eq_getElem hn)]
    rfl
  show outF false ((((semE Γ Cn (.idx (.var 1) (.call "_law_take" [.var 0, .blt .len [.var 1]])) (startG 2 [.obj 0, .lst xs]) M).out _ fun x M1 => .rt x M1)).then _) = _
  rw [e2]
  rfl
end CT

namespace CT
open PySem PySem.Spec PyProof.Rows L2
/-! ### the data's side: one thing beside itself -/
mutual
theorem deq_self : ∀ d : D, d.plain = true → deq d d = true
  | .non, _ => rfl
  | .bl b, _ => by simp [deq]
  | .int i, _ => by simp [deq]
  | .str s, _ => by simp [deq]
  | .tup xs, h => by simp only [deq]; exact deqs_self xs (by simpa only [D.plain] using h)
  | .lst xs, h => by simp only [deq]; exact deqs_self xs (by simpa only [D.plain] using h)
  | .dct _ _, h => by simp [D.plain] at h
  | .obj _, h => by simp [D.plain] at h
  | .scr _, h => by simp [D.plain] at h
theorem deqs_self : ∀ xs : List D, D.plains xs = true → deqs xs xs = true
  | [], _ => rfl
  | x :: xs, h => by
    simp only [D.plains, Bool.and_eq_true] at h
    simp only [deqs, deq_self x h.1, deqs_self xs h.2, Bool.and_self]
end
theorem ne_self {d : D} (h : d.plain = true) (h2 : d.depth ≤ deep) : cmpD .ne d d = some false := by
  show (eqD d d).map (!·) = _
  unfold eqD
  split
  · rfl
  · rw [if_pos ⟨h, h, by omega⟩, deq_self d h]
    rfl
mutual
/-- as plain, and empty dicts -/
def D.leafy : D → Bool
  | .non => true
  | .bl _ => true
  | .int _ => true
  | .str _ => true
  | .dct [] [] => true
  | .tup xs => D.leafys xs
  | .lst xs => D.leafys xs
  | _ => false
def D.leafys : List D → Bool
  | [] => true
  | x :: xs => x.leafy && D.leafys xs
end
mutual
theorem leafy_of : ∀ d : D, d.plain = true → d.leafy = true
  | .non, _ => rfl
  | .bl _, _ => rfl
  | .int _, _ => rfl
  | .str _, _ => rfl
  | .tup xs, h => by simp only [D.leafy]; exact leafys_of xs (by simpa only [D.plain] using h)
  | .lst xs, h => by simp only [D.leafy]; exact leafys_of xs (by simpa only [D.plain] using h)
  | .dct _ _, h => by simp [D.plain] at h
  | .obj _, h => by simp [D.plain] at h
  | .scr _, h => by simp [D.plain] at h
  | .exn _ _ _, h => by simp [D.plain] at h
theorem leafys_of : ∀ xs : List D, D.plains xs = true → D.leafys xs = true
  | [], _ => rfl
  | x :: xs, h => by
    simp only [D.plains, Bool.and_eq_true] at h
    simp only [D.leafys, leafy_of x h.1, leafys_of xs h.2, Bool.and_self]
end
theorem leafys_app : ∀ xs ys : List D, D.leafys (xs ++ ys) = (D.leafys xs && D.leafys ys)
  | [], ys => by simp [D.leafys]
  | x :: xs, ys => by simp only [List.cons_append, D.leafys, leafys_app xs ys, Bool.and_assoc]
mutual
def D.size : D → Nat
  | .tup xs => D.sizes xs + 1
  | .lst xs => D.sizes xs + 1
  | _ => 1
def D.sizes : List D → Nat
  | [] => 0
  | x :: xs => x.size + D.sizes xs
end
theorem size_pos (d : D) : 1 ≤ d.size := by cases d <;> simp only [D.size] <;> omega
theorem sizes_len : ∀ xs : List D, xs.length ≤ D.sizes xs
  | [] => Nat.zero_le _
  | x :: xs => by
    have := size_pos x
    have := sizes_len xs
    simp only [D.sizes, List.length_cons]; omega
theorem sizes_app : ∀ xs ys : List D, D.sizes (xs ++ ys) = D.sizes xs + D.sizes ys
  | [], ys => by simp [D.sizes]
  | x :: xs, ys => by simp only [List.cons_append, D.sizes, sizes_app xs ys]; omega
theorem plains_app : ∀ xs ys : List D, D.plains (xs ++ ys) = (D.plains xs && D.plains ys)
  | [], ys => by simp [D.plains]
  | x :: xs, ys => by simp only [List.cons_append, D.plains, plains_app xs ys, Bool.and_assoc]
def pr (d : D) : D := .tup [d, d]
theorem zip_self : ∀ xs : List D, zipL xs xs = xs.map pr
  | [] => rfl
  | x :: xs => by simp only [zipL, zip_self xs, List.map_cons, pr]
def bodyA : List IS := [.set (.tp [.nm 4, .nm 5]) (.idx (.bor 2) (.var 3)),
    .aug 3 .add (.int 1),
    .ife (.or (.cmp .ne (.isi [.bool] (.var 4)) (.isi [.bool] (.var 5))) (.cmp .ne (.isi [.str] (.var 4)) (.isi [.str] (.var 5))))
     [.ret (.bl false)]
     [],
    .ife (.cmp .ne (.isi [.tuple, .list] (.var 4)) (.isi [.tuple, .list] (.var 5)))
     [.ret (.bl false)]
     [],
    .ife (.isi [.tuple, .list] (.var 4))
     [.ife (.or (.cmp .ne (.isi [.tuple] (.var 4)) (.isi [.tuple] (.var 5))) (.cmp .ne (.blt .len [.var 4]) (.blt .len [.var 5])))
       [.ret (.bl false)]
       [],
      .ext 2 (.zipl (.var 4) (.var 5))]
     [.ife (.cmp .ne (.var 4) (.var 5))
       [.ret (.bl false)]
       []]]
def I_alike : List IS :=
  [.par2 true 2 3 (.lst [.tup [.var 0, .var 1]]) (.int 0),
  .whl (.cmp .lt (.var 3) (.blt .len [.bor 2])) bodyA,
  .ret (.bl true)]
section
variable {Γ : Fns} {Cn : Str → Option D} {M : Mem} {σ : Sg}
theorem sem_ne {a b : IE} {v : D} (ha : semE Γ Cn a σ M = .ok v M) (hb : semE Γ Cn b σ M = .ok v M) (h : v.plain = true) (h2 : v.depth ≤ deep) : semE Γ Cn (.cmp .ne a b) σ M = .ok (.bl false) M := by
  simp only [semE, ha, hb, Res.bind, ne_self h h2]
  rfl
theorem sem_or {a b : IE} (ha : semE Γ Cn a σ M = .ok (.bl false) M) (hb : semE Γ Cn b σ M = .ok (.bl false) M) : semE Γ Cn (.or a b) σ M = .ok (.bl false) M := by
  simp only [semE, ha, hb, Res.bind, truD]
theorem sem_ifF {t : IE} {a b : List IS} (h : semE Γ Cn t σ M = .ok (.bl false) M) : semS Γ Cn (.ife t a b) σ M = semSs Γ Cn b σ M := by
  simp only [semS, h, Res.out, truD]
theorem sem_ifT {t : IE} {a b : List IS} (h : semE Γ Cn t σ M = .ok (.bl true) M) : semS Γ Cn (.ife t a b) σ M = semSs Γ Cn a σ M := by
  simp only [semS, h, Res.out, truD]
theorem sem_cons {s : IS} {r : List IS} {σ' : Sg} {M' : Mem} (h : semS Γ Cn s σ M = .nx σ' M') : semSs Γ Cn (s :: r) σ M = semSs Γ Cn r σ' M' := by
  simp only [semSs, h, Out.then]
theorem sem_isi {ts : List Ty} {i : Nat} {d : D} (hi : σ[i]? = some (.v d)) (h : tyable d = true) : semE Γ Cn (.isi ts (.var i)) σ M = .ok (.bl (ts.any fun t => isTy t d)) M := by
  simp only [semE, hi, Res.bind, h, if_true]
theorem sem_skip {t : IE} {a r : List IS} (h : semE Γ Cn t σ M = .ok (.bl false) M) : semSs Γ Cn (.ife t a [] :: r) σ M = semSs Γ Cn r σ M := by
  simp only [semSs, semS, h, Res.out, truD, Out.then]
theorem sem_one {s : IS} : semSs Γ Cn [s] σ M = semS Γ Cn s σ M := by
  simp only [semSs]
  cases semS Γ Cn s σ M <;> rfl
def conB : D → Bool
  | .tup _ => true
  | .lst _ => true
  | _ => false
theorem conB_isi {d : D} (h : tyable d = true) : ([Ty.tuple, Ty.list].any fun t => isTy t d) = conB d := by cases d <;> first | rfl | (cases h)
theorem tyable_leafy {d : D} (h : d.leafy = true) : tyable d = true := by cases d <;> first | rfl | (simp [D.leafy] at h)
theorem ne_leaf {d : D} (h : d.leafy = true) (hc : conB d = false) (h2 : d.depth ≤ deep) : cmpD .ne d d = some false := by
  cases d <;> first | (cases hc; done) | exact ne_self rfl h2 | skip
  · rename_i ks vs
    cases ks <;> cases vs <;> first | rfl | (simp [D.leafy] at h)
  · simp [D.leafy] at h
  · simp [D.leafy] at h
  · simp [D.leafy] at h
theorem sem_neL {Γ : Fns} {Cn : Str → Option D} {σ : Sg} {M : Mem} {a b : IE} {v : D} (ha : semE Γ Cn a σ M = .ok v M) (hb : semE Γ Cn b σ M = .ok v M) (h : cmpD .ne v v = some false) : semE Γ Cn (.cmp .ne a b) σ M = .ok (.bl false) M := by
  simp only [semE, ha, hb, Res.bind, h]
  rfl
/-- a turn -/
theorem alike_turn {x y : D} {ps : List D} {n : Nat} {a b : SV} {d : D} (hp : ps[n]? = some (pr d)) (h : d.leafy = true) (h2 : d.depth ≤ deep) (hz : ps.length + d.size ≤ sizeLine + 1) :
    ∃ more, semSs Γ Cn bodyA [.v x, .v y, .o (.lst ps), .v (.int n), a, b] M = .nx [.v x, .v y, .o (.lst (ps ++ more.map pr)), .v (.int ((n + 1 : Nat) : Int)), .v d, .v d] M ∧ D.leafys more = true ∧ D.sizes more + 1 = d.size ∧ D.depths more ≤ deep := by
  have e1 : semS Γ Cn (.set (.tp [.nm 4, .nm 5]) (.idx (.bor 2) (.var 3))) [.v x, .v y, .o (.lst ps), .v (.int n), a, b] M = .nx [.v x, .v y, .o (.lst ps), .v (.int n), .v d, .v d] M := by
    have e : semE Γ Cn (.idx (.bor 2) (.var 3)) [.v x, .v y, .o (.lst ps), .v (.int n), a, b] M = .ok (pr d) M := by
      show Res.of (atI ps (n : Int)) M = _
      rw [atI_nat hp]; rfl
    simp only [semS, e]
    rfl
  have e2 : semS Γ Cn (.aug 3 .add (.int 1)) [.v x, .v y, .o (.lst ps), .v (.int n), .v d, .v d] M = .nx [.v x, .v y, .o (.lst ps), .v (.int ((n + 1 : Nat) : Int)), .v d, .v d] M := rfl
  have i4 : ([.v x, .v y, .o (.lst ps), .v (.int ((n + 1 : Nat) : Int)), .v d, .v d] : Sg)[4]? = some (.v d) := rfl
  have i5 : ([.v x, .v y, .o (.lst ps), .v (.int ((n + 1 : Nat) : Int)), .v d, .v d] : Sg)[5]? = some (.v d) := rfl
  have ty := tyable_leafy h
  have bl : ∀ c : Bool, (D.bl c).depth ≤ deep := fun c => by simp only [D.depth]; exact Nat.zero_le _
  have ne : ∀ ts : List Ty, semE Γ Cn (.cmp .ne (.isi ts (.var 4)) (.isi ts (.var 5))) [.v x, .v y, .o (.lst ps), .v (.int ((n + 1 : Nat) : Int)), .v d, .v d] M = .ok (.bl false) M := fun ts => sem_ne (sem_isi i4 ty) (sem_isi i5 ty) rfl (bl _)
  unfold bodyA
  rw [sem_cons e1, sem_cons e2, sem_skip (sem_or (ne _) (ne _)), sem_skip (ne _), sem_one]
  have e5 := sem_isi (Γ := Γ) (Cn := Cn) (M := M) (ts := [.tuple, .list]) i4 ty
  rw [conB_isi ty] at e5
  by_cases hc : conB d = true
  · rw [hc] at e5
    rw [sem_ifT e5]
    have go : ∀ xs : List D, semE Γ Cn (.zipl (.var 4) (.var 5)) [.v x, .v y, .o (.lst ps), .v (.int ((n + 1 : Nat) : Int)), .v d, .v d] M = .ok (.lst (zipL xs xs)) M → semE Γ Cn (.blt .len [.var 4]) [.v x, .v y, .o (.lst ps), .v (.int ((n + 1 : Nat) : Int)), .v d, .v d] M = .ok (.int xs.length) M →
        semE Γ Cn (.blt .len [.var 5]) [.v x, .v y, .o (.lst ps), .v (.int ((n + 1 : Nat) : Int)), .v d, .v d] M = .ok (.int xs.length) M → D.leafys xs = true → D.sizes xs + 1 = d.size → D.depths xs ≤ deep →
        ∃ more, semSs Γ Cn [.ife (.or (.cmp .ne (.isi [.tuple] (.var 4)) (.isi [.tuple] (.var 5))) (.cmp .ne (.blt .len [.var 4]) (.blt .len [.var 5]))) [.ret (.bl false)] [], .ext 2 (.zipl (.var 4) (.var 5))] [.v x, .v y, .o (.lst ps), .v (.int ((n + 1 : Nat) : Int)), .v d, .v d] M
          = .nx [.v x, .v y, .o (.lst (ps ++ more.map pr)), .v (.int ((n + 1 : Nat) : Int)), .v d, .v d] M ∧ D.leafys more = true ∧ D.sizes more + 1 = d.size ∧ D.depths more ≤ deep := fun xs z1 z2 z3 p1 p2 p3 => by
      refine ⟨xs, ?_, p1, p2, p3⟩
      rw [sem_skip (sem_or (ne _) (sem_ne z2 z3 rfl (by simp only [D.depth]; exact Nat.zero_le _))), sem_one]
      have hl := sizes_len xs
      have e : semS Γ Cn (.ext 2 (.zipl (.var 4) (.var 5))) [.v x, .v y, .o (.lst ps), .v (.int ((n + 1 : Nat) : Int)), .v d, .v d] M = ((Res.ok (.lst (zipL xs xs)) M : Res D).out [.v x, .v y, .o (.lst ps), .v (.int ((n + 1 : Nat) : Int)), .v d, .v d] fun y' M1 => match lstOf y' with | some ys => if ps.length + ys.length ≤ sizeLine then .nx [.v x, .v y, .o (.lst (ps ++ ys)), .v (.int ((n + 1 : Nat) : Int)), .v d, .v d] M1 else .stuck | none => .stuck) := by
        rw [← z1]
        rfl
      rw [e, zip_self]
      show (if ps.length + (xs.map pr).length ≤ sizeLine then _ else _) = _
      rw [if_pos (by rw [List.length_map]; omega)]
    cases d <;> simp only [conB] at hc <;> try (cases hc; done)
    · rename_i xs
      exact go xs rfl rfl rfl (by simpa only [D.leafy] using h) rfl (by simp only [D.depth] at h2; omega)
    · rename_i xs
      exact go xs rfl rfl rfl (by simpa only [D.leafy] using h) rfl (by simp only [D.depth] at h2; omega)
  · have hc : conB d = false := by simpa using hc
    rw [hc] at e5
    have s1 : d.size = 1 := by cases d <;> first | rfl | (cases hc)
    refine ⟨[], ?_, rfl, by rw [s1]; rfl, Nat.zero_le _⟩
    rw [sem_ifF e5, sem_skip (sem_neL (v := d) rfl rfl (ne_leaf h hc h2))]
    simp only [semSs, List.map_nil, List.append_nil]
theorem depths_app : ∀ xs ys : List D, D.depths (xs ++ ys) = max (D.depths xs) (D.depths ys)
  | [], ys => by simp [D.depths]
  | x :: xs, ys => by simp only [List.cons_append, D.depths, depths_app xs ys]; omega
theorem alike_test {x y a b : SV} {ps : List D} {n : Nat} : semE Γ Cn (.cmp .lt (.var 3) (.blt .len [.bor 2])) [x, y, .o (.lst ps), .v (.int n), a, b] M = .ok (.bl (decide ((n : Int) < ps.length))) M := rfl
theorem alike_loop {x y : D} : ∀ (m : Nat) (todo : List D) (n : Nat) (ps : List D) (a b : SV), D.sizes todo ≤ m → ps.drop n = todo.map pr → n ≤ ps.length → D.leafys todo = true → D.depths todo ≤ deep → ps.length + (D.sizes todo - todo.length) ≤ sizeLine →
    ∃ σ', whileN (semE Γ Cn (.cmp .lt (.var 3) (.blt .len [.bor 2]))) (semSs Γ Cn bodyA) (m + 1) [.v x, .v y, .o (.lst ps), .v (.int n), a, b] M = .nx σ' M
  | m, [], n, ps, a, b, _, hd, hn, _, _, _ => by
    have hl : ps.length ≤ n := by
      have := congrArg List.length hd
      simp only [List.length_drop, List.map_nil, List.length_nil] at this
      omega
    refine ⟨[.v x, .v y, .o (.lst ps), .v (.int n), a, b], ?_⟩
    unfold whileN
    rw [alike_test, show decide ((n : Int) < ps.length) = false from decide_eq_false (by omega)]
    rfl
  | 0, d :: todo, n, ps, a, b, hm, _, _, _, _, _ => by
    have := size_pos d
    simp only [D.sizes] at hm
    omega
  | m + 1, d :: todo, n, ps, a, b, hm, hd, hn, hp, hq, hz => by
    have hl : n < ps.length := by
      have := congrArg List.length hd
      simp only [List.length_drop, List.length_map, List.length_cons] at this
      omega
    have hp0 : ps[n]? = some (pr d) := by
      have := congrArg (fun l => l[0]?) hd
      simpa [List.getElem?_drop] using this
    simp only [D.leafys, Bool.and_eq_true] at hp
    simp only [D.depths] at hq
    simp only [D.sizes, List.length_cons] at hz hm
    have l1 := sizes_len todo
    have l2 := size_pos d
    obtain ⟨more, e, p1, p2, p3⟩ := alike_turn (Γ := Γ) (Cn := Cn) (M := M) (x := x) (y := y) (a := a) (b := b) hp0 hp.1 (by omega) (by omega)
    have l3 := sizes_len more
    obtain ⟨σ', e'⟩ := alike_loop m (todo ++ more) (n + 1) (ps ++ more.map pr) (.v d) (.v d) (by rw [sizes_app]; omega) (by
        rw [List.drop_append_of_le_length (by omega), List.map_append]
        congr 1
        have := congrArg (List.drop 1) hd
        simpa [List.drop_drop] using this) (by rw [List.length_append]; omega) (by rw [leafys_app, hp.2, p1]; rfl) (by rw [depths_app]; omega) (by
        rw [List.length_append, List.length_map, sizes_app, List.length_append]; omega)
    refine ⟨σ', ?_⟩
    unfold whileN
    rw [alike_test, show decide ((n : Int) < ps.length) = true from decide_eq_true (by omega)]
    simp only [Res.out, truD, e]
    exact e'
theorem alike_leafy {x : D} (h : x.leafy = true) (h2 : x.depth ≤ deep) (h3 : x.size ≤ sizeLine) : semF Γ Cn 6 false I_alike [x, x] M = .ok (.bl true) M := by
  have hs := size_pos x
  obtain ⟨σ', e⟩ := alike_loop (Γ := Γ) (Cn := Cn) (M := M) (x := x) (y := x) x.size [x] 0 [pr x] .no .no (by simp only [D.sizes]; omega) rfl (Nat.zero_le _) (by simp only [D.leafys, h, Bool.and_self]) (by simp only [D.depths]; omega) (by simp only [D.sizes, List.length_cons, List.length_nil]; omega)
  have e1 : semS Γ Cn (.par2 true 2 3 (.lst [.tup [.var 0, .var 1]]) (.int 0)) (startG 6 [x, x]) M = .nx [.v x, .v x, .o (.lst [pr x]), .v (.int ((0 : Nat) : Int)), .no, .no] M := by
    simp only [semS, semE, semEs, Res.bind, Res.out]
    rfl
  have e2 : semS Γ Cn (.whl (.cmp .lt (.var 3) (.blt .len [.bor 2])) bodyA) [.v x, .v x, .o (.lst [pr x]), .v (.int ((0 : Nat) : Int)), .no, .no] M = .nx σ' M := by
    simp only [semS]
    rw [whileL_eq _ (by rw [e]; exact fun z => by cases z), e]
  unfold semF I_alike
  rw [sem_cons e1, sem_cons e2]
  rfl
theorem alike_spec {x : D} (h : x.plain = true) (h2 : x.depth ≤ deep) (h3 : x.size ≤ sizeLine) : semF Γ Cn 6 false I_alike [x, x] M = .ok (.bl true) M := alike_leafy (leafy_of x h) h2 h3
end
end CT
namespace CT
open PySem PySem.Spec PyProof.Rows L2
/-! ### loops by an invariant -/
theorem forL_inv {asg : D → Sg → Option Sg} {b : Sg → Mem → Out} (I : Sg → Mem → Prop) : ∀ (items : List D), (∀ x ∈ items, ∀ σ M, I σ M → ∃ σ1, asg x σ = some σ1 ∧ ∃ σ' M', b σ1 M = .nx σ' M' ∧ I σ' M') → ∀ σ M, I σ M → ∃ σ' M', forL asg b items σ M = .nx σ' M' ∧ I σ' M'
  | [], _, σ, M, h => ⟨σ, M, rfl, h⟩
  | x :: r, hb, σ, M, h => by
    obtain ⟨σ1, e1, σ2, M2, e2, h2⟩ := hb x List.mem_cons_self σ M h
    obtain ⟨σ3, M3, e3, h3⟩ := forL_inv I r (fun y hy => hb y (List.mem_cons_of_mem _ hy)) σ2 M2 h2
    refine ⟨σ3, M3, ?_, h3⟩
    unfold forL
    rw [e1]
    simp only [e2]
    exact e3
/-- a comprehension whose turns draw: all its items lie in P -/
theorem compL_inv {f : D → Mem → Res (Option D)} (I : Mem → Prop) (P : D → Prop) : ∀ (items : List D) (n : Nat) (M : Mem), n + items.length ≤ sizeLine → (∀ x ∈ items, ∀ M, I M → ∃ d M', f x M = .ok (some d) M' ∧ P d ∧ I M') → I M →
    ∃ ds M', compL f items n M = .ok ds M' ∧ (∀ d ∈ ds, P d) ∧ ds.length = items.length ∧ I M'
  | [], n, M, _, _, h => ⟨[], M, rfl, by simp, rfl, h⟩
  | x :: r, n, M, hn, hf, h => by
    obtain ⟨d, M1, e1, p1, h1⟩ := hf x List.mem_cons_self M h
    simp only [List.length_cons] at hn
    obtain ⟨ds, M2, e2, p2, l2, h2⟩ := compL_inv I P r (n + 1) M1 (by omega) (fun y hy => hf y (List.mem_cons_of_mem _ hy)) h1
    refine ⟨d :: ds, M2, ?_, fun z hz => ?_, by simp [l2], h2⟩
    · simp only [compL, e1]
      rw [if_pos (by omega), e2]
      rfl
    · rcases List.mem_cons.mp hz with q | q
      · rw [q]; exact p1
      · exact p2 z q
end CT
namespace CT
open PySem PySem.Spec PyProof.Rows L2
section
variable {Γ : Fns} {Cn : Str → Option D} {M M' : Mem} {σ : Sg}
theorem sem_ret {e : IE} {r : List IS} {d : D} {fr : Bool} (h : semE Γ Cn e σ M = .ok d M') : outF fr (semSs Γ Cn (.ret e :: r) σ M) = .ok d M' := by
  simp only [semSs, semS, h, Res.out, Out.then, outF]
theorem sem_set {i : Nat} {e : IE} {d : D} (h : semE Γ Cn e σ M = .ok d M') : semS Γ Cn (.set (.nm i) e) σ M = .nx (σ.set i (.v d)) M' := by
  simp only [semS, h, Res.out, asgT]
theorem sem_par2 {i j : Nat} {a b : IE} {x y : D} {M2 : Mem} (h : semE Γ Cn a σ M = .ok x M') (g : semE Γ Cn b σ M' = .ok y M2) : semS Γ Cn (.par2 false i j a b) σ M = .nx ((σ.set i (.v x)).set j (.v y)) M2 := by
  simp only [semS, h, g, Res.out]
  rfl
theorem sem_call {f : Str} {es : List IE} {xs : List D} {d : D} {M2 : Mem} (h : semEs Γ Cn es σ M = .ok xs M') (g : Γ f xs M' = .ok d M2) : semE Γ Cn (.call f es) σ M = .ok d M2 := by
  simp only [semE, h, Res.bind, g]
/-- if not _: return False -/
theorem sem_guard {e : IE} {a r : List IS} (h : semE Γ Cn e σ M = .ok (.bl true) M') : semSs Γ Cn (.ife (.not e) a [] :: r) σ M = semSs Γ Cn r σ M' := by
  have e1 : semE Γ Cn (.not e) σ M = .ok (.bl false) M' := by simp only [semE, h, Res.bind, truD]; rfl
  simp only [semSs, semS, e1, Res.out, truD, Out.then]
theorem sem_for {tg : Tgt} {k : SK} {src : List IE} {b r : List IS} {items : List D} {M1 : Mem} {σ2 : Sg} {M2 : Mem} (h : semI Γ Cn k src σ M = .ok items M1) (g : forL (asgT tg) (semSs Γ Cn b) items σ M1 = .nx σ2 M2) : semSs Γ Cn (.for tg k src b :: r) σ M = semSs Γ Cn r σ2 M2 := by
  simp only [semSs, semS, h, Res.out, g, Out.then]
end
end CT
namespace CT
open PySem PySem.Spec PyProof.Rows L2
/-! ### comprehensions that draw nothing -/
theorem compL_map {f : D → Mem → Res (Option D)} {g : D → D} {M : Mem} : ∀ (items : List D) (n : Nat), n + items.length ≤ sizeLine → (∀ x ∈ items, f x M = .ok (some (g x)) M) → compL f items n M = .ok (items.map g) M
  | [], _, _, _ => rfl
  | x :: r, n, hn, h => by
    simp only [List.length_cons] at hn
    simp only [compL, h x List.mem_cons_self]
    rw [if_pos (by omega), compL_map r (n + 1) (by omega) fun y hy => h y (List.mem_cons_of_mem _ hy)]
    rfl
theorem compL_filter {f : D → Mem → Res (Option D)} {p : D → Bool} {c : D} {M : Mem} : ∀ (items : List D) (n : Nat), n + items.length ≤ sizeLine → (∀ x ∈ items, f x M = .ok (if p x = true then some c else none) M) → compL f items n M = .ok ((items.filter p).map fun _ => c) M
  | [], _, _, _ => rfl
  | x :: r, n, hn, h => by
    simp only [List.length_cons] at hn
    have hx := h x List.mem_cons_self
    cases hp : p x with
    | true =>
      rw [hp, if_pos rfl] at hx
      simp only [compL, hx]
      rw [if_pos (by omega), compL_filter r (n + 1) (by omega) fun y hy => h y (List.mem_cons_of_mem _ hy), List.filter_cons, if_pos hp]
      rfl
    | false =>
      rw [hp, if_neg (by simp)] at hx
      simp only [compL, hx]
      rw [compL_filter r n (by omega) fun y hy => h y (List.mem_cons_of_mem _ hy), List.filter_cons, if_neg (by simp [hp])]
theorem eq_nil {l : List D} (h : D.plains l = true) : cmpD .eq (.lst l) (.lst []) = some l.isEmpty := by
  show eqD (.lst l) (.lst []) = _
  unfold eqD
  rw [if_neg (by simp [eq0])]
  have h1 : (D.lst []).depth ≤ deep := by simp only [D.depth, D.depths]; decide
  rw [if_pos ⟨by simpa only [D.plain] using h, rfl, by omega⟩]
  cases l <;> simp [deq, deqs]
theorem plains_same {c : D} (h : c.plain = true) : ∀ l : List D, D.plains (l.map fun _ => c) = true
  | [] => rfl
  | _ :: l => by simp only [List.map_cons, D.plains, h, plains_same h l, Bool.and_self]
theorem bls_map {g : D → Bool} : ∀ l : List D, blsD (l.map fun x => .bl (g x)) = some (l.map g)
  | [] => rfl
  | x :: l => by simp only [List.map_cons, blsD, bls_map l, Option.map_some]
theorem ints_map : ∀ l : List Int, intsD (l.map D.int) = some l
  | [] => rfl
  | x :: l => by simp only [List.map_cons, intsD, ints_map l, Option.map_some]
theorem filter_nil {p : D → Bool} (l : List D) : (l.filter p).isEmpty = l.all fun x => !p x := by
  induction l with
  | nil => rfl
  | cons x l ih =>
    rw [List.filter_cons, List.all_cons]
    cases p x <;> simp [ih]
end CT

namespace CT
open PySem PySem.Spec PyProof.Rows L2
/-! ### the data's side: readings of single terms -/
section
variable {Γ : Fns} {Cn : Str → Option D} {M M' : Mem} {σ : Sg}
theorem eq_int (i j : Int) : cmpD .eq (.int i) (.int j) = some (i == j) := by
  show eqD (.int i) (.int j) = _
  unfold eqD
  rw [if_neg (by simp [eq0])]
  rw [if_pos ⟨rfl, rfl, by simp [D.depth]⟩]
  rfl
theorem sem_cmp {c : Cm} {a b : IE} {x y : D} {k : Bool} {M2 : Mem} (ha : semE Γ Cn a σ M = .ok x M') (hb : semE Γ Cn b σ M' = .ok y M2) (h : cmpD c x y = some k) : semE Γ Cn (.cmp c a b) σ M = .ok (.bl k) M2 := by
  simp only [semE, ha, hb, Res.bind, h, Option.map_some]
  rfl
theorem sem_bin {c : Op} {a b : IE} {x y z : D} {M2 : Mem} (ha : semE Γ Cn a σ M = .ok x M') (hb : semE Γ Cn b σ M' = .ok y M2) (h : binD c x y = some z) : semE Γ Cn (.bin c a b) σ M = .ok z M2 := by
  simp only [semE, ha, hb, Res.bind, h]
  rfl
theorem sem_idx {a b : IE} {x y z : D} {M2 : Mem} (ha : semE Γ Cn a σ M = .ok x M') (hb : semE Γ Cn b σ M' = .ok y M2) (h : idxD x y = some z) : semE Γ Cn (.idx a b) σ M = .ok z M2 := by
  simp only [semE, ha, hb, Res.bind, h]
  rfl
theorem sem_rev {a : IE} {x z : D} (ha : semE Γ Cn a σ M = .ok x M') (h : revD x = some z) : semE Γ Cn (.rev a) σ M = .ok z M' := by
  simp only [semE, ha, Res.bind, h]
  rfl
theorem sem_slice2 {a l h : IE} {x z : D} {i j : Int} {M1 M2 M3 : Mem} (ha : semE Γ Cn a σ M = .ok x M1) (hl : semE Γ Cn l σ M1 = .ok (.int i) M2) (hh : semE Γ Cn h σ M2 = .ok (.int j) M3) (hc : cutD x (some i) (some j) = some z) : semE Γ Cn (.slice a [l] [h]) σ M = .ok z M3 := by
  rw [semE, ha]
  simp only [semEs, hl, Res.bind, partD, hh, hc]
  rfl
theorem sem_sliceTo {a h : IE} {x z : D} {j : Int} {M1 M3 : Mem} (ha : semE Γ Cn a σ M = .ok x M1) (hh : semE Γ Cn h σ M1 = .ok (.int j) M3) (hc : cutD x none (some j) = some z) : semE Γ Cn (.slice a [] [h]) σ M = .ok z M3 := by
  rw [semE, ha]
  simp only [semEs, Res.bind, partD, hh, hc]
  rfl
theorem sem_andT {a b : IE} {r : Res D} (ha : semE Γ Cn a σ M = .ok (.bl true) M') (hb : semE Γ Cn b σ M' = r) : semE Γ Cn (.and a b) σ M = r := by
  simp only [semE, ha, Res.bind, truD, hb]
theorem sem_andF {a b : IE} (ha : semE Γ Cn a σ M = .ok (.bl false) M') : semE Γ Cn (.and a b) σ M = .ok (.bl false) M' := by
  simp only [semE, ha, Res.bind, truD]
theorem sem_andB {a b : IE} {p q : Bool} (ha : semE Γ Cn a σ M = .ok (.bl p) M) (hb : p = true → semE Γ Cn b σ M = .ok (.bl q) M) : semE Γ Cn (.and a b) σ M = .ok (.bl (p && q)) M := by
  cases p with
  | true => exact sem_andT ha (hb rfl)
  | false => exact sem_andF ha
theorem sem_orT {a b : IE} (ha : semE Γ Cn a σ M = .ok (.bl true) M') : semE Γ Cn (.or a b) σ M = .ok (.bl true) M' := by
  simp only [semE, ha, Res.bind, truD]
theorem sem_orF {a b : IE} {r : Res D} (ha : semE Γ Cn a σ M = .ok (.bl false) M') (hb : semE Γ Cn b σ M' = r) : semE Γ Cn (.or a b) σ M = r := by
  simp only [semE, ha, Res.bind, truD, hb]
theorem sem_orB {a b : IE} {p q : Bool} (ha : semE Γ Cn a σ M = .ok (.bl p) M) (hb : p = false → semE Γ Cn b σ M = .ok (.bl q) M) : semE Γ Cn (.or a b) σ M = .ok (.bl (p || q)) M := by
  cases p with
  | true => exact sem_orT ha
  | false => exact sem_orF ha (hb rfl)
theorem sem_notB {a : IE} {p : Bool} (ha : semE Γ Cn a σ M = .ok (.bl p) M') : semE Γ Cn (.not a) σ M = .ok (.bl (!p)) M' := by
  simp only [semE, ha, Res.bind, truD]; rfl
theorem sem_ifret {t e : IE} {p q : Bool} (ht : semE Γ Cn t σ M = .ok (.bl p) M) (he : p = false → semE Γ Cn e σ M = .ok (.bl q) M) : outF false (semSs Γ Cn [.ife t [.ret (.bl false)] [], .ret e] σ M) = .ok (.bl (!p && q)) M := by
  cases p with
  | true => simp only [semSs, semS, ht, Res.out, truD, semE]; rfl
  | false => rw [sem_skip ht]; exact sem_ret (he rfl)
/-- a test that does not hold, whatever it drew -/
theorem sem_pass {t : IE} {a r : List IS} (h : semE Γ Cn t σ M = .ok (.bl false) M') : semSs Γ Cn (.ife t a [] :: r) σ M = semSs Γ Cn r σ M' := by
  simp only [semSs, semS, h, Res.out, truD, Out.then]
theorem sem_blt {f : Bf} {e : IE} {d r : D} (h : semE Γ Cn e σ M = .ok d M') (g : bltD f [d] = some r) : semE Γ Cn (.blt f [e]) σ M = .ok r M' := by
  simp only [semE, semEs, h, Res.bind, g]
  rfl
theorem sem_es2 {a b : IE} {x y : D} {M2 : Mem} (ha : semE Γ Cn a σ M = .ok x M') (hb : semE Γ Cn b σ M' = .ok y M2) : semEs Γ Cn [a, b] σ M = .ok [x, y] M2 := by
  simp only [semEs, ha, hb, Res.bind]
theorem sem_es1 {a : IE} {x : D} (ha : semE Γ Cn a σ M = .ok x M') : semEs Γ Cn [a] σ M = .ok [x] M' := by
  simp only [semEs, ha, Res.bind]
theorem sem_escons {a : IE} {r : List IE} {x : D} {xs : List D} {M2 : Mem} (ha : semE Γ Cn a σ M = .ok x M') (hb : semEs Γ Cn r σ M' = .ok xs M2) : semEs Γ Cn (a :: r) σ M = .ok (x :: xs) M2 := by
  simp only [semEs, ha, hb, Res.bind]
theorem sem_tup {es : List IE} {xs : List D} (h : semEs Γ Cn es σ M = .ok xs M') (hl : xs.length ≤ sizeLine) : semE Γ Cn (.tup es) σ M = .ok (.tup xs) M' := by
  simp only [semE, h, Res.bind]; rw [if_pos hl]
theorem sem_lst {es : List IE} {xs : List D} (h : semEs Γ Cn es σ M = .ok xs M') (hl : xs.length ≤ sizeLine) : semE Γ Cn (.lst es) σ M = .ok (.lst xs) M' := by
  simp only [semE, h, Res.bind]; rw [if_pos hl]
theorem sem_comp_k {k : SK} {elt src : IE} {tg : Tgt} {own : List (Str × Nat)} {ifs : List IE} {s : D} {items : List D} {M1 : Mem} (hs : semE Γ Cn src σ M = .ok s M1) (hi : srcD k [s] = some items) :
    semE Γ Cn (.comp elt tg own k [src] ifs) σ M = (compL (turnG Γ Cn elt tg own ifs σ) items 0 M1).bind fun ys M2 => .ok (.lst ys) M2 := by
  simp only [semE, semEs, hs, Res.bind, hi]
  rfl
theorem turn_bl {e : IE} {i : Nat} {y : Str} {x d : D} (h : semE Γ Cn e ((wipeG σ [i]).set i (.v x)) M = .ok d M) : turnG Γ Cn e (.nm i) [(y, i)] [] σ x M = .ok (some d) M := by
  unfold turnG
  rw [show asgT (.nm i) x (wipeG σ ([(y, i)].map (·.2))) = some ((wipeG σ [i]).set i (.v x)) from rfl]
  simp only [semIf, Res.bind, h]
theorem turn_draw {e : IE} {i : Nat} {y : Str} {x d : D} (h : semE Γ Cn e ((wipeG σ [i]).set i (.v x)) M = .ok d M') : turnG Γ Cn e (.nm i) [(y, i)] [] σ x M = .ok (some d) M' := by
  unfold turnG
  rw [show asgT (.nm i) x (wipeG σ ([(y, i)].map (·.2))) = some ((wipeG σ [i]).set i (.v x)) from rfl]
  simp only [semIf, Res.bind, h]
theorem in62_of {i : Int} (h0 : 0 ≤ i) (h1 : i < 1000) : in62 i = true := by
  unfold in62
  exact decide_eq_true ⟨Int.le_trans (by decide) h0, Int.lt_of_lt_of_le h1 (by decide)⟩
theorem src_rng {n : Nat} (hn : n < 1000) : srcD .range1 [D.int n] = some (rangeL 0 n) := by
  have h := in62_of (i := n) (by omega) (by omega)
  show (if in62 n = true then some (rangeL 0 n) else none) = _
  rw [if_pos h]
theorem rangeL_len (n : Nat) : (rangeL 0 n).length = n := by
  unfold rangeL
  rw [List.length_map, List.length_range, Int.sub_zero, Int.toNat_natCast]
theorem semI_any {e : IE} {d : D} {items : List D} (h : semE Γ Cn e σ M = .ok d M') (g : srcD .any [d] = some items) : semI Γ Cn .any [e] σ M = .ok items M' := by
  simp only [semI, semEs, h, Res.bind, g]
  rfl
theorem semI_r2 {a b : IE} {x y : Int} {M2 : Mem} (h : semE Γ Cn a σ M = .ok (.int x) M') (g : semE Γ Cn b σ M' = .ok (.int y) M2) (h1 : in62 x = true) (h2 : in62 y = true) : semI Γ Cn .range2 [a, b] σ M = .ok (rangeL x y) M2 := by
  simp only [semI, semEs, h, g, Res.bind]
  show Res.of (if (in62 x && in62 y) = true then some (rangeL x y) else none) M2 = _
  rw [h1, h2]
  rfl
/-- [.. for at in range(_law_take(bag, k))], the bag being name 1 -/
theorem draw_list {elt : IE} {P : D → Prop} {k : Int} {i : Nat} {y : Str} (hi : i ≠ 1) (gt : Γ "_law_take" = takeF) (k0 : 0 < k) (k1 : k < 1000) (turn : ∀ (σ' : Sg) M, σ'[1]? = some (.v (.obj 0)) → Bg M → ∃ d M', semE Γ Cn elt σ' M = .ok d M' ∧ P d ∧ Bg M') (h1 : σ[1]? = some (.v (.obj 0))) (hb : Bg M) :
    ∃ ds M', semE Γ Cn (.comp elt (.nm i) [(y, i)] .range1 [.call "_law_take" [.var 1, .int k]] []) σ M = .ok (.lst ds) M' ∧ (∀ d ∈ ds, P d) ∧ (ds.length : Int) < k ∧ Bg M' := by
  have hz : sizeLine ≥ 1000 := by decide
  obtain ⟨v, M1, e, v0, v1, b1⟩ := take_spec hb (m := k) (by omega) (by omega)
  obtain ⟨n, rfl⟩ := Int.eq_ofNat_of_zero_le v0
  rw [← gt] at e
  have es : semE Γ Cn (.call "_law_take" [.var 1, .int k]) σ M = .ok (.int n) M1 := sem_call (xs := [.obj 0, .int k]) (M' := M) (by simp only [semEs, semE, h1, Res.bind]) e
  have ln : (rangeL 0 (n : Int)).length = n := rangeL_len n
  obtain ⟨ds, M2, e2, p2, l2, b2⟩ := compL_inv (f := turnG Γ Cn elt (.nm i) [(y, i)] [] σ) Bg P (rangeL 0 (n : Int)) 0 M1 (by omega) (fun x hx M hM => by
    obtain ⟨d, M', e, p, b⟩ := turn ((wipeG σ [i]).set i (.v x)) M (by
      simp only [wipeG]
      rw [List.getElem?_set_ne hi, List.getElem?_set_ne hi]; exact h1) hM
    exact ⟨d, M', turn_draw e, p, b⟩) b1
  refine ⟨ds, M2, ?_, p2, by omega, b2⟩
  rw [sem_comp_k es (src_rng (by omega)), e2]
  rfl
/-- _law_take(bag, m) with the bag under name i -/
theorem take_call {i : Nat} {e : IE} {m : Int} (gt : Γ "_law_take" = takeF) (h1 : σ[i]? = some (.v (.obj 0))) (he : semE Γ Cn e σ M = .ok (.int m) M') (hb : Bg M') (m0 : 0 < m) (m1 : m < 1073741824) : ∃ v M2, semE Γ Cn (.call "_law_take" [.var i, e]) σ M = .ok (.int v) M2 ∧ 0 ≤ v ∧ v < m ∧ Bg M2 := by
  obtain ⟨v, M1, e1, v0, v1, b1⟩ := take_spec hb m0 m1
  rw [← gt] at e1
  exact ⟨v, M1, sem_call (xs := [.obj 0, .int m]) (M' := M') (by simp only [semEs, semE, h1, he, Res.bind]) e1, v0, v1, b1⟩
end
theorem deqs_ints : ∀ a b : List Int, deqs (a.map D.int) (b.map D.int) = (a == b)
  | [], [] => rfl
  | [], _ :: _ => rfl
  | _ :: _, [] => rfl
  | x :: a, y :: b => by
    simp only [List.map_cons, deqs, deq, deqs_ints a b]
    rfl
theorem plains_ints : ∀ a : List Int, D.plains (a.map D.int) = true
  | [] => rfl
  | x :: a => by simp only [List.map_cons, D.plains, D.plain, plains_ints a, Bool.and_self]
theorem depths_ints : ∀ a : List Int, D.depths (a.map D.int) = 0
  | [] => rfl
  | x :: a => by simp only [List.map_cons, D.depths, D.depth, depths_ints a]; rfl
theorem sizes_ints : ∀ a : List Int, D.sizes (a.map D.int) = a.length
  | [] => rfl
  | x :: a => by simp only [List.map_cons, D.sizes, D.size, sizes_ints a, List.length_cons]; omega
theorem eq_ints (a b : List Int) : cmpD .eq (.lst (a.map .int)) (.lst (b.map .int)) = some (a == b) := by
  show eqD _ _ = _
  unfold eqD
  rw [if_neg (by simp [eq0])]
  rw [if_pos ⟨by simp only [D.plain]; exact plains_ints a, by simp only [D.plain]; exact plains_ints b, by simp only [D.depth, depths_ints]; decide⟩]
  simp only [deq, deqs_ints]
theorem eq_intst (a b : List Int) : cmpD .eq (.tup (a.map .int)) (.tup (b.map .int)) = some (a == b) := by
  show eqD _ _ = _
  unfold eqD
  rw [if_neg (by simp [eq0])]
  rw [if_pos ⟨by simp only [D.plain]; exact plains_ints a, by simp only [D.plain]; exact plains_ints b, by simp only [D.depth, depths_ints]; decide⟩]
  simp only [deq, deqs_ints]
/-- `while`, told by a measure: a turn -/
theorem whl_go {t : Sg → Mem → Res D} {b : Sg → Mem → Out} {σ σ' : Sg} {M M' : Mem} (ht : t σ M = .ok (.bl true) M) (hb : b σ M = .nx σ' M') : whileL t b σ M = whileL t b σ' M' := by
  rw [whileL_step]
  simp only [ht, Res.out, truD, hb]
theorem whl_end {t : Sg → Mem → Res D} {b : Sg → Mem → Out} {σ : Sg} {M : Mem} (ht : t σ M = .ok (.bl false) M) : whileL t b σ M = .nx σ M := by
  rw [whileL_step]
  simp only [ht, Res.out, truD]
theorem semS_whl {Γ : Fns} {Cn : Str → Option D} {t : IE} {b : List IS} {σ : Sg} {M : Mem} : semS Γ Cn (.whl t b) σ M = whileL (semE Γ Cn t) (semSs Γ Cn b) σ M := by
  simp only [semS]
theorem semS_for {Γ : Fns} {Cn : Str → Option D} {tg : Tgt} {k : SK} {src : List IE} {b : List IS} {items : List D} {M1 : Mem} {σ : Sg} {M : Mem} (h : semI Γ Cn k src σ M = .ok items M1) : semS Γ Cn (.for tg k src b) σ M = forL (asgT tg) (semSs Γ Cn b) items σ M1 := by
  simp only [semS, h, Res.out]
end CT

namespace CT
open PySem PySem.Spec PyProof.Rows L2
/-! ### the facts of exception classes, by one truth over K -/
def excCB (K : PySem.W.Frag) (C : Addr) : Bool :=
  decide (PySem.W.findIn K (.ref C) "__getattribute__" = some (some (.builtin "BaseException.__getattribute__"))) && (decide (PySem.W.findIn K (.ref C) "__getattr__" = some none) && (decide (PySem.W.subIn K (.ref C) (.type "BaseException") = some true) &&
  (PySem.W.hasDictIn K C && (decide (PySem.W.findIn K (.ref C) "__class__" = some (some (.builtin "object.__class__"))) && (decide (PySem.W.specialIn K (.builtin "object.__class__") "__get__" = some (some (.builtin "getset_descriptor.__get__"))) &&
  (decide (PySem.W.takesIn K (.builtin "object.__class__") = some true) && decide (PySem.W.mroIn K C (.type "object") = some true)))))))
theorem excCB_ok {K : PySem.W.Frag} {C : Addr} (h : excCB K C = true) : ExcC K C := by
  unfold excCB at h
  simp only [Bool.and_eq_true, decide_eq_true_eq] at h
  obtain ⟨h1, h2, h3, h4, h5, h6, h7, h8⟩ := h
  exact ⟨h1, h2, h3, h4, h5, h6, h7, h8⟩
def isB (K : PySem.W.Frag) (q : Str × Str × Bool) : Bool := match PySem.W.nsIn K mainGlobals q.2.1 with
  | some (some (.ref C)) => excCB K C && (match PySem.W.nsIn K mainGlobals q.1 with
    | some (some (.ref Ch)) => decide (PySem.W.kitOne K (.ref C) (.ref Ch) = some q.2.2)
    | some none => (match bootBuiltins q.1 with | some (.type t) => decide (PySem.W.kitOne K (.ref C) (.type t) = some q.2.2) | _ => false)
    | _ => false)
  | _ => false
theorem isB_ok {K : PySem.W.Frag} {q : Str × Str × Bool} (h : isB K q = true) : IsAt K q.1 q.2.1 q.2.2 := by
  unfold isB at h
  split at h
  · rename_i C hC
    rw [Bool.and_eq_true] at h
    obtain ⟨h1, h⟩ := h
    split at h
    · rename_i Ch hh
      exact ⟨C, .ref Ch, hC, excCB_ok h1, of_decide_eq_true h, .inl ⟨Ch, hh, rfl⟩⟩
    · rename_i hh
      split at h
      · rename_i t ht
        exact ⟨C, .type t, hC, excCB_ok h1, of_decide_eq_true h, .inr ⟨hh, t, ht, rfl⟩⟩
      · cases h
    · cases h
  · cases h
theorem issB_ok {K : PySem.W.Frag} : ∀ {l : List (Str × Str × Bool)}, l.all (isB K) = true → IssAt K l
  | [], _ => True.intro
  | q :: l, h => by
    rw [List.all_cons, Bool.and_eq_true] at h
    exact ⟨isB_ok h.1, issB_ok h.2⟩
def ex0B (K : PySem.W.Frag) (c : Str) : Bool := !(c == ("__debug__" : Str)) && (match PySem.W.nsIn K mainGlobals c with
  | some (some (.ref C)) => PySem.W.keepIn K (.ref C) && PySem.W.excIn K C [.type "ValueError", .type "Exception", .type "BaseException", .type "object"] "ValueError.__new__"
  | _ => false)
theorem ex0B_ok {K : PySem.W.Frag} {c : Str} (h : ex0B K c = true) : Ex0At K c := by
  unfold ex0B at h
  rw [Bool.and_eq_true, Bool.not_eq_true'] at h
  obtain ⟨h1, h⟩ := h
  split at h
  · rename_i C hC
    rw [Bool.and_eq_true] at h
    exact ⟨h1, C, _, _, _, _, hC, h.1, PySem.F.excBase_ValueError, h.2⟩
  · cases h
theorem ex0sB_ok {K : PySem.W.Frag} : ∀ {l : List Str}, l.all (ex0B K) = true → Ex0sAt K l
  | [], _ => True.intro
  | c :: l, h => by
    rw [List.all_cons, Bool.and_eq_true] at h
    exact ⟨ex0B_ok h.1, ex0sB_ok h.2⟩
end CT

namespace CT
open PySem PySem.Spec PyProof.Rows L2
def topS (i : Nat) : Stmt := PySem.Challenge.pw_castings_k00_errors_of_the_package.main.body.getD i (.Pass ⟨0, 0, 0, 0⟩)
def cns : List (Str × D) := []
def Cn (x : Str) : Option D := cns.lookup x
def xns : List (Str × List Str) := [("BadText", ["line", "column"]), ("BadGround", ["spot", "fault"]), ("BadStock", ["spot", "fault"]), ("BadPanel", ["spot", "fault"]), ("BadPaper", ["spot", "fault"]), ("BadBytes", ["index", "fault"]), ("NoName", ["name"]), ("NoCommand", ["line"]), ("Refused", ["why"]), ("TooMany", ["what", "limit"])]
def XN (x : Str) : Option (List Str) := xns.lookup x
def xss : List (Str × Str × Bool) := [(("BadBytes" : Str), ("BadBytes" : Str), true), (("BadBytes" : Str), ("BadGround" : Str), false), (("BadBytes" : Str), ("BadPanel" : Str), false), (("BadBytes" : Str), ("BadPaper" : Str), false), (("BadBytes" : Str), ("BadStock" : Str), false), (("BadBytes" : Str), ("BadText" : Str), false), (("BadBytes" : Str), ("NoCommand" : Str), false), (("BadBytes" : Str), ("NoName" : Str), false), (("BadBytes" : Str), ("Nothing" : Str), false), (("BadBytes" : Str), ("Refused" : Str), false), (("BadBytes" : Str), ("TooMany" : Str), false), (("BadGround" : Str), ("BadBytes" : Str), false), (("BadGround" : Str), ("BadGround" : Str), true), (("BadGround" : Str), ("BadPanel" : Str), false), (("BadGround" : Str), ("BadPaper" : Str), false), (("BadGround" : Str), ("BadStock" : Str), false), (("BadGround" : Str), ("BadText" : Str), false), (("BadGround" : Str), ("NoCommand" : Str), false), (("BadGround" : Str), ("NoName" : Str), false), (("BadGround" : Str), ("Nothing" : Str), false), (("BadGround" : Str), ("Refused" : Str), false), (("BadGround" : Str), ("TooMany" : Str), false), (("BadPanel" : Str), ("BadBytes" : Str), false), (("BadPanel" : Str), ("BadGround" : Str), false), (("BadPanel" : Str), ("BadPanel" : Str), true), (("BadPanel" : Str), ("BadPaper" : Str), false), (("BadPanel" : Str), ("BadStock" : Str), false), (("BadPanel" : Str), ("BadText" : Str), false), (("BadPanel" : Str), ("NoCommand" : Str), false), (("BadPanel" : Str), ("NoName" : Str), false), (("BadPanel" : Str), ("Nothing" : Str), false), (("BadPanel" : Str), ("Refused" : Str), false), (("BadPanel" : Str), ("TooMany" : Str), false), (("BadPaper" : Str), ("BadBytes" : Str), false), (("BadPaper" : Str), ("BadGround" : Str), false), (("BadPaper" : Str), ("BadPanel" : Str), false), (("BadPaper" : Str), ("BadPaper" : Str), true), (("BadPaper" : Str), ("BadStock" : Str), false), (("BadPaper" : Str), ("BadText" : Str), false), (("BadPaper" : Str), ("NoCommand" : Str), false), (("BadPaper" : Str), ("NoName" : Str), false), (("BadPaper" : Str), ("Nothing" : Str), false), (("BadPaper" : Str), ("Refused" : Str), false), (("BadPaper" : Str), ("TooMany" : Str), false), (("BadStock" : Str), ("BadBytes" : Str), false), (("BadStock" : Str), ("BadGround" : Str), false), (("BadStock" : Str), ("BadPanel" : Str), false), (("BadStock" : Str), ("BadPaper" : Str), false), (("BadStock" : Str), ("BadStock" : Str), true), (("BadStock" : Str), ("BadText" : Str), false), (("BadStock" : Str), ("NoCommand" : Str), false), (("BadStock" : Str), ("NoName" : Str), false), (("BadStock" : Str), ("Nothing" : Str), false), (("BadStock" : Str), ("Refused" : Str), false), (("BadStock" : Str), ("TooMany" : Str), false), (("BadText" : Str), ("BadBytes" : Str), false), (("BadText" : Str), ("BadGround" : Str), false), (("BadText" : Str), ("BadPanel" : Str), false), (("BadText" : Str), ("BadPaper" : Str), false), (("BadText" : Str), ("BadStock" : Str), false), (("BadText" : Str), ("BadText" : Str), true), (("BadText" : Str), ("NoCommand" : Str), false), (("BadText" : Str), ("NoName" : Str), false), (("BadText" : Str), ("Nothing" : Str), false), (("BadText" : Str), ("Refused" : Str), false), (("BadText" : Str), ("TooMany" : Str), false), (("CastError" : Str), ("BadBytes" : Str), true), (("CastError" : Str), ("BadGround" : Str), true), (("CastError" : Str), ("BadPanel" : Str), true), (("CastError" : Str), ("BadPaper" : Str), true), (("CastError" : Str), ("BadStock" : Str), true), (("CastError" : Str), ("BadText" : Str), true), (("CastError" : Str), ("NoCommand" : Str), true), (("CastError" : Str), ("NoName" : Str), true), (("CastError" : Str), ("Nothing" : Str), true), (("CastError" : Str), ("Refused" : Str), true), (("CastError" : Str), ("TooMany" : Str), true), (("NoCommand" : Str), ("BadBytes" : Str), false), (("NoCommand" : Str), ("BadGround" : Str), false), (("NoCommand" : Str), ("BadPanel" : Str), false), (("NoCommand" : Str), ("BadPaper" : Str), false), (("NoCommand" : Str), ("BadStock" : Str), false), (("NoCommand" : Str), ("BadText" : Str), false), (("NoCommand" : Str), ("NoCommand" : Str), true), (("NoCommand" : Str), ("NoName" : Str), false), (("NoCommand" : Str), ("Nothing" : Str), false), (("NoCommand" : Str), ("Refused" : Str), false), (("NoCommand" : Str), ("TooMany" : Str), false), (("NoName" : Str), ("BadBytes" : Str), false), (("NoName" : Str), ("BadGround" : Str), false), (("NoName" : Str), ("BadPanel" : Str), false), (("NoName" : Str), ("BadPaper" : Str), false), (("NoName" : Str), ("BadStock" : Str), false), (("NoName" : Str), ("BadText" : Str), false), (("NoName" : Str), ("NoCommand" : Str), false), (("NoName" : Str), ("NoName" : Str), true), (("NoName" : Str), ("Nothing" : Str), false), (("NoName" : Str), ("Refused" : Str), false), (("NoName" : Str), ("TooMany" : Str), false), (("Nothing" : Str), ("BadBytes" : Str), false), (("Nothing" : Str), ("BadGround" : Str), false), (("Nothing" : Str), ("BadPanel" : Str), false), (("Nothing" : Str), ("BadPaper" : Str), false), (("Nothing" : Str), ("BadStock" : Str), false), (("Nothing" : Str), ("BadText" : Str), false), (("Nothing" : Str), ("NoCommand" : Str), false), (("Nothing" : Str), ("NoName" : Str), false), (("Nothing" : Str), ("Nothing" : Str), true), (("Nothing" : Str), ("Refused" : Str), false), (("Nothing" : Str), ("TooMany" : Str), false), (("Refused" : Str), ("BadBytes" : Str), false), (("Refused" : Str), ("BadGround" : Str), false), (("Refused" : Str), ("BadPanel" : Str), false), (("Refused" : Str), ("BadPaper" : Str), false), (("Refused" : Str), ("BadStock" : Str), false), (("Refused" : Str), ("BadText" : Str), false), (("Refused" : Str), ("NoCommand" : Str), false), (("Refused" : Str), ("NoName" : Str), false), (("Refused" : Str), ("Nothing" : Str), false), (("Refused" : Str), ("Refused" : Str), true), (("Refused" : Str), ("TooMany" : Str), false), (("TooMany" : Str), ("BadBytes" : Str), false), (("TooMany" : Str), ("BadGround" : Str), false), (("TooMany" : Str), ("BadPanel" : Str), false), (("TooMany" : Str), ("BadPaper" : Str), false), (("TooMany" : Str), ("BadStock" : Str), false), (("TooMany" : Str), ("BadText" : Str), false), (("TooMany" : Str), ("NoCommand" : Str), false), (("TooMany" : Str), ("NoName" : Str), false), (("TooMany" : Str), ("Nothing" : Str), false), (("TooMany" : Str), ("Refused" : Str), false), (("TooMany" : Str), ("TooMany" : Str), true), (("ValueError" : Str), ("BadBytes" : Str), true), (("ValueError" : Str), ("BadGround" : Str), true), (("ValueError" : Str), ("BadPanel" : Str), true), (("ValueError" : Str), ("BadPaper" : Str), true), (("ValueError" : Str), ("BadStock" : Str), true), (("ValueError" : Str), ("BadText" : Str), true), (("ValueError" : Str), ("NoCommand" : Str), true), (("ValueError" : Str), ("NoName" : Str), true), (("ValueError" : Str), ("Nothing" : Str), true), (("ValueError" : Str), ("Refused" : Str), true), (("ValueError" : Str), ("TooMany" : Str), true)]
def zs : List Str := ["Nothing"]
def XS (h c : Str) : Option Bool := xsAll xss zs h c
def xms : List (Str × Str) := [(("BadText" : Str), ("BadText" : Str)), (("BadText" : Str), ("BadGround" : Str)), (("BadText" : Str), ("BadStock" : Str)), (("BadText" : Str), ("BadPanel" : Str)), (("BadText" : Str), ("BadPaper" : Str)), (("BadText" : Str), ("BadBytes" : Str)), (("BadText" : Str), ("NoName" : Str)), (("BadText" : Str), ("NoCommand" : Str)), (("BadText" : Str), ("Refused" : Str)), (("BadText" : Str), ("TooMany" : Str)), (("BadGround" : Str), ("BadText" : Str)), (("BadGround" : Str), ("BadGround" : Str)), (("BadGround" : Str), ("BadStock" : Str)), (("BadGround" : Str), ("BadPanel" : Str)), (("BadGround" : Str), ("BadPaper" : Str)), (("BadGround" : Str), ("BadBytes" : Str)), (("BadGround" : Str), ("NoName" : Str)), (("BadGround" : Str), ("NoCommand" : Str)), (("BadGround" : Str), ("Refused" : Str)), (("BadGround" : Str), ("TooMany" : Str)), (("BadStock" : Str), ("BadText" : Str)), (("BadStock" : Str), ("BadGround" : Str)), (("BadStock" : Str), ("BadStock" : Str)), (("BadStock" : Str), ("BadPanel" : Str)), (("BadStock" : Str), ("BadPaper" : Str)), (("BadStock" : Str), ("BadBytes" : Str)), (("BadStock" : Str), ("NoName" : Str)), (("BadStock" : Str), ("NoCommand" : Str)), (("BadStock" : Str), ("Refused" : Str)), (("BadStock" : Str), ("TooMany" : Str)), (("BadPanel" : Str), ("BadText" : Str)), (("BadPanel" : Str), ("BadGround" : Str)), (("BadPanel" : Str), ("BadStock" : Str)), (("BadPanel" : Str), ("BadPanel" : Str)), (("BadPanel" : Str), ("BadPaper" : Str)), (("BadPanel" : Str), ("BadBytes" : Str)), (("BadPanel" : Str), ("NoName" : Str)), (("BadPanel" : Str), ("NoCommand" : Str)), (("BadPanel" : Str), ("Refused" : Str)), (("BadPanel" : Str), ("TooMany" : Str)), (("BadPaper" : Str), ("BadText" : Str)), (("BadPaper" : Str), ("BadGround" : Str)), (("BadPaper" : Str), ("BadStock" : Str)), (("BadPaper" : Str), ("BadPanel" : Str)), (("BadPaper" : Str), ("BadPaper" : Str)), (("BadPaper" : Str), ("BadBytes" : Str)), (("BadPaper" : Str), ("NoName" : Str)), (("BadPaper" : Str), ("NoCommand" : Str)), (("BadPaper" : Str), ("Refused" : Str)), (("BadPaper" : Str), ("TooMany" : Str)), (("BadBytes" : Str), ("BadText" : Str)), (("BadBytes" : Str), ("BadGround" : Str)), (("BadBytes" : Str), ("BadStock" : Str)), (("BadBytes" : Str), ("BadPanel" : Str)), (("BadBytes" : Str), ("BadPaper" : Str)), (("BadBytes" : Str), ("BadBytes" : Str)), (("BadBytes" : Str), ("NoName" : Str)), (("BadBytes" : Str), ("NoCommand" : Str)), (("BadBytes" : Str), ("Refused" : Str)), (("BadBytes" : Str), ("TooMany" : Str)), (("NoName" : Str), ("BadText" : Str)), (("NoName" : Str), ("BadGround" : Str)), (("NoName" : Str), ("BadStock" : Str)), (("NoName" : Str), ("BadPanel" : Str)), (("NoName" : Str), ("BadPaper" : Str)), (("NoName" : Str), ("BadBytes" : Str)), (("NoName" : Str), ("NoName" : Str)), (("NoName" : Str), ("NoCommand" : Str)), (("NoName" : Str), ("Refused" : Str)), (("NoName" : Str), ("TooMany" : Str)), (("NoCommand" : Str), ("BadText" : Str)), (("NoCommand" : Str), ("BadGround" : Str)), (("NoCommand" : Str), ("BadStock" : Str)), (("NoCommand" : Str), ("BadPanel" : Str)), (("NoCommand" : Str), ("BadPaper" : Str)), (("NoCommand" : Str), ("BadBytes" : Str)), (("NoCommand" : Str), ("NoName" : Str)), (("NoCommand" : Str), ("NoCommand" : Str)), (("NoCommand" : Str), ("Refused" : Str)), (("NoCommand" : Str), ("TooMany" : Str)), (("Refused" : Str), ("BadText" : Str)), (("Refused" : Str), ("BadGround" : Str)), (("Refused" : Str), ("BadStock" : Str)), (("Refused" : Str), ("BadPanel" : Str)), (("Refused" : Str), ("BadPaper" : Str)), (("Refused" : Str), ("BadBytes" : Str)), (("Refused" : Str), ("NoName" : Str)), (("Refused" : Str), ("NoCommand" : Str)), (("Refused" : Str), ("Refused" : Str)), (("Refused" : Str), ("TooMany" : Str)), (("TooMany" : Str), ("BadText" : Str)), (("TooMany" : Str), ("BadGround" : Str)), (("TooMany" : Str), ("BadStock" : Str)), (("TooMany" : Str), ("BadPanel" : Str)), (("TooMany" : Str), ("BadPaper" : Str)), (("TooMany" : Str), ("BadBytes" : Str)), (("TooMany" : Str), ("NoName" : Str)), (("TooMany" : Str), ("NoCommand" : Str)), (("TooMany" : Str), ("Refused" : Str)), (("TooMany" : Str), ("TooMany" : Str))]
def wns : List (Str × WrD) := []
def Wn (x : Str) : Option WrD := wns.lookup x
abbrev sTake : Stmt := topS 15
abbrev sBag : Stmt := topS 17
theorem scTake : FnScope ["bag", "many", "cell", "stirred", "value", "begin", "second"] ["bag", "many"] (defScope sTake) := fnScope_by' (by decide +kernel)
theorem scBag : FnScope ["script", "cell"] ["script"] (defScope sBag) := fnScope_by' (by decide +kernel)
section
variable {P : Program} {w : World} {K : PySem.W.Frag} {mg : Str → Option Value} {base : Heap} {T : Tb}
theorem ok_take {f : Addr} {fd : FuncData} (F : Fun K "_law_take" "_law_take" sTake f fd) (mi : mg "int" = none) : FnOk P w K mg base (L2.CX P w) 1 f fd ["bag", "many"] (spOf mg T K 2 false takeF) := by
  refine F.okX scTake (fun vs H Q E h => ?_) (fun cdv A outer s H vs Q E hr h => ?_)
  · obtain ⟨_, β, A, M, ds, _, _, r, hl, _⟩ := h
    rw [← r.length, hl]; rfl
  · refine ⟨_, pss_cons (ps_if (pn_cmp (f := fun i j => decide (i = j)) op_eq (fun i j H Q q => ⟨rfl, by simpa using q⟩) (pn_bg (f := fun x _ _ => x) rfl rfl (by decide) (by decide) (fun _ _ _ _ => rfl)) pn_int rfl)
        (pss_imp (t' := tDraw) (pss_cons (ps_set (i := 2) scTake.nd rfl (.inl rfl) (pe_ix ix_list (pe_op op_cat (pe_slice sl_list (pe_bg (i := 0) (j := 3) rfl rfl (by decide) (by decide)) (po_some (pe_bg (i := 0) (j := 2) rfl rfl (by decide) (by decide))) po_none) (pe_lst (pa_cons pe_int pa_nil))) pe_int (fun _ _ => rfl)))
        (pss_cons (ps_augS (pe_var (i := 0) rfl (.inl rfl) (by decide) (by decide)) pe_int get_list pe_int ip_add set_list (by intros; rfl))
        (pss_cons (ps_if (pn_cmp (f := fun i j => decide (j ≤ i)) op_ge (fun i j H Q q => ⟨i, j, rfl, rfl, q⟩) (pn_var (k := 2) rfl rfl (by decide) (by decide)) (pn_op .pow pn_int pn_int) rfl)
          (pss_one (ps_asg (pn_var (k := 2) rfl rfl (by decide) (by decide)) (pg_sub (pe_var (i := 0) rfl (.inl rfl) (by decide) (by decide)) pe_int set_list))) pss_nil)
        (pss_imp (t' := tStir) (pss_cons (ps_set (i := 3) scTake.nd rfl (.inl rfl) (pn_op .add (pn_op .add (pn_op .mul (pn_bg (f := fun _ y _ => y) rfl rfl (by decide) (by decide) (fun _ _ _ _ => rfl)) pn_int) (pn_op .mod (pn_in (by rfl) mi (pn_var (k := 2) rfl rfl (by decide) (by decide)) rfl) pn_int)) (pn_op .mul pn_int (pn_bg (f := fun _ _ z => z) rfl rfl (by decide) (by decide) (fun _ _ _ _ => rfl)))))
        (pss_one (ps_asg (pn_op .mod (pn_in (by rfl) mi (pn_var (k := 3) rfl rfl (by decide) (by decide)) rfl) pn_int) (pg_sub (pe_var (i := 0) rfl (.inl rfl) (by decide) (by decide)) pe_int set_list)))) (fun Z σ H q => ?stir)))))
          (fun Z σ H q => ?draw))
        pss_nil)
      (pss_imp (t' := tTail) (pss_cons (ps_if (pn_cmp (f := fun i j => decide (j < i)) op_gt (fun i j H Q q => ⟨i, j, rfl, rfl, q⟩) (pn_bg (f := fun x _ _ => x) rfl rfl (by decide) (by decide) (fun _ _ _ _ => rfl)) pn_int rfl)
        (pss_cons (ps_set (i := 4) scTake.nd rfl (.inl rfl) (pn_op .mod (pn_in (by rfl) mi (pn_bg (f := fun x _ _ => x) rfl rfl (by decide) (by decide) (fun _ _ _ _ => rfl)) rfl) (pn_var (k := 1) rfl rfl (by decide) (by decide))))
        (pss_cons (ps_asg (pn_op .fdiv (pn_in (by rfl) mi (pn_bg (f := fun x _ _ => x) rfl rfl (by decide) (by decide) (fun _ _ _ _ => rfl)) rfl) (pn_var (k := 1) rfl rfl (by decide) (by decide))) (pg_sub (pe_var (i := 0) rfl (.inl rfl) (by decide) (by decide)) pe_int set_list))
        (pss_one (ps_ret (pn_var (k := 4) rfl rfl (by decide) (by decide)))))) pss_nil)
      (pss_cons (ps_set (i := 5) scTake.nd rfl (.inl rfl) (pn_op .mod (pn_in (by rfl) mi (pn_op .mul (pn_op .add (pn_bg (f := fun _ y _ => y) rfl rfl (by decide) (by decide) (fun _ _ _ _ => rfl)) pn_int) pn_int) rfl) pn_int))
      (pss_cons (ps_set (i := 6) scTake.nd rfl (.inl rfl) (pn_op .mod (pn_in (by rfl) mi (pn_op .mul (pn_op .mod (pn_in (by rfl) mi (pn_op .mul (pn_var (k := 5) rfl rfl (by decide) (by decide)) (pn_var (k := 5) rfl rfl (by decide) (by decide))) rfl) pn_int) pn_int) rfl) pn_int))
      (pss_one (ps_ret (pn_op .mod (pn_in (by rfl) mi (pn_op .fdiv (pn_var (k := 6) rfl rfl (by decide) (by decide)) pn_int) rfl) (pn_var (k := 1) rfl rfl (by decide) (by decide)))))))) (fun Z σ H q => ?tail)), ?_⟩
    case stir =>
      obtain ⟨β, H0, M, n, cs, a, l, x, y, z, many, c, rfl, B, q⟩ := q
      refine ⟨a, l, x, y, z, y * 48271 + c % 2147483647 + 7919 * z, rfl, B.bag, by simp [intOf, binD], ?_⟩
      refine ⟨a, l, x, y, z, _, rfl, B.bag, by simp [intOf, binD]; rfl, ?_⟩
      refine ⟨.ref a, rfl, a, _, 1, 1, rfl, rfl, B.bag, rfl, ?_⟩
      exact q _ _ B.upd
    case draw =>
      obtain ⟨β, H0, M, n, cs, a, l, x, y, z, many, rfl, B, hc, q⟩ := q
      obtain ⟨v, hv, rfl⟩ := cutV_cells cs z
      have hcl := cut_len cs z
      refine ⟨a, _, .ref l, rfl, B.bag, rfl, a, _, .int z, rfl, B.bag, rfl, z, rfl, l, cs.map V.int, rfl, .inl (.inl B.cell), fun p1 hp1 => ⟨by decide, fun p2 hp2 => ⟨p1, p2, cutV (cs.map V.int) (some z) none, [V.int 0], rfl, rfl, ?_, upd_same, ?_, fun p3 hp3 => ?_⟩⟩⟩
      · have ne : p1 ≠ p2 := fun z => by rw [← z, upd_same] at hp2; cases hp2
        rw [upd_ne ne]; exact upd_same
      · have : sizeLine ≥ 1000 := by decide
        simp only [List.length_cons, List.length_nil]
        omega
      have B3 := ((B.new hp1).new hp2).new (o := .lst (cutV (cs.map V.int) (some z) none ++ [V.int 0])) hp3
      refine ⟨p3, _, 0, _, rfl, rfl, .inl (.inl upd_same), hv, ?_⟩
      refine ⟨.ref a, rfl, a, _, 2, .int z, rfl, rfl, .inl (.inl B3.bag), rfl, z, 1, rfl, rfl, a, _, 2, 2, rfl, rfl, B3.bag, rfl, ?_⟩
      have B4 := B3.upd (x' := x) (y' := y) (z' := z + 1)
      by_cases hb : 10 ^ 18 ≤ cellAt cs z
      · refine ⟨a, l, x, y, z + 1, true, rfl, B4.bag, ?_, iteT ?_⟩
        · have e : decide ((10 : Int) ^ 18 ≤ cellAt cs z) = true := decide_eq_true hb
          show some (decide ((10 : Int) ^ (18 : Int).toNat ≤ cellAt cs z)) = some true
          exact congrArg some e
        rw [if_pos hb] at q
        refine ⟨a, l, x, y, z + 1, cellAt cs z, rfl, B4.bag, rfl, .ref a, rfl, a, _, 0, 0, rfl, rfl, B4.bag, rfl, ?_⟩
        exact ⟨β, H0, M, n, cs, a, l, _, y, z + 1, many, cellAt cs z, rfl, B4.upd, fun H' c3 B' => q H' _ c3 B'⟩
      · refine ⟨a, l, x, y, z + 1, false, rfl, B4.bag, ?_, iteF ?_⟩
        · have e : decide ((10 : Int) ^ 18 ≤ cellAt cs z) = false := decide_eq_false hb
          show some (decide ((10 : Int) ^ (18 : Int).toNat ≤ cellAt cs z)) = some false
          exact congrArg some e
        rw [if_neg hb] at q
        exact ⟨β, H0, M, n, cs, a, l, _, y, z + 1, many, cellAt cs z, rfl, B4, fun H' c3 B' => q H' _ c3 B'⟩
    case tail =>
      obtain ⟨β, H0, M, n, cs, a, l, x, y, z, many, c2, c3, rfl, B, h1, h2, q⟩ := q
      by_cases hx : 0 < x
      · have e : takeV x y many = (x % many, x / many) := by unfold takeV; rw [if_pos hx]
        rw [e] at q
        refine ⟨a, l, x, y, z, true, rfl, B.bag, by simp [hx], iteT ?_⟩
        refine ⟨a, l, x, y, z, x % many, rfl, B.bag, by simp [intOf, binD, h1], ?_⟩
        refine ⟨a, l, x, y, z, x / many, rfl, B.bag, by simp [intOf, binD, h1, h2], ?_⟩
        refine ⟨.ref a, rfl, a, _, 0, 0, rfl, rfl, B.bag, rfl, ?_⟩
        have B' := B.upd (x' := x / many) (y' := y) (z' := z)
        exact ⟨a, l, _, y, z, x % many, rfl, B'.bag, rfl, q _ B'⟩
      · have e : takeV x y many = (((((((y + 1) * 39373) % 1000000007) * (((y + 1) * 39373) % 1000000007)) % 998244353 * 30011) % 998244353) / 7 % many, x) := by unfold takeV; rw [if_neg hx]
        rw [e] at q
        refine ⟨a, l, x, y, z, false, rfl, B.bag, by simp [hx], iteF ?_⟩
        have b1 : 0 ≤ (y + 1) * 39373 % 1000000007 ∧ (y + 1) * 39373 % 1000000007 < 1000000007 := ⟨Int.emod_nonneg _ (by decide), Int.emod_lt_of_pos _ (by decide)⟩
        refine ⟨a, l, x, y, z, (y + 1) * 39373 % 1000000007, rfl, B.bag, by simp [intOf, binD], ?_⟩
        refine ⟨a, l, x, y, z, ((((y + 1) * 39373) % 1000000007) * (((y + 1) * 39373) % 1000000007)) % 998244353 * 30011 % 998244353, rfl, B.bag, ?_, ?_⟩
        · have : -18446744073709551616 < (y + 1) * 39373 % 1000000007 ∧ (y + 1) * 39373 % 1000000007 < 18446744073709551616 := by omega
          generalize (y + 1) * 39373 % 1000000007 = g at this
          simp [intOf, binD, this]
        · refine ⟨a, l, x, y, z, _, rfl, B.bag, by simp [intOf, binD, h1]; rfl, ?_⟩
          exact q _ B
    obtain ⟨htb, β, A1, M, ds, m, hA, r, hl, p⟩ := h
    have hp : takeF ds M ≠ .stuck := fun z => by rw [z] at p; exact p
    unfold takeF at p hp
    split at p
    · rename_i n many
      split at p
      · rename_i x y z cs h1 h2
        split at p
        · rename_i hc
          simp only [Reps, Rep] at r
          obtain ⟨v, r', rfl, ⟨a, ha, rfl⟩, v2, r2, rfl, rfl, rfl⟩ := r
          have hn : n < M.length := (List.getElem?_eq_some_iff.mp h1).1
          have em : M.set n (.bag x y z) = M := by
            obtain ⟨q1, q2⟩ := List.getElem?_eq_some_iff.mp h1
            rw [← q2]; exact List.set_getElem_self q1
          obtain ⟨l, hl1, hl2⟩ := m.at_ n a _ ha h1
          have B : BagAt β H M n cs a l x y z H := ⟨ha, hl2, h2, hn, Ext.refl _ _, by rw [em]; exact m⟩
          have fin : ∀ H' x' y' z' v, BagAt β H M n cs a l x' y' z' H' → v = (takeS x y z cs many).1 → x' = (takeS x y z cs many).2.1 → y' = (takeS x y z cs many).2.2.1 → z' = (takeS x y z cs many).2.2.2 → Q (.int v) H' := fun H' x' y' z' v B' e1 e2 e3 e4 => by
            subst e1 e2 e3 e4
            exact p β _ H' B'.ext B'.mem (show Rep K β A1 H' _ _ from rep_int)
          by_cases hx : x = 0
          · refine ⟨a, l, x, y, z, true, rfl, B.bag, by simp [hx], ?_⟩
            refine iteT ⟨β, H, M, n, cs, a, l, x, y, z, many, rfl, B, hc.2.2, fun H' c2 c3 B1 => ⟨β, H, M, n, cs, a, l, _, _, _, many, c2, c3, rfl, B1, hc.1, hc.2.1, fun H2 B2 => fin H2 _ _ _ _ B2 ?_ ?_ ?_ ?_⟩⟩ <;> (unfold takeS; rw [if_pos hx]; try rfl)
          · refine ⟨a, l, x, y, z, false, rfl, B.bag, by simp [hx], ?_⟩
            refine iteF ⟨β, H, M, n, cs, a, l, x, y, z, many, none, none, rfl, B, hc.1, hc.2.1, fun H2 B2 => fin H2 _ _ _ _ B2 ?_ ?_ ?_ ?_⟩ <;> (unfold takeS; rw [if_neg hx]; try rfl)
        · exact p.elim
      · exact p.elim
    · exact p.elim
theorem ok_bag {f : Addr} {fd : FuncData} (F : Fun K "_law_bag" "_law_bag" sBag f fd) (mb : ∀ x ∈ bltNames, mg x = none) : FnOk P w K mg base (L2.CX P w) 1 f fd ["script"] (spOf mg T K 1 false bagF) := by
  refine F.okX scBag (fun vs H Q E h => ?_) (fun cdv A outer s H vs Q E hr h => ?_)
  · obtain ⟨_, β, A, M, ds, _, _, r, hl, _⟩ := h
    rw [← r.length, hl]; rfl
  · obtain ⟨htb, β, A1, M, ds, m, hA, r, hl, p⟩ := h
    have fx : Fx P w K mg base (tbl (fun _ => none) (fun _ => none) (fun _ _ => none) (fun _ => none) []) (gam []) 0 := ⟨fun x d z => (nomatch z), mb, fun x n fr z => (nomatch z), fun c n z => (nomatch z), fun c h nc nh C Ch z => (nomatch z), fun x W z => (nomatch z), ⟨fun c n z => (nomatch z), fun h c b _ z => (nomatch z), fun c b z => (nomatch z)⟩⟩
    have C : CxOk (cxOf (L2.CX P w) P w K mg base ["script", "cell"] "_law_bag" (defScope sBag) f cdv A outer s H E) (tbl (fun _ => none) (fun _ => none) (fun _ _ => none) (fun _ => none) []) (gam []) 0 true (defScope sBag) ["script", "cell"] := ⟨rfl, scBag.nd, rfl, fun _ => rfl, fun _ => hr, hr.units, fx, fun _ z => by obtain ⟨_, _, _, z⟩ := z; cases z⟩
    refine ⟨_, pss_one (ps_ret (pe_lst (pa_cons pe_int (pa_cons pe_int (pa_cons pe_int (pa_cons ((sound bagComp).e _ _ (fun cls d _ H => E cls d H) _ C (takes_of rfl rfl rfl rfl) (by decide +kernel)) pa_nil)))))), ?_⟩
    have hp : bagF ds M ≠ .stuck := fun z => by rw [z] at p; exact p
    unfold bagF at p hp
    split at p
    · rename_i ns
      split at p
      · rename_i h63
        refine ⟨β, A1, M, fun _ => none, startG 2 [.scr ns], start_re (N := ["script", "cell"]) m hA r htb, ?_⟩
        rw [bagComp_sem h63]
        intro β' v H' e m' rv
        obtain ⟨l, rfl, hl', o⟩ := rv
        refine ⟨by show 4 ≤ sizeLine; decide, fun q hq => ?_⟩
        have o' : Own K β' (fun z => avo A1 (fun _ => none) z ∨ z = l) H' (.lst ((ns.map fun i => if i < 0 then -i else i).map D.int)) l := by
          rw [List.map_map]; exact o
        obtain ⟨e1, e2, e3⟩ := bag_made e m' hl' o' hq
        exact p _ (.ref q) _ e1 e2 (repF_obj e3)
      · exact p.elim
    · exact p.elim
end
def L0 : Tab := [("_law_take", 2, false, takeF), ("_law_bag", 1, false, bagF)]
/-! _law_some -/
abbrev s_law_some : Stmt := topS 16
abbrev N_law_some : List Str := ["bag", "things"]
abbrev P_law_some : List Str := ["bag", "things"]
def I_law_some : List IS :=
  [.ret (.idx (.var 1) (.call "_law_take" [.var 0, .blt .len [.var 1]]))]
noncomputable def L1 : Tab := ("_law_some", P_law_some.length, false, semF (gam L0) Cn N_law_some.length false I_law_some) :: L0
theorem m_law_some : mSs (tbl Cn XN XS Wn L0) N_law_some (defScope s_law_some) false I_law_some (defBody s_law_some) = true := by decide +kernel
theorem sc_law_some : FnScope N_law_some P_law_some (defScope s_law_some) := fnScope_by' (by decide +kernel)
/-! _law_alike -/
abbrev s_law_alike : Stmt := topS 18
abbrev N_law_alike : List Str := ["found", "due", "pairs", "at", "one", "other"]
abbrev P_law_alike : List Str := ["found", "due"]
def I_law_alike : List IS :=
  [.par2 true 2 3 (.lst [.tup [.var 0, .var 1]]) (.int 0),
  .whl (.cmp .lt (.var 3) (.blt .len [.bor 2]))
   [.set (.tp [.nm 4, .nm 5]) (.idx (.bor 2) (.var 3)),
    .aug 3 .add (.int 1),
    .ife (.or (.cmp .ne (.isi [.bool] (.var 4)) (.isi [.bool] (.var 5))) (.cmp .ne (.isi [.str] (.var 4)) (.isi [.str] (.var 5))))
     [.ret (.bl false)]
     [],
    .ife (.cmp .ne (.isi [.tuple, .list] (.var 4)) (.isi [.tuple, .list] (.var 5)))
     [.ret (.bl false)]
     [],
    .ife (.isi [.tuple, .list] (.var 4))
     [.ife (.or (.cmp .ne (.isi [.tuple] (.var 4)) (.isi [.tuple] (.var 5))) (.cmp .ne (.blt .len [.var 4]) (.blt .len [.var 5])))
       [.ret (.bl false)]
       [],
      .ext 2 (.zipl (.var 4) (.var 5))]
     [.ife (.cmp .ne (.var 4) (.var 5))
       [.ret (.bl false)]
       []]],
  .ret (.bl true)]
noncomputable def L2 : Tab := ("_law_alike", P_law_alike.length, false, semF (gam L1) Cn N_law_alike.length false I_law_alike) :: L1
theorem m_law_alike : mSs (tbl Cn XN XS Wn L1) N_law_alike (defScope s_law_alike) false I_law_alike (defBody s_law_alike) = true := by decide +kernel
theorem sc_law_alike : FnScope N_law_alike P_law_alike (defScope s_law_alike) := fnScope_by' (by decide +kernel)
/-! _law_a_value -/
abbrev s_law_a_value : Stmt := topS 19
abbrev N_law_a_value : List Str := ["bag"]
abbrev P_law_a_value : List Str := ["bag"]
def I_law_a_value : List IS :=
  [.ret (.call "_law_some" [.var 0, .lst [.non, .bl true, .int 0, .neg (.int 1), .bin .pow (.int 10) (.int 30), .str "", .str "zz", .tup [], .tup [.int 1, .str "a"], .lst [.int 1], .dct0]])]
noncomputable def L3 : Tab := ("_law_a_value", P_law_a_value.length, false, semF (gam L2) Cn N_law_a_value.length false I_law_a_value) :: L2
theorem m_law_a_value : mSs (tbl Cn XN XS Wn L2) N_law_a_value (defScope s_law_a_value) false I_law_a_value (defBody s_law_a_value) = true := by decide +kernel
theorem sc_law_a_value : FnScope N_law_a_value P_law_a_value (defScope s_law_a_value) := fnScope_by' (by decide +kernel)
/-! law -/
abbrev s_law : Stmt := topS 20
abbrev N_law : List Str := ["script", "bag", "turn", "one", "two", "text", "ground", "stock", "panel", "paper", "octets", "name", "line", "why", "gone", "many", "kept", "every", "error", "told", "at"]
abbrev P_law : List Str := ["script"]
def I_law : List IS :=
  [.set (.nm 1) (.call "_law_bag" [.var 0]),
  .for (.nm 2) .range1 [.int 4]
   [.par2 false 3 4 (.call "_law_a_value" [.var 1]) (.call "_law_a_value" [.var 1]),
    .set (.tp [.nm 5, .nm 6, .nm 7, .nm 8]) (.tup [.mkx "BadText" ["line", "column"] [.var 3, .var 4], .mkx "BadGround" ["spot", "fault"] [.var 3, .var 4], .mkx "BadStock" ["spot", "fault"] [.var 3, .var 4], .mkx "BadPanel" ["spot", "fault"] [.var 3, .var 4]]),
    .set (.tp [.nm 9, .nm 10, .nm 11, .nm 12]) (.tup [.mkx "BadPaper" ["spot", "fault"] [.var 3, .var 4], .mkx "BadBytes" ["index", "fault"] [.var 3, .var 4], .mkx "NoName" ["name"] [.var 3], .mkx "NoCommand" ["line"] [.var 4]]),
    .par3 13 14 15 (.mkx "Refused" ["why"] [.var 3]) (.mkx "Nothing" [] []) (.mkx "TooMany" ["what", "limit"] [.var 3, .var 4]),
    .set (.nm 16) (.lst [.o1 (.exf "line" ["BadText", "NoCommand"]) (.var 5), .o1 (.exf "column" ["BadText"]) (.var 5), .o1 (.exf "spot" ["BadGround", "BadPanel", "BadPaper", "BadStock"]) (.var 6), .o1 (.exf "fault" ["BadBytes", "BadGround", "BadPanel", "BadPaper", "BadStock"]) (.var 6), .o1 (.exf "spot" ["BadGround", "BadPanel", "BadPaper", "BadStock"]) (.var 7), .o1 (.exf "fault" ["BadBytes", "BadGround", "BadPanel", "BadPaper", "BadStock"]) (.var 7), .o1 (.exf "spot" ["BadGround", "BadPanel", "BadPaper", "BadStock"]) (.var 8), .o1 (.exf "fault" ["BadBytes", "BadGround", "BadPanel", "BadPaper", "BadStock"]) (.var 8)]),
    .set (.nm 16) (.bin .add (.var 16) (.lst [.o1 (.exf "spot" ["BadGround", "BadPanel", "BadPaper", "BadStock"]) (.var 9), .o1 (.exf "fault" ["BadBytes", "BadGround", "BadPanel", "BadPaper", "BadStock"]) (.var 9), .o1 (.exf "index" ["BadBytes"]) (.var 10), .o1 (.exf "fault" ["BadBytes", "BadGround", "BadPanel", "BadPaper", "BadStock"]) (.var 10), .o1 (.exf "what" ["TooMany"]) (.var 15), .o1 (.exf "limit" ["TooMany"]) (.var 15)])),
    .ife (.or (.not (.call "_law_alike" [.var 16, .bin .mul (.lst [.var 3, .var 4]) (.int 7)])) (.not (.call "_law_alike" [.lst [.o1 (.exf "name" ["NoName"]) (.var 11), .o1 (.exf "line" ["BadText", "NoCommand"]) (.var 12), .o1 (.exf "why" ["Refused"]) (.var 13)], .lst [.var 3, .var 4, .var 3]])))
     [.ret (.bl false)]
     [],
    .set (.nm 17) (.lst [.var 5, .var 6, .var 7, .var 8, .var 9, .var 10, .var 11, .var 12, .var 13, .var 14, .var 15]),
    .for (.nm 18) .any [.var 17]
     [.ife (.or (.not (.o1 (.isX "CastError" [("BadBytes", true), ("BadGround", true), ("BadPanel", true), ("BadPaper", true), ("BadStock", true), ("BadText", true), ("NoCommand", true), ("NoName", true), ("Nothing", true), ("Refused", true), ("TooMany", true)]) (.var 18))) (.not (.o1 (.isX "ValueError" [("BadBytes", true), ("BadGround", true), ("BadPanel", true), ("BadPaper", true), ("BadStock", true), ("BadText", true), ("NoCommand", true), ("NoName", true), ("Nothing", true), ("Refused", true), ("TooMany", true)]) (.var 18))))
       [.ret (.bl false)]
       []],
    .set (.nm 19) (.bin .add (.comp (.o1 (.isX "BadText" [("BadBytes", false), ("BadGround", false), ("BadPanel", false), ("BadPaper", false), ("BadStock", false), ("BadText", true), ("NoCommand", false), ("NoName", false), ("Nothing", false), ("Refused", false), ("TooMany", false)]) (.var 18)) (.nm 18) [("error", 18)] .any [.var 17] []) (.comp (.o1 (.isX "BadGround" [("BadBytes", false), ("BadGround", true), ("BadPanel", false), ("BadPaper", false), ("BadStock", false), ("BadText", false), ("NoCommand", false), ("NoName", false), ("Nothing", false), ("Refused", false), ("TooMany", false)]) (.var 18)) (.nm 18) [("error", 18)] .any [.var 17] [])),
    .set (.nm 19) (.bin .add (.bin .add (.var 19) (.comp (.o1 (.isX "BadStock" [("BadBytes", false), ("BadGround", false), ("BadPanel", false), ("BadPaper", false), ("BadStock", true), ("BadText", false), ("NoCommand", false), ("NoName", false), ("Nothing", false), ("Refused", false), ("TooMany", false)]) (.var 18)) (.nm 18) [("error", 18)] .any [.var 17] [])) (.comp (.o1 (.isX "BadPanel" [("BadBytes", false), ("BadGround", false), ("BadPanel", true), ("BadPaper", false), ("BadStock", false), ("BadText", false), ("NoCommand", false), ("NoName", false), ("Nothing", false), ("Refused", false), ("TooMany", false)]) (.var 18)) (.nm 18) [("error", 18)] .any [.var 17] [])),
    .set (.nm 19) (.bin .add (.bin .add (.var 19) (.comp (.o1 (.isX "BadPaper" [("BadBytes", false), ("BadGround", false), ("BadPanel", false), ("BadPaper", true), ("BadStock", false), ("BadText", false), ("NoCommand", false), ("NoName", false), ("Nothing", false), ("Refused", false), ("TooMany", false)]) (.var 18)) (.nm 18) [("error", 18)] .any [.var 17] [])) (.comp (.o1 (.isX "BadBytes" [("BadBytes", true), ("BadGround", false), ("BadPanel", false), ("BadPaper", false), ("BadStock", false), ("BadText", false), ("NoCommand", false), ("NoName", false), ("Nothing", false), ("Refused", false), ("TooMany", false)]) (.var 18)) (.nm 18) [("error", 18)] .any [.var 17] [])),
    .set (.nm 19) (.bin .add (.bin .add (.var 19) (.comp (.o1 (.isX "NoName" [("BadBytes", false), ("BadGround", false), ("BadPanel", false), ("BadPaper", false), ("BadStock", false), ("BadText", false), ("NoCommand", false), ("NoName", true), ("Nothing", false), ("Refused", false), ("TooMany", false)]) (.var 18)) (.nm 18) [("error", 18)] .any [.var 17] [])) (.comp (.o1 (.isX "NoCommand" [("BadBytes", false), ("BadGround", false), ("BadPanel", false), ("BadPaper", false), ("BadStock", false), ("BadText", false), ("NoCommand", true), ("NoName", false), ("Nothing", false), ("Refused", false), ("TooMany", false)]) (.var 18)) (.nm 18) [("error", 18)] .any [.var 17] [])),
    .set (.nm 19) (.bin .add (.bin .add (.var 19) (.comp (.o1 (.isX "Refused" [("BadBytes", false), ("BadGround", false), ("BadPanel", false), ("BadPaper", false), ("BadStock", false), ("BadText", false), ("NoCommand", false), ("NoName", false), ("Nothing", false), ("Refused", true), ("TooMany", false)]) (.var 18)) (.nm 18) [("error", 18)] .any [.var 17] [])) (.comp (.o1 (.isX "Nothing" [("BadBytes", false), ("BadGround", false), ("BadPanel", false), ("BadPaper", false), ("BadStock", false), ("BadText", false), ("NoCommand", false), ("NoName", false), ("Nothing", true), ("Refused", false), ("TooMany", false)]) (.var 18)) (.nm 18) [("error", 18)] .any [.var 17] [])),
    .set (.nm 19) (.bin .add (.var 19) (.comp (.o1 (.isX "TooMany" [("BadBytes", false), ("BadGround", false), ("BadPanel", false), ("BadPaper", false), ("BadStock", false), ("BadText", false), ("NoCommand", false), ("NoName", false), ("Nothing", false), ("Refused", false), ("TooMany", true)]) (.var 18)) (.nm 18) [("error", 18)] .any [.var 17] [])),
    .ife (.cmp .ne (.var 19) (.comp (.cmp .eq (.bin .fdiv (.blt .int [.var 20]) (.int 11)) (.bin .mod (.var 20) (.int 11))) (.nm 20) [("at", 20)] .range1 [.int 121] []))
     [.ret (.bl false)]
     []],
  .ret (.bl true)]
noncomputable def L4 : Tab := ("law", P_law.length, false, semF (gam L3) Cn N_law.length false I_law) :: L3
theorem m_law : mSs (tbl Cn XN XS Wn L3) N_law (defScope s_law) false I_law (defBody s_law) = true := by decide +kernel
theorem sc_law : FnScope N_law P_law (defScope s_law) := fnScope_by' (by decide +kernel)
/-! ### k00: the draws -/
theorem g_bag : gam L3 "_law_bag" = bagF := by kernel_rfl
theorem g_take0 : gam L0 "_law_take" = takeF := by kernel_rfl
theorem g_some : gam L2 "_law_some" = semF (gam L0) Cn 2 false I_some := by kernel_rfl
theorem g_alike : gam L3 "_law_alike" = semF (gam L1) Cn 6 false I_alike := by kernel_rfl
theorem g_val : gam L3 "_law_a_value" = semF (gam L2) Cn 1 false I_law_a_value := by kernel_rfl
def menu : List D := [.non, .bl true, .int 0, .int (-1), .int (10 ^ 30), .str "", .str "zz", .tup [], .tup [.int 1, .str "a"], .lst [.int 1], .dct [] []]
/-- what is drawn -/
structure Val (d : D) : Prop where
  leaf : d.leafy = true
  dep : d.depth ≤ 1
  siz : d.size ≤ 3
theorem menu_val : ∀ d ∈ menu, Val d := by
  intro d h
  simp only [menu, List.mem_cons, List.not_mem_nil, or_false] at h
  rcases h with rfl | rfl | rfl | rfl | rfl | rfl | rfl | rfl | rfl | rfl | rfl <;> exact ⟨by rfl, by decide, by decide⟩
theorem val_spec {M : Mem} (h : Bg M) : ∃ d M', semF (gam L2) Cn 1 false I_law_a_value [.obj 0] M = .ok d M' ∧ Val d ∧ Bg M' := by
  obtain ⟨d, M', e, hd, hb⟩ := some_spec (Cn := Cn) g_take0 h (xs := menu) (by simp [menu]) (by decide)
  refine ⟨d, M', ?_, menu_val d hd, hb⟩
  have ea : semEs (gam L2) Cn [.var 0, .lst [.non, .bl true, .int 0, .neg (.int 1), .bin .pow (.int 10) (.int 30), .str "", .str "zz", .tup [], .tup [.int 1, .str "a"], .lst [.int 1], .dct0]] [.v (.obj 0)] M = .ok [.obj 0, .lst menu] M := by kernel_rfl
  unfold semF I_law_a_value
  exact sem_ret (sem_call ea (by rw [g_some]; exact e))
theorem g_xval {M : Mem} {σ : Sg} (h1 : σ[1]? = some (.v (.obj 0))) (h : Bg M) : ∃ d M', semE (gam L3) Cn (.call "_law_a_value" [.var 1]) σ M = .ok d M' ∧ Val d ∧ Bg M' := by
  obtain ⟨d, M', e, v, b⟩ := val_spec h
  exact ⟨d, M', sem_call (xs := [.obj 0]) (M' := M) (by simp only [semEs, semE, h1, Res.bind]) (by rw [g_val]; exact e), v, b⟩
/-! ### the turn -/
def turnB : List IS := match I_law with
  | [_, .for _ _ _ b, _] => b
  | _ => []
def pre : List IS := (turnB.drop 1).take 5
def gd : IE := match turnB.drop 6 with
  | .ife t _ _ :: _ => t
  | _ => .non
def post : List IS := turnB.drop 7
theorem turn_is : turnB = .par2 false 3 4 (.call "_law_a_value" [.var 1]) (.call "_law_a_value" [.var 1]) :: (pre ++ .ife gd [.ret (.bl false)] [] :: post) := by kernel_rfl

theorem semSs_app {Γ : Fns} {Cn : Str → Option D} : ∀ (a b : List IS) (σ : Sg) (M : Mem), semSs Γ Cn (a ++ b) σ M = (semSs Γ Cn a σ M).then (semSs Γ Cn b)
  | [], b, σ, M => by simp only [List.nil_append, semSs, Out.then]
  | s :: a, b, σ, M => by
    simp only [List.cons_append, semSs]
    cases semS Γ Cn s σ M with
    | nx σ' M' => simp only [Out.then]; exact semSs_app a b σ' M'
    | _ => rfl
/-- the errors made -/
def made (one two : D) : List D := [.exn "BadText" ["line", "column"] [one, two], .exn "BadGround" ["spot", "fault"] [one, two], .exn "BadStock" ["spot", "fault"] [one, two], .exn "BadPanel" ["spot", "fault"] [one, two],
  .exn "BadPaper" ["spot", "fault"] [one, two], .exn "BadBytes" ["index", "fault"] [one, two], .exn "NoName" ["name"] [one], .exn "NoCommand" ["line"] [two], .exn "Refused" ["why"] [one], .exn "Nothing" [] [], .exn "TooMany" ["what", "limit"] [one, two]]
def kept (one two : D) : List D := [one, two, one, two, one, two, one, two, one, two, one, two, one, two]
def frameA (a0 a2 : SV) (one two : D) (r : List SV) : Sg := a0 :: .v (.obj 0) :: a2 :: .v one :: .v two :: ((made one two).map .v ++ .v (.lst (kept one two)) :: r)
def frameB (a0 a2 : SV) (one two : D) (a20 : SV) : Sg := a0 :: .v (.obj 0) :: a2 :: .v one :: .v two :: ((made one two).map .v ++ [.v (.lst (kept one two)), .v (.lst (made one two)), .v (.exn "TooMany" ["what", "limit"] [one, two]), .v (.lst ((List.range 121).map fun n => .bl (n / 11 == n % 11))), a20])
theorem pre_run (a0 a2 a5 a6 a7 a8 a9 a10 a11 a12 a13 a14 a15 a16 a17 a18 a19 a20 : SV) (one two : D) (M : Mem) :
    semSs (gam L3) Cn pre [a0, .v (.obj 0), a2, .v one, .v two, a5, a6, a7, a8, a9, a10, a11, a12, a13, a14, a15, a16, a17, a18, a19, a20] M = .nx (frameA a0 a2 one two [a17, a18, a19, a20]) M := by kernel_rfl
theorem post_run (a0 a2 a17 a18 a19 a20 : SV) (one two : D) (M : Mem) : semSs (gam L3) Cn post (frameA a0 a2 one two [a17, a18, a19, a20]) M = .nx (frameB a0 a2 one two a20) M := by kernel_rfl
def esA : List IE := match gd with
  | .or (.not (.call _ es)) _ => es
  | _ => []
def esB : List IE := match gd with
  | .or _ (.not (.call _ es)) => es
  | _ => []
theorem gd_is : gd = .or (.not (.call "_law_alike" esA)) (.not (.call "_law_alike" esB)) := by kernel_rfl
theorem esA_run (a0 a2 a17 a18 a19 a20 : SV) (one two : D) (M : Mem) : semEs (gam L3) Cn esA (frameA a0 a2 one two [a17, a18, a19, a20]) M = .ok [.lst (kept one two), .lst (kept one two)] M := by kernel_rfl
theorem esB_run (a0 a2 a17 a18 a19 a20 : SV) (one two : D) (M : Mem) : semEs (gam L3) Cn esB (frameA a0 a2 one two [a17, a18, a19, a20]) M = .ok [.lst [one, two, one], .lst [one, two, one]] M := by kernel_rfl
theorem not_T {Γ : Fns} {Cn : Str → Option D} {σ : Sg} {M : Mem} {e : IE} (h : semE Γ Cn e σ M = .ok (.bl true) M) : semE Γ Cn (.not e) σ M = .ok (.bl false) M := by
  simp only [semE, h, Res.bind, truD]; rfl
theorem gd_run (a0 a2 a17 a18 a19 a20 : SV) {one two : D} (h1 : Val one) (h2 : Val two) (M : Mem) : semE (gam L3) Cn gd (frameA a0 a2 one two [a17, a18, a19, a20]) M = .ok (.bl false) M := by
  have hz : sizeLine ≥ 10000 := by decide
  have d1 := h1.dep
  have d2 := h2.dep
  have s1 := h1.siz
  have s2 := h2.siz
  have hd : deep = 60 := rfl
  have eA : semE (gam L3) Cn (.call "_law_alike" esA) (frameA a0 a2 one two [a17, a18, a19, a20]) M = .ok (.bl true) M := sem_call (esA_run ..) (by
    rw [g_alike]
    refine alike_leafy ?_ ?_ ?_
    · simp only [D.leafy, kept, D.leafys, h1.leaf, h2.leaf, Bool.and_self]
    · simp only [D.depth, kept, D.depths]; omega
    · simp only [D.size, kept, D.sizes]; omega)
  have eB : semE (gam L3) Cn (.call "_law_alike" esB) (frameA a0 a2 one two [a17, a18, a19, a20]) M = .ok (.bl true) M := sem_call (esB_run ..) (by
    rw [g_alike]
    refine alike_leafy ?_ ?_ ?_
    · simp only [D.leafy, D.leafys, h1.leaf, h2.leaf, Bool.and_self]
    · simp only [D.depth, D.depths]; omega
    · simp only [D.size, D.sizes]; omega)
  rw [gd_is]
  exact sem_or (not_T eA) (not_T eB)
def Fr (σ : Sg) : Prop := ∃ a0 a2 a3 a4 a5 a6 a7 a8 a9 a10 a11 a12 a13 a14 a15 a16 a17 a18 a19 a20 : SV, σ = [a0, .v (.obj 0), a2, a3, a4, a5, a6, a7, a8, a9, a10, a11, a12, a13, a14, a15, a16, a17, a18, a19, a20]
theorem law_turn {σ : Sg} {M : Mem} (hf : Fr σ) (hb : Bg M) : ∃ σ' M', semSs (gam L3) Cn turnB σ M = .nx σ' M' ∧ Fr σ' ∧ Bg M' := by
  obtain ⟨a0, a2, a3, a4, a5, a6, a7, a8, a9, a10, a11, a12, a13, a14, a15, a16, a17, a18, a19, a20, rfl⟩ := hf
  obtain ⟨one, M1, e1, v1, b1⟩ := g_xval (σ := [a0, .v (.obj 0), a2, a3, a4, a5, a6, a7, a8, a9, a10, a11, a12, a13, a14, a15, a16, a17, a18, a19, a20]) rfl hb
  obtain ⟨two, M2, e2, v2, b2⟩ := g_xval (σ := [a0, .v (.obj 0), a2, a3, a4, a5, a6, a7, a8, a9, a10, a11, a12, a13, a14, a15, a16, a17, a18, a19, a20]) rfl b1
  rw [turn_is, sem_cons (sem_par2 e1 e2)]
  show ∃ σ' M', semSs (gam L3) Cn _ [a0, .v (.obj 0), a2, .v one, .v two, a5, a6, a7, a8, a9, a10, a11, a12, a13, a14, a15, a16, a17, a18, a19, a20] M2 = _ ∧ _ ∧ _
  rw [semSs_app, pre_run]
  simp only [Out.then]
  rw [sem_skip (gd_run _ _ _ _ _ _ v1 v2 _), post_run]
  exact ⟨_, _, rfl, ⟨_, _, _, _, _, _, _, _, _, _, _, _, _, _, _, _, _, _, _, _, rfl⟩, b2⟩
theorem law_is : I_law = [.set (.nm 1) (.call "_law_bag" [.var 0]), .for (.nm 2) .range1 [.int 4] turnB, .ret (.bl true)] := by kernel_rfl
theorem law_holds : ∀ ns : List Int, ns.length ≤ 63 → ∃ M, semF (gam L3) Cn N_law.length false I_law [.scr ns] [] = .ok (.bl true) M := fun ns hn => by
  obtain ⟨M, e, b⟩ := bag_spec hn
  rw [← g_bag] at e
  rw [law_is]
  unfold semF
  rw [sem_cons (sem_set (sem_call (xs := [.scr ns]) (M' := []) (by kernel_rfl) e))]
  obtain ⟨σ1, M1, e1, f1, b1⟩ := forL_inv (asg := asgT (.nm 2)) (b := semSs (gam L3) Cn turnB) (fun σ M => Fr σ ∧ Bg M) (rangeL 0 4) (fun x hx σ M h => by
    obtain ⟨h1, h2⟩ := h
    obtain ⟨a0, a2, a3, a4, a5, a6, a7, a8, a9, a10, a11, a12, a13, a14, a15, a16, a17, a18, a19, a20, rfl⟩ := h1
    obtain ⟨σ', M', e, f, b⟩ := law_turn (σ := [a0, .v (.obj 0), .v x, a3, a4, a5, a6, a7, a8, a9, a10, a11, a12, a13, a14, a15, a16, a17, a18, a19, a20]) ⟨a0, _, a3, a4, a5, a6, a7, a8, a9, a10, a11, a12, a13, a14, a15, a16, a17, a18, a19, a20, rfl⟩ h2
    exact ⟨_, rfl, σ', M', e, f, b⟩) ((startG N_law.length [.scr ns]).set 1 (.v (.obj 0))) M ⟨⟨_, _, _, _, _, _, _, _, _, _, _, _, _, _, _, _, _, _, _, _, rfl⟩, b⟩
  rw [sem_for (show semI (gam L3) Cn .range1 [.int 4] _ M = .ok (rangeL 0 4) M from rfl) e1]
  exact ⟨M1, sem_ret rfl⟩

/-! the end -/
theorem law_true : ∀ ns : List Int, ns.length ≤ 63 → ∃ M, semF (gam L3) Cn N_law.length false I_law [.scr ns] [] = .ok (.bl true) M := law_holds
theorem all_mk {l : PySem.W.OpenLaw} {w : World} {K : PySem.W.Frag} {h : Heap} {mg : Str → Option Value} {fa : Addr} (X : K.In h) (G : h.Ns mainGlobals mg) (hfa : mg "law" = some (.ref fa))
    (dT : DefAt K "_law_take" sTake) (dB : DefAt K "_law_bag" sBag) (d0 : DefAt K "_law_some" s_law_some) (d1 : DefAt K "_law_alike" s_law_alike) (d2 : DefAt K "_law_a_value" s_law_a_value)  (hc : ConsAt K cns) (hz : NoneAt K bltNames) (hx : XcsAt l.prog K xns) (hxm : XmsAt K xms) (hxs : IssAt K xss) (hz0 : Ex0sAt K zs) (d3 : DefAt K "law" s_law) :
    LamX.LawAtS l w K (L2.CX l.prog w) 8 63 "script" mg fa h := by
  have hw : WrsAt K (fun x => xns.lookup x) wns := True.intro
  refine law_end (Cn := Cn) (XN := XN) (XS := XS) (Wn := Wn) (L := L3) (body := I_law) (N := N_law) (kk := 7) X G hfa d3 sc_law m_law law_true (fun fd f F s v => ?_) (by unfold lamTabs; rfl) fun base k1 k2 => ?_
  · obtain ⟨oc, od, kV, doc, pm, an, cdv, ct, osl, rfl, lk, hcd⟩ := F.ex
    exact .of_eq rfl
  · have f0 : Fx l.prog w K mg base (tbl Cn XN XS Wn L0) (gam L0) 4 := fx_base X G hc hz hx hxm hxs hz0 (by decide +kernel) hw dT dB (fun f fd F => F.binds fun _ _ _ _ _ _ us hl => match us, hl with | [_, _], _ => rfl) (fun f fd F => F.binds fun _ _ _ _ _ _ us hl => match us, hl with | [_], _ => rfl) (fun T f fd F mi => ok_take F mi) (fun T f fd F mb => ok_bag F mb)
    have f1 : Fx l.prog w K mg base (tbl Cn XN XS Wn L1) (gam L1) 5 := fx_def X G f0 d0 (fun f fd F => F.binds fun _ _ _ _ _ _ us hl => match us, hl with | [_, _], _ => rfl) sc_law_some m_law_some
    have f2 : Fx l.prog w K mg base (tbl Cn XN XS Wn L2) (gam L2) 6 := fx_def X G f1 d1 (fun f fd F => F.binds fun _ _ _ _ _ _ us hl => match us, hl with | [_, _], _ => rfl) sc_law_alike m_law_alike
    have f3 : Fx l.prog w K mg base (tbl Cn XN XS Wn L3) (gam L3) 7 := fx_def X G f2 d2 (fun f fd F => F.binds fun _ _ _ _ _ _ us hl => match us, hl with | [_], _ => rfl) sc_law_a_value m_law_a_value
    exact f3
end CT
open PySem PySem.W PyProof.Rows
set_option maxHeartbeats 0 in
theorem PySem.Challenge.cw_castings_k00_errors_of_the_package_holds : PySem.Challenge.rw_castings_k00_errors_of_the_package.Holds := by
  w_on; o_law; k_head; (case hw => w_witness2)
  k_fill
  refine LamX.walk_ofTs (l := PySem.Challenge.rw_castings_k00_errors_of_the_package) (n := 63) (k := 8) (x := "script") (CX := fun w => L2.CX PySem.Challenge.rw_castings_k00_errors_of_the_package.prog w) rfl (by decide) rfl ⟨rfl, by decide, by decide⟩ (fun w h Y => PySem.W.kIn_of Y) ?F (fun _ _ _ _ _ h => CT.cx_false h)
  case F =>
    intro w mg fa h Y KX G hmg
    refine' CT.all_mk KX G hmg (CT.defAt ?aT ?lT ?cT ?kT) (CT.defAt ?aB ?lB ?cB ?kB) (CT.defAt ?a0 ?l0 ?c0 ?k0) (CT.defAt ?a1 ?l1 ?c1 ?k1) (CT.defAt ?a2 ?l2 ?c2 ?k2) True.intro ⟨?b0, ?b1, ?b2, ?b3, ?b4, ?b5, ?b6, ?b7, ?b8, ?b9, ?b10, ?b11, ?b12, ?b13, ?b14, ?b15, ?b16, ?b17, ?b18, True.intro⟩ ⟨⟨by decide, CT.xcAt (st := CT.initOf (CT.topS 3)) ?x0aC ?x0xL ?x0rv ?x0sa ?x0ga ?x0gg ?x0nb ?x0a1 ?x0t1 ?x0l1 ?x0c1 ?x0kC ?x0eC ?x0vC ?x0tC ?x0hC ?x0mC ?x0su ?x0nsu ?x0op ?x0cd ?x0hv ?x0hfile ?x0ce ?x0hst ?x0hb⟩, ⟨by decide, CT.xcAt (st := CT.initOf (CT.topS 4)) ?x1aC ?x1xL ?x1rv ?x1sa ?x1ga ?x1gg ?x1nb ?x1a1 ?x1t1 ?x1l1 ?x1c1 ?x1kC ?x1eC ?x1vC ?x1tC ?x1hC ?x1mC ?x1su ?x1nsu ?x1op ?x1cd ?x1hv ?x1hfile ?x1ce ?x1hst ?x1hb⟩, ⟨by decide, CT.xcAt (st := CT.initOf (CT.topS 5)) ?x2aC ?x2xL ?x2rv ?x2sa ?x2ga ?x2gg ?x2nb ?x2a1 ?x2t1 ?x2l1 ?x2c1 ?x2kC ?x2eC ?x2vC ?x2tC ?x2hC ?x2mC ?x2su ?x2nsu ?x2op ?x2cd ?x2hv ?x2hfile ?x2ce ?x2hst ?x2hb⟩, ⟨by decide, CT.xcAt (st := CT.initOf (CT.topS 6)) ?x3aC ?x3xL ?x3rv ?x3sa ?x3ga ?x3gg ?x3nb ?x3a1 ?x3t1 ?x3l1 ?x3c1 ?x3kC ?x3eC ?x3vC ?x3tC ?x3hC ?x3mC ?x3su ?x3nsu ?x3op ?x3cd ?x3hv ?x3hfile ?x3ce ?x3hst ?x3hb⟩, ⟨by decide, CT.xcAt (st := CT.initOf (CT.topS 7)) ?x4aC ?x4xL ?x4rv ?x4sa ?x4ga ?x4gg ?x4nb ?x4a1 ?x4t1 ?x4l1 ?x4c1 ?x4kC ?x4eC ?x4vC ?x4tC ?x4hC ?x4mC ?x4su ?x4nsu ?x4op ?x4cd ?x4hv ?x4hfile ?x4ce ?x4hst ?x4hb⟩, ⟨by decide, CT.xcAt (st := CT.initOf (CT.topS 8)) ?x5aC ?x5xL ?x5rv ?x5sa ?x5ga ?x5gg ?x5nb ?x5a1 ?x5t1 ?x5l1 ?x5c1 ?x5kC ?x5eC ?x5vC ?x5tC ?x5hC ?x5mC ?x5su ?x5nsu ?x5op ?x5cd ?x5hv ?x5hfile ?x5ce ?x5hst ?x5hb⟩, ⟨by decide, CT.xcAt (st := CT.initOf (CT.topS 9)) ?x6aC ?x6xL ?x6rv ?x6sa ?x6ga ?x6gg ?x6nb ?x6a1 ?x6t1 ?x6l1 ?x6c1 ?x6kC ?x6eC ?x6vC ?x6tC ?x6hC ?x6mC ?x6su ?x6nsu ?x6op ?x6cd ?x6hv ?x6hfile ?x6ce ?x6hst ?x6hb⟩, ⟨by decide, CT.xcAt (st := CT.initOf (CT.topS 10)) ?x7aC ?x7xL ?x7rv ?x7sa ?x7ga ?x7gg ?x7nb ?x7a1 ?x7t1 ?x7l1 ?x7c1 ?x7kC ?x7eC ?x7vC ?x7tC ?x7hC ?x7mC ?x7su ?x7nsu ?x7op ?x7cd ?x7hv ?x7hfile ?x7ce ?x7hst ?x7hb⟩, ⟨by decide, CT.xcAt (st := CT.initOf (CT.topS 11)) ?x8aC ?x8xL ?x8rv ?x8sa ?x8ga ?x8gg ?x8nb ?x8a1 ?x8t1 ?x8l1 ?x8c1 ?x8kC ?x8eC ?x8vC ?x8tC ?x8hC ?x8mC ?x8su ?x8nsu ?x8op ?x8cd ?x8hv ?x8hfile ?x8ce ?x8hst ?x8hb⟩, ⟨by decide, CT.xcAt (st := CT.initOf (CT.topS 13)) ?x9aC ?x9xL ?x9rv ?x9sa ?x9ga ?x9gg ?x9nb ?x9a1 ?x9t1 ?x9l1 ?x9c1 ?x9kC ?x9eC ?x9vC ?x9tC ?x9hC ?x9mC ?x9su ?x9nsu ?x9op ?x9cd ?x9hv ?x9hfile ?x9ce ?x9hst ?x9hb⟩, True.intro⟩ ⟨CT.xmAt ?y0a ?y0b ?y0c ?y0d ?y0e ?y0f ?y0g, CT.xmAt ?y1a ?y1b ?y1c ?y1d ?y1e ?y1f ?y1g, CT.xmAt ?y2a ?y2b ?y2c ?y2d ?y2e ?y2f ?y2g, CT.xmAt ?y3a ?y3b ?y3c ?y3d ?y3e ?y3f ?y3g, CT.xmAt ?y4a ?y4b ?y4c ?y4d ?y4e ?y4f ?y4g, CT.xmAt ?y5a ?y5b ?y5c ?y5d ?y5e ?y5f ?y5g, CT.xmAt ?y6a ?y6b ?y6c ?y6d ?y6e ?y6f ?y6g, CT.xmAt ?y7a ?y7b ?y7c ?y7d ?y7e ?y7f ?y7g, CT.xmAt ?y8a ?y8b ?y8c ?y8d ?y8e ?y8f ?y8g, CT.xmAt ?y9a ?y9b ?y9c ?y9d ?y9e ?y9f ?y9g, CT.xmAt ?y10a ?y10b ?y10c ?y10d ?y10e ?y10f ?y10g, CT.xmAt ?y11a ?y11b ?y11c ?y11d ?y11e ?y11f ?y11g, CT.xmAt ?y12a ?y12b ?y12c ?y12d ?y12e ?y12f ?y12g, CT.xmAt ?y13a ?y13b ?y13c ?y13d ?y13e ?y13f ?y13g, CT.xmAt ?y14a ?y14b ?y14c ?y14d ?y14e ?y14f ?y14g, CT.xmAt ?y15a ?y15b ?y15c ?y15d ?y15e ?y15f ?y15g, CT.xmAt ?y16a ?y16b ?y16c ?y16d ?y16e ?y16f ?y16g, CT.xmAt ?y17a ?y17b ?y17c ?y17d ?y17e ?y17f ?y17g, CT.xmAt ?y18a ?y18b ?y18c ?y18d ?y18e ?y18f ?y18g, CT.xmAt ?y19a ?y19b ?y19c ?y19d ?y19e ?y19f ?y19g, CT.xmAt ?y20a ?y20b ?y20c ?y20d ?y20e ?y20f ?y20g, CT.xmAt ?y21a ?y21b ?y21c ?y21d ?y21e ?y21f ?y21g, CT.xmAt ?y22a ?y22b ?y22c ?y22d ?y22e ?y22f ?y22g, CT.xmAt ?y23a ?y23b ?y23c ?y23d ?y23e ?y23f ?y23g, CT.xmAt ?y24a ?y24b ?y24c ?y24d ?y24e ?y24f ?y24g, CT.xmAt ?y25a ?y25b ?y25c ?y25d ?y25e ?y25f ?y25g, CT.xmAt ?y26a ?y26b ?y26c ?y26d ?y26e ?y26f ?y26g, CT.xmAt ?y27a ?y27b ?y27c ?y27d ?y27e ?y27f ?y27g, CT.xmAt ?y28a ?y28b ?y28c ?y28d ?y28e ?y28f ?y28g, CT.xmAt ?y29a ?y29b ?y29c ?y29d ?y29e ?y29f ?y29g, CT.xmAt ?y30a ?y30b ?y30c ?y30d ?y30e ?y30f ?y30g, CT.xmAt ?y31a ?y31b ?y31c ?y31d ?y31e ?y31f ?y31g, CT.xmAt ?y32a ?y32b ?y32c ?y32d ?y32e ?y32f ?y32g, CT.xmAt ?y33a ?y33b ?y33c ?y33d ?y33e ?y33f ?y33g, CT.xmAt ?y34a ?y34b ?y34c ?y34d ?y34e ?y34f ?y34g, CT.xmAt ?y35a ?y35b ?y35c ?y35d ?y35e ?y35f ?y35g, CT.xmAt ?y36a ?y36b ?y36c ?y36d ?y36e ?y36f ?y36g, CT.xmAt ?y37a ?y37b ?y37c ?y37d ?y37e ?y37f ?y37g, CT.xmAt ?y38a ?y38b ?y38c ?y38d ?y38e ?y38f ?y38g, CT.xmAt ?y39a ?y39b ?y39c ?y39d ?y39e ?y39f ?y39g, CT.xmAt ?y40a ?y40b ?y40c ?y40d ?y40e ?y40f ?y40g, CT.xmAt ?y41a ?y41b ?y41c ?y41d ?y41e ?y41f ?y41g, CT.xmAt ?y42a ?y42b ?y42c ?y42d ?y42e ?y42f ?y42g, CT.xmAt ?y43a ?y43b ?y43c ?y43d ?y43e ?y43f ?y43g, CT.xmAt ?y44a ?y44b ?y44c ?y44d ?y44e ?y44f ?y44g, CT.xmAt ?y45a ?y45b ?y45c ?y45d ?y45e ?y45f ?y45g, CT.xmAt ?y46a ?y46b ?y46c ?y46d ?y46e ?y46f ?y46g, CT.xmAt ?y47a ?y47b ?y47c ?y47d ?y47e ?y47f ?y47g, CT.xmAt ?y48a ?y48b ?y48c ?y48d ?y48e ?y48f ?y48g, CT.xmAt ?y49a ?y49b ?y49c ?y49d ?y49e ?y49f ?y49g, CT.xmAt ?y50a ?y50b ?y50c ?y50d ?y50e ?y50f ?y50g, CT.xmAt ?y51a ?y51b ?y51c ?y51d ?y51e ?y51f ?y51g, CT.xmAt ?y52a ?y52b ?y52c ?y52d ?y52e ?y52f ?y52g, CT.xmAt ?y53a ?y53b ?y53c ?y53d ?y53e ?y53f ?y53g, CT.xmAt ?y54a ?y54b ?y54c ?y54d ?y54e ?y54f ?y54g, CT.xmAt ?y55a ?y55b ?y55c ?y55d ?y55e ?y55f ?y55g, CT.xmAt ?y56a ?y56b ?y56c ?y56d ?y56e ?y56f ?y56g, CT.xmAt ?y57a ?y57b ?y57c ?y57d ?y57e ?y57f ?y57g, CT.xmAt ?y58a ?y58b ?y58c ?y58d ?y58e ?y58f ?y58g, CT.xmAt ?y59a ?y59b ?y59c ?y59d ?y59e ?y59f ?y59g, CT.xmAt ?y60a ?y60b ?y60c ?y60d ?y60e ?y60f ?y60g, CT.xmAt ?y61a ?y61b ?y61c ?y61d ?y61e ?y61f ?y61g, CT.xmAt ?y62a ?y62b ?y62c ?y62d ?y62e ?y62f ?y62g, CT.xmAt ?y63a ?y63b ?y63c ?y63d ?y63e ?y63f ?y63g, CT.xmAt ?y64a ?y64b ?y64c ?y64d ?y64e ?y64f ?y64g, CT.xmAt ?y65a ?y65b ?y65c ?y65d ?y65e ?y65f ?y65g, CT.xmAt ?y66a ?y66b ?y66c ?y66d ?y66e ?y66f ?y66g, CT.xmAt ?y67a ?y67b ?y67c ?y67d ?y67e ?y67f ?y67g, CT.xmAt ?y68a ?y68b ?y68c ?y68d ?y68e ?y68f ?y68g, CT.xmAt ?y69a ?y69b ?y69c ?y69d ?y69e ?y69f ?y69g, CT.xmAt ?y70a ?y70b ?y70c ?y70d ?y70e ?y70f ?y70g, CT.xmAt ?y71a ?y71b ?y71c ?y71d ?y71e ?y71f ?y71g, CT.xmAt ?y72a ?y72b ?y72c ?y72d ?y72e ?y72f ?y72g, CT.xmAt ?y73a ?y73b ?y73c ?y73d ?y73e ?y73f ?y73g, CT.xmAt ?y74a ?y74b ?y74c ?y74d ?y74e ?y74f ?y74g, CT.xmAt ?y75a ?y75b ?y75c ?y75d ?y75e ?y75f ?y75g, CT.xmAt ?y76a ?y76b ?y76c ?y76d ?y76e ?y76f ?y76g, CT.xmAt ?y77a ?y77b ?y77c ?y77d ?y77e ?y77f ?y77g, CT.xmAt ?y78a ?y78b ?y78c ?y78d ?y78e ?y78f ?y78g, CT.xmAt ?y79a ?y79b ?y79c ?y79d ?y79e ?y79f ?y79g, CT.xmAt ?y80a ?y80b ?y80c ?y80d ?y80e ?y80f ?y80g, CT.xmAt ?y81a ?y81b ?y81c ?y81d ?y81e ?y81f ?y81g, CT.xmAt ?y82a ?y82b ?y82c ?y82d ?y82e ?y82f ?y82g, CT.xmAt ?y83a ?y83b ?y83c ?y83d ?y83e ?y83f ?y83g, CT.xmAt ?y84a ?y84b ?y84c ?y84d ?y84e ?y84f ?y84g, CT.xmAt ?y85a ?y85b ?y85c ?y85d ?y85e ?y85f ?y85g, CT.xmAt ?y86a ?y86b ?y86c ?y86d ?y86e ?y86f ?y86g, CT.xmAt ?y87a ?y87b ?y87c ?y87d ?y87e ?y87f ?y87g, CT.xmAt ?y88a ?y88b ?y88c ?y88d ?y88e ?y88f ?y88g, CT.xmAt ?y89a ?y89b ?y89c ?y89d ?y89e ?y89f ?y89g, CT.xmAt ?y90a ?y90b ?y90c ?y90d ?y90e ?y90f ?y90g, CT.xmAt ?y91a ?y91b ?y91c ?y91d ?y91e ?y91f ?y91g, CT.xmAt ?y92a ?y92b ?y92c ?y92d ?y92e ?y92f ?y92g, CT.xmAt ?y93a ?y93b ?y93c ?y93d ?y93e ?y93f ?y93g, CT.xmAt ?y94a ?y94b ?y94c ?y94d ?y94e ?y94f ?y94g, CT.xmAt ?y95a ?y95b ?y95c ?y95d ?y95e ?y95f ?y95g, CT.xmAt ?y96a ?y96b ?y96c ?y96d ?y96e ?y96f ?y96g, CT.xmAt ?y97a ?y97b ?y97c ?y97d ?y97e ?y97f ?y97g, CT.xmAt ?y98a ?y98b ?y98c ?y98d ?y98e ?y98f ?y98g, CT.xmAt ?y99a ?y99b ?y99c ?y99d ?y99e ?y99f ?y99g, True.intro⟩ (CT.issB_ok ?hxs) (CT.ex0sB_ok ?hz0) (CT.defAt ?aZ ?lZ ?cZ ?kZ)
    (case aT => k_is)
    (case lT => k_is)
    (case cT => k_is)
    (case kT => k_is)
    (case aB => k_is)
    (case lB => k_is)
    (case cB => k_is)
    (case kB => k_is)
    (case a0 => k_is)
    (case l0 => k_is)
    (case c0 => k_is)
    (case k0 => k_is)
    (case a1 => k_is)
    (case l1 => k_is)
    (case c1 => k_is)
    (case k1 => k_is)
    (case a2 => k_is)
    (case l2 => k_is)
    (case c2 => k_is)
    (case k2 => k_is)
    (case b0 => k_is)
    (case b1 => k_is)
    (case b2 => k_is)
    (case b3 => k_is)
    (case b4 => k_is)
    (case b5 => k_is)
    (case b6 => k_is)
    (case b7 => k_is)
    (case b8 => k_is)
    (case b9 => k_is)
    (case b10 => k_is)
    (case b11 => k_is)
    (case b12 => k_is)
    (case b13 => k_is)
    (case b14 => k_is)
    (case b15 => k_is)
    (case b16 => k_is)
    (case b17 => k_is)
    (case b18 => k_is)
    (case x0aC => k_is)
    (case x0xL => k_is)
    (case x0rv => decide +kernel)
    (case x0sa => k_is)
    (case x0ga => k_is)
    (case x0gg => k_is)
    (case x0nb => exact ⟨by k_is, by k_is, True.intro⟩)
    (case x0a1 => k_is)
    (case x0t1 => k_is)
    (case x0l1 => k_is)
    (case x0c1 => k_is)
    (case x0kC => k_is)
    (case x0eC => k_is)
    (case x0vC => k_is)
    (case x0tC => k_is)
    (case x0hC => k_is)
    (case x0mC => k_is)
    (case x0su => ks_is)
    (case x0nsu => k_is)
    (case x0op => k_is)
    (case x0cd => k_is)
    (case x0hv => rfl)
    (case x0hfile => decide +kernel)
    (case x0ce => k_is)
    (case x0hst => decide +kernel)
    (case x0hb => exact fun us hl => match us, hl with | [_, _, _], _ => rfl)
    (case x1aC => k_is)
    (case x1xL => k_is)
    (case x1rv => decide +kernel)
    (case x1sa => k_is)
    (case x1ga => k_is)
    (case x1gg => k_is)
    (case x1nb => exact ⟨by k_is, by k_is, True.intro⟩)
    (case x1a1 => k_is)
    (case x1t1 => k_is)
    (case x1l1 => k_is)
    (case x1c1 => k_is)
    (case x1kC => k_is)
    (case x1eC => k_is)
    (case x1vC => k_is)
    (case x1tC => k_is)
    (case x1hC => k_is)
    (case x1mC => k_is)
    (case x1su => ks_is)
    (case x1nsu => k_is)
    (case x1op => k_is)
    (case x1cd => k_is)
    (case x1hv => rfl)
    (case x1hfile => decide +kernel)
    (case x1ce => k_is)
    (case x1hst => decide +kernel)
    (case x1hb => exact fun us hl => match us, hl with | [_, _, _], _ => rfl)
    (case x2aC => k_is)
    (case x2xL => k_is)
    (case x2rv => decide +kernel)
    (case x2sa => k_is)
    (case x2ga => k_is)
    (case x2gg => k_is)
    (case x2nb => exact ⟨by k_is, by k_is, True.intro⟩)
    (case x2a1 => k_is)
    (case x2t1 => k_is)
    (case x2l1 => k_is)
    (case x2c1 => k_is)
    (case x2kC => k_is)
    (case x2eC => k_is)
    (case x2vC => k_is)
    (case x2tC => k_is)
    (case x2hC => k_is)
    (case x2mC => k_is)
    (case x2su => ks_is)
    (case x2nsu => k_is)
    (case x2op => k_is)
    (case x2cd => k_is)
    (case x2hv => rfl)
    (case x2hfile => decide +kernel)
    (case x2ce => k_is)
    (case x2hst => decide +kernel)
    (case x2hb => exact fun us hl => match us, hl with | [_, _, _], _ => rfl)
    (case x3aC => k_is)
    (case x3xL => k_is)
    (case x3rv => decide +kernel)
    (case x3sa => k_is)
    (case x3ga => k_is)
    (case x3gg => k_is)
    (case x3nb => exact ⟨by k_is, by k_is, True.intro⟩)
    (case x3a1 => k_is)
    (case x3t1 => k_is)
    (case x3l1 => k_is)
    (case x3c1 => k_is)
    (case x3kC => k_is)
    (case x3eC => k_is)
    (case x3vC => k_is)
    (case x3tC => k_is)
    (case x3hC => k_is)
    (case x3mC => k_is)
    (case x3su => ks_is)
    (case x3nsu => k_is)
    (case x3op => k_is)
    (case x3cd => k_is)
    (case x3hv => rfl)
    (case x3hfile => decide +kernel)
    (case x3ce => k_is)
    (case x3hst => decide +kernel)
    (case x3hb => exact fun us hl => match us, hl with | [_, _, _], _ => rfl)
    (case x4aC => k_is)
    (case x4xL => k_is)
    (case x4rv => decide +kernel)
    (case x4sa => k_is)
    (case x4ga => k_is)
    (case x4gg => k_is)
    (case x4nb => exact ⟨by k_is, by k_is, True.intro⟩)
    (case x4a1 => k_is)
    (case x4t1 => k_is)
    (case x4l1 => k_is)
    (case x4c1 => k_is)
    (case x4kC => k_is)
    (case x4eC => k_is)
    (case x4vC => k_is)
    (case x4tC => k_is)
    (case x4hC => k_is)
    (case x4mC => k_is)
    (case x4su => ks_is)
    (case x4nsu => k_is)
    (case x4op => k_is)
    (case x4cd => k_is)
    (case x4hv => rfl)
    (case x4hfile => decide +kernel)
    (case x4ce => k_is)
    (case x4hst => decide +kernel)
    (case x4hb => exact fun us hl => match us, hl with | [_, _, _], _ => rfl)
    (case x5aC => k_is)
    (case x5xL => k_is)
    (case x5rv => decide +kernel)
    (case x5sa => k_is)
    (case x5ga => k_is)
    (case x5gg => k_is)
    (case x5nb => exact ⟨by k_is, by k_is, True.intro⟩)
    (case x5a1 => k_is)
    (case x5t1 => k_is)
    (case x5l1 => k_is)
    (case x5c1 => k_is)
    (case x5kC => k_is)
    (case x5eC => k_is)
    (case x5vC => k_is)
    (case x5tC => k_is)
    (case x5hC => k_is)
    (case x5mC => k_is)
    (case x5su => ks_is)
    (case x5nsu => k_is)
    (case x5op => k_is)
    (case x5cd => k_is)
    (case x5hv => rfl)
    (case x5hfile => decide +kernel)
    (case x5ce => k_is)
    (case x5hst => decide +kernel)
    (case x5hb => exact fun us hl => match us, hl with | [_, _, _], _ => rfl)
    (case x6aC => k_is)
    (case x6xL => k_is)
    (case x6rv => decide +kernel)
    (case x6sa => k_is)
    (case x6ga => k_is)
    (case x6gg => k_is)
    (case x6nb => exact ⟨by k_is, True.intro⟩)
    (case x6a1 => k_is)
    (case x6t1 => k_is)
    (case x6l1 => k_is)
    (case x6c1 => k_is)
    (case x6kC => k_is)
    (case x6eC => k_is)
    (case x6vC => k_is)
    (case x6tC => k_is)
    (case x6hC => k_is)
    (case x6mC => k_is)
    (case x6su => ks_is)
    (case x6nsu => k_is)
    (case x6op => k_is)
    (case x6cd => k_is)
    (case x6hv => rfl)
    (case x6hfile => decide +kernel)
    (case x6ce => k_is)
    (case x6hst => decide +kernel)
    (case x6hb => exact fun us hl => match us, hl with | [_, _], _ => rfl)
    (case x7aC => k_is)
    (case x7xL => k_is)
    (case x7rv => decide +kernel)
    (case x7sa => k_is)
    (case x7ga => k_is)
    (case x7gg => k_is)
    (case x7nb => exact ⟨by k_is, True.intro⟩)
    (case x7a1 => k_is)
    (case x7t1 => k_is)
    (case x7l1 => k_is)
    (case x7c1 => k_is)
    (case x7kC => k_is)
    (case x7eC => k_is)
    (case x7vC => k_is)
    (case x7tC => k_is)
    (case x7hC => k_is)
    (case x7mC => k_is)
    (case x7su => ks_is)
    (case x7nsu => k_is)
    (case x7op => k_is)
    (case x7cd => k_is)
    (case x7hv => rfl)
    (case x7hfile => decide +kernel)
    (case x7ce => k_is)
    (case x7hst => decide +kernel)
    (case x7hb => exact fun us hl => match us, hl with | [_, _], _ => rfl)
    (case x8aC => k_is)
    (case x8xL => k_is)
    (case x8rv => decide +kernel)
    (case x8sa => k_is)
    (case x8ga => k_is)
    (case x8gg => k_is)
    (case x8nb => exact ⟨by k_is, True.intro⟩)
    (case x8a1 => k_is)
    (case x8t1 => k_is)
    (case x8l1 => k_is)
    (case x8c1 => k_is)
    (case x8kC => k_is)
    (case x8eC => k_is)
    (case x8vC => k_is)
    (case x8tC => k_is)
    (case x8hC => k_is)
    (case x8mC => k_is)
    (case x8su => ks_is)
    (case x8nsu => k_is)
    (case x8op => k_is)
    (case x8cd => k_is)
    (case x8hv => rfl)
    (case x8hfile => decide +kernel)
    (case x8ce => k_is)
    (case x8hst => decide +kernel)
    (case x8hb => exact fun us hl => match us, hl with | [_, _], _ => rfl)
    (case x9aC => k_is)
    (case x9xL => k_is)
    (case x9rv => decide +kernel)
    (case x9sa => k_is)
    (case x9ga => k_is)
    (case x9gg => k_is)
    (case x9nb => exact ⟨by k_is, by k_is, True.intro⟩)
    (case x9a1 => k_is)
    (case x9t1 => k_is)
    (case x9l1 => k_is)
    (case x9c1 => k_is)
    (case x9kC => k_is)
    (case x9eC => k_is)
    (case x9vC => k_is)
    (case x9tC => k_is)
    (case x9hC => k_is)
    (case x9mC => k_is)
    (case x9su => ks_is)
    (case x9nsu => k_is)
    (case x9op => k_is)
    (case x9cd => k_is)
    (case x9hv => rfl)
    (case x9hfile => decide +kernel)
    (case x9ce => k_is)
    (case x9hst => decide +kernel)
    (case x9hb => exact fun us hl => match us, hl with | [_, _, _], _ => rfl)
    (case y0a => first | k_is | rfl)
    (case y0b => first | k_is | rfl)
    (case y0c => first | k_is | rfl)
    (case y0d => first | k_is | rfl)
    (case y0e => first | k_is | rfl)
    (case y0f => first | k_is | rfl)
    (case y0g => decide)
    (case y1a => first | k_is | rfl)
    (case y1b => first | k_is | rfl)
    (case y1c => first | k_is | rfl)
    (case y1d => first | k_is | rfl)
    (case y1e => first | k_is | rfl)
    (case y1f => first | k_is | rfl)
    (case y1g => decide)
    (case y2a => first | k_is | rfl)
    (case y2b => first | k_is | rfl)
    (case y2c => first | k_is | rfl)
    (case y2d => first | k_is | rfl)
    (case y2e => first | k_is | rfl)
    (case y2f => first | k_is | rfl)
    (case y2g => decide)
    (case y3a => first | k_is | rfl)
    (case y3b => first | k_is | rfl)
    (case y3c => first | k_is | rfl)
    (case y3d => first | k_is | rfl)
    (case y3e => first | k_is | rfl)
    (case y3f => first | k_is | rfl)
    (case y3g => decide)
    (case y4a => first | k_is | rfl)
    (case y4b => first | k_is | rfl)
    (case y4c => first | k_is | rfl)
    (case y4d => first | k_is | rfl)
    (case y4e => first | k_is | rfl)
    (case y4f => first | k_is | rfl)
    (case y4g => decide)
    (case y5a => first | k_is | rfl)
    (case y5b => first | k_is | rfl)
    (case y5c => first | k_is | rfl)
    (case y5d => first | k_is | rfl)
    (case y5e => first | k_is | rfl)
    (case y5f => first | k_is | rfl)
    (case y5g => decide)
    (case y6a => first | k_is | rfl)
    (case y6b => first | k_is | rfl)
    (case y6c => first | k_is | rfl)
    (case y6d => first | k_is | rfl)
    (case y6e => first | k_is | rfl)
    (case y6f => first | k_is | rfl)
    (case y6g => decide)
    (case y7a => first | k_is | rfl)
    (case y7b => first | k_is | rfl)
    (case y7c => first | k_is | rfl)
    (case y7d => first | k_is | rfl)
    (case y7e => first | k_is | rfl)
    (case y7f => first | k_is | rfl)
    (case y7g => decide)
    (case y8a => first | k_is | rfl)
    (case y8b => first | k_is | rfl)
    (case y8c => first | k_is | rfl)
    (case y8d => first | k_is | rfl)
    (case y8e => first | k_is | rfl)
    (case y8f => first | k_is | rfl)
    (case y8g => decide)
    (case y9a => first | k_is | rfl)
    (case y9b => first | k_is | rfl)
    (case y9c => first | k_is | rfl)
    (case y9d => first | k_is | rfl)
    (case y9e => first | k_is | rfl)
    (case y9f => first | k_is | rfl)
    (case y9g => decide)
    (case y10a => first | k_is | rfl)
    (case y10b => first | k_is | rfl)
    (case y10c => first | k_is | rfl)
    (case y10d => first | k_is | rfl)
    (case y10e => first | k_is | rfl)
    (case y10f => first | k_is | rfl)
    (case y10g => decide)
    (case y11a => first | k_is | rfl)
    (case y11b => first | k_is | rfl)
    (case y11c => first | k_is | rfl)
    (case y11d => first | k_is | rfl)
    (case y11e => first | k_is | rfl)
    (case y11f => first | k_is | rfl)
    (case y11g => decide)
    (case y12a => first | k_is | rfl)
    (case y12b => first | k_is | rfl)
    (case y12c => first | k_is | rfl)
    (case y12d => first | k_is | rfl)
    (case y12e => first | k_is | rfl)
    (case y12f => first | k_is | rfl)
    (case y12g => decide)
    (case y13a => first | k_is | rfl)
    (case y13b => first | k_is | rfl)
    (case y13c => first | k_is | rfl)
    (case y13d => first | k_is | rfl)
    (case y13e => first | k_is | rfl)
    (case y13f => first | k_is | rfl)
    (case y13g => decide)
    (case y14a => first | k_is | rfl)
    (case y14b => first | k_is | rfl)
    (case y14c => first | k_is | rfl)
    (case y14d => first | k_is | rfl)
    (case y14e => first | k_is | rfl)
    (case y14f => first | k_is | rfl)
    (case y14g => decide)
    (case y15a => first | k_is | rfl)
    (case y15b => first | k_is | rfl)
    (case y15c => first | k_is | rfl)
    (case y15d => first | k_is | rfl)
    (case y15e => first | k_is | rfl)
    (case y15f => first | k_is | rfl)
    (case y15g => decide)
    (case y16a => first | k_is | rfl)
    (case y16b => first | k_is | rfl)
    (case y16c => first | k_is | rfl)
    (case y16d => first | k_is | rfl)
    (case y16e => first | k_is | rfl)
    (case y16f => first | k_is | rfl)
    (case y16g => decide)
    (case y17a => first | k_is | rfl)
    (case y17b => first | k_is | rfl)
    (case y17c => first | k_is | rfl)
    (case y17d => first | k_is | rfl)
    (case y17e => first | k_is | rfl)
    (case y17f => first | k_is | rfl)
    (case y17g => decide)
    (case y18a => first | k_is | rfl)
    (case y18b => first | k_is | rfl)
    (case y18c => first | k_is | rfl)
    (case y18d => first | k_is | rfl)
    (case y18e => first | k_is | rfl)
    (case y18f => first | k_is | rfl)
    (case y18g => decide)
    (case y19a => first | k_is | rfl)
    (case y19b => first | k_is | rfl)
    (case y19c => first | k_is | rfl)
    (case y19d => first | k_is | rfl)
    (case y19e => first | k_is | rfl)
    (case y19f => first | k_is | rfl)
    (case y19g => decide)
    (case y20a => first | k_is | rfl)
    (case y20b => first | k_is | rfl)
    (case y20c => first | k_is | rfl)
    (case y20d => first | k_is | rfl)
    (case y20e => first | k_is | rfl)
    (case y20f => first | k_is | rfl)
    (case y20g => decide)
    (case y21a => first | k_is | rfl)
    (case y21b => first | k_is | rfl)
    (case y21c => first | k_is | rfl)
    (case y21d => first | k_is | rfl)
    (case y21e => first | k_is | rfl)
    (case y21f => first | k_is | rfl)
    (case y21g => decide)
    (case y22a => first | k_is | rfl)
    (case y22b => first | k_is | rfl)
    (case y22c => first | k_is | rfl)
    (case y22d => first | k_is | rfl)
    (case y22e => first | k_is | rfl)
    (case y22f => first | k_is | rfl)
    (case y22g => decide)
    (case y23a => first | k_is | rfl)
    (case y23b => first | k_is | rfl)
    (case y23c => first | k_is | rfl)
    (case y23d => first | k_is | rfl)
    (case y23e => first | k_is | rfl)
    (case y23f => first | k_is | rfl)
    (case y23g => decide)
    (case y24a => first | k_is | rfl)
    (case y24b => first | k_is | rfl)
    (case y24c => first | k_is | rfl)
    (case y24d => first | k_is | rfl)
    (case y24e => first | k_is | rfl)
    (case y24f => first | k_is | rfl)
    (case y24g => decide)
    (case y25a => first | k_is | rfl)
    (case y25b => first | k_is | rfl)
    (case y25c => first | k_is | rfl)
    (case y25d => first | k_is | rfl)
    (case y25e => first | k_is | rfl)
    (case y25f => first | k_is | rfl)
    (case y25g => decide)
    (case y26a => first | k_is | rfl)
    (case y26b => first | k_is | rfl)
    (case y26c => first | k_is | rfl)
    (case y26d => first | k_is | rfl)
    (case y26e => first | k_is | rfl)
    (case y26f => first | k_is | rfl)
    (case y26g => decide)
    (case y27a => first | k_is | rfl)
    (case y27b => first | k_is | rfl)
    (case y27c => first | k_is | rfl)
    (case y27d => first | k_is | rfl)
    (case y27e => first | k_is | rfl)
    (case y27f => first | k_is | rfl)
    (case y27g => decide)
    (case y28a => first | k_is | rfl)
    (case y28b => first | k_is | rfl)
    (case y28c => first | k_is | rfl)
    (case y28d => first | k_is | rfl)
    (case y28e => first | k_is | rfl)
    (case y28f => first | k_is | rfl)
    (case y28g => decide)
    (case y29a => first | k_is | rfl)
    (case y29b => first | k_is | rfl)
    (case y29c => first | k_is | rfl)
    (case y29d => first | k_is | rfl)
    (case y29e => first | k_is | rfl)
    (case y29f => first | k_is | rfl)
    (case y29g => decide)
    (case y30a => first | k_is | rfl)
    (case y30b => first | k_is | rfl)
    (case y30c => first | k_is | rfl)
    (case y30d => first | k_is | rfl)
    (case y30e => first | k_is | rfl)
    (case y30f => first | k_is | rfl)
    (case y30g => decide)
    (case y31a => first | k_is | rfl)
    (case y31b => first | k_is | rfl)
    (case y31c => first | k_is | rfl)
    (case y31d => first | k_is | rfl)
    (case y31e => first | k_is | rfl)
    (case y31f => first | k_is | rfl)
    (case y31g => decide)
    (case y32a => first | k_is | rfl)
    (case y32b => first | k_is | rfl)
    (case y32c => first | k_is | rfl)
    (case y32d => first | k_is | rfl)
    (case y32e => first | k_is | rfl)
    (case y32f => first | k_is | rfl)
    (case y32g => decide)
    (case y33a => first | k_is | rfl)
    (case y33b => first | k_is | rfl)
    (case y33c => first | k_is | rfl)
    (case y33d => first | k_is | rfl)
    (case y33e => first | k_is | rfl)
    (case y33f => first | k_is | rfl)
    (case y33g => decide)
    (case y34a => first | k_is | rfl)
    (case y34b => first | k_is | rfl)
    (case y34c => first | k_is | rfl)
    (case y34d => first | k_is | rfl)
    (case y34e => first | k_is | rfl)
    (case y34f => first | k_is | rfl)
    (case y34g => decide)
    (case y35a => first | k_is | rfl)
    (case y35b => first | k_is | rfl)
    (case y35c => first | k_is | rfl)
    (case y35d => first | k_is | rfl)
    (case y35e => first | k_is | rfl)
    (case y35f => first | k_is | rfl)
    (case y35g => decide)
    (case y36a => first | k_is | rfl)
    (case y36b => first | k_is | rfl)
    (case y36c => first | k_is | rfl)
    (case y36d => first | k_is | rfl)
    (case y36e => first | k_is | rfl)
    (case y36f => first | k_is | rfl)
    (case y36g => decide)
    (case y37a => first | k_is | rfl)
    (case y37b => first | k_is | rfl)
    (case y37c => first | k_is | rfl)
    (case y37d => first | k_is | rfl)
    (case y37e => first | k_is | rfl)
    (case y37f => first | k_is | rfl)
    (case y37g => decide)
    (case y38a => first | k_is | rfl)
    (case y38b => first | k_is | rfl)
    (case y38c => first | k_is | rfl)
    (case y38d => first | k_is | rfl)
    (case y38e => first | k_is | rfl)
    (case y38f => first | k_is | rfl)
    (case y38g => decide)
    (case y39a => first | k_is | rfl)
    (case y39b => first | k_is | rfl)
    (case y39c => first | k_is | rfl)
    (case y39d => first | k_is | rfl)
    (case y39e => first | k_is | rfl)
    (case y39f => first | k_is | rfl)
    (case y39g => decide)
    (case y40a => first | k_is | rfl)
    (case y40b => first | k_is | rfl)
    (case y40c => first | k_is | rfl)
    (case y40d => first | k_is | rfl)
    (case y40e => first | k_is | rfl)
    (case y40f => first | k_is | rfl)
    (case y40g => decide)
    (case y41a => first | k_is | rfl)
    (case y41b => first | k_is | rfl)
    (case y41c => first | k_is | rfl)
    (case y41d => first | k_is | rfl)
    (case y41e => first | k_is | rfl)
    (case y41f => first | k_is | rfl)
    (case y41g => decide)
    (case y42a => first | k_is | rfl)
    (case y42b => first | k_is | rfl)
    (case y42c => first | k_is | rfl)
    (case y42d => first | k_is | rfl)
    (case y42e => first | k_is | rfl)
    (case y42f => first | k_is | rfl)
    (case y42g => decide)
    (case y43a => first | k_is | rfl)
    (case y43b => first | k_is | rfl)
    (case y43c => first | k_is | rfl)
    (case y43d => first | k_is | rfl)
    (case y43e => first | k_is | rfl)
    (case y43f => first | k_is | rfl)
    (case y43g => decide)
    (case y44a => first | k_is | rfl)
    (case y44b => first | k_is | rfl)
    (case y44c => first | k_is | rfl)
    (case y44d => first | k_is | rfl)
    (case y44e => first | k_is | rfl)
    (case y44f => first | k_is | rfl)
    (case y44g => decide)
    (case y45a => first | k_is | rfl)
    (case y45b => first | k_is | rfl)
    (case y45c => first | k_is | rfl)
    (case y45d => first | k_is | rfl)
    (case y45e => first | k_is | rfl)
    (case y45f => first | k_is | rfl)
    (case y45g => decide)
    (case y46a => first | k_is | rfl)
    (case y46b => first | k_is | rfl)
    (case y46c => first | k_is | rfl)
    (case y46d => first | k_is | rfl)
    (case y46e => first | k_is | rfl)
    (case y46f => first | k_is | rfl)
    (case y46g => decide)
    (case y47a => first | k_is | rfl)
    (case y47b => first | k_is | rfl)
    (case y47c => first | k_is | rfl)
    (case y47d => first | k_is | rfl)
    (case y47e => first | k_is | rfl)
    (case y47f => first | k_is | rfl)
    (case y47g => decide)
    (case y48a => first | k_is | rfl)
    (case y48b => first | k_is | rfl)
    (case y48c => first | k_is | rfl)
    (case y48d => first | k_is | rfl)
    (case y48e => first | k_is | rfl)
    (case y48f => first | k_is | rfl)
    (case y48g => decide)
    (case y49a => first | k_is | rfl)
    (case y49b => first | k_is | rfl)
    (case y49c => first | k_is | rfl)
    (case y49d => first | k_is | rfl)
    (case y49e => first | k_is | rfl)
    (case y49f => first | k_is | rfl)
    (case y49g => decide)
    (case y50a => first | k_is | rfl)
    (case y50b => first | k_is | rfl)
    (case y50c => first | k_is | rfl)
    (case y50d => first | k_is | rfl)
    (case y50e => first | k_is | rfl)
    (case y50f => first | k_is | rfl)
    (case y50g => decide)
    (case y51a => first | k_is | rfl)
    (case y51b => first | k_is | rfl)
    (case y51c => first | k_is | rfl)
    (case y51d => first | k_is | rfl)
    (case y51e => first | k_is | rfl)
    (case y51f => first | k_is | rfl)
    (case y51g => decide)
    (case y52a => first | k_is | rfl)
    (case y52b => first | k_is | rfl)
    (case y52c => first | k_is | rfl)
    (case y52d => first | k_is | rfl)
    (case y52e => first | k_is | rfl)
    (case y52f => first | k_is | rfl)
    (case y52g => decide)
    (case y53a => first | k_is | rfl)
    (case y53b => first | k_is | rfl)
    (case y53c => first | k_is | rfl)
    (case y53d => first | k_is | rfl)
    (case y53e => first | k_is | rfl)
    (case y53f => first | k_is | rfl)
    (case y53g => decide)
    (case y54a => first | k_is | rfl)
    (case y54b => first | k_is | rfl)
    (case y54c => first | k_is | rfl)
    (case y54d => first | k_is | rfl)
    (case y54e => first | k_is | rfl)
    (case y54f => first | k_is | rfl)
    (case y54g => decide)
    (case y55a => first | k_is | rfl)
    (case y55b => first | k_is | rfl)
    (case y55c => first | k_is | rfl)
    (case y55d => first | k_is | rfl)
    (case y55e => first | k_is | rfl)
    (case y55f => first | k_is | rfl)
    (case y55g => decide)
    (case y56a => first | k_is | rfl)
    (case y56b => first | k_is | rfl)
    (case y56c => first | k_is | rfl)
    (case y56d => first | k_is | rfl)
    (case y56e => first | k_is | rfl)
    (case y56f => first | k_is | rfl)
    (case y56g => decide)
    (case y57a => first | k_is | rfl)
    (case y57b => first | k_is | rfl)
    (case y57c => first | k_is | rfl)
    (case y57d => first | k_is | rfl)
    (case y57e => first | k_is | rfl)
    (case y57f => first | k_is | rfl)
    (case y57g => decide)
    (case y58a => first | k_is | rfl)
    (case y58b => first | k_is | rfl)
    (case y58c => first | k_is | rfl)
    (case y58d => first | k_is | rfl)
    (case y58e => first | k_is | rfl)
    (case y58f => first | k_is | rfl)
    (case y58g => decide)
    (case y59a => first | k_is | rfl)
    (case y59b => first | k_is | rfl)
    (case y59c => first | k_is | rfl)
    (case y59d => first | k_is | rfl)
    (case y59e => first | k_is | rfl)
    (case y59f => first | k_is | rfl)
    (case y59g => decide)
    (case y60a => first | k_is | rfl)
    (case y60b => first | k_is | rfl)
    (case y60c => first | k_is | rfl)
    (case y60d => first | k_is | rfl)
    (case y60e => first | k_is | rfl)
    (case y60f => first | k_is | rfl)
    (case y60g => decide)
    (case y61a => first | k_is | rfl)
    (case y61b => first | k_is | rfl)
    (case y61c => first | k_is | rfl)
    (case y61d => first | k_is | rfl)
    (case y61e => first | k_is | rfl)
    (case y61f => first | k_is | rfl)
    (case y61g => decide)
    (case y62a => first | k_is | rfl)
    (case y62b => first | k_is | rfl)
    (case y62c => first | k_is | rfl)
    (case y62d => first | k_is | rfl)
    (case y62e => first | k_is | rfl)
    (case y62f => first | k_is | rfl)
    (case y62g => decide)
    (case y63a => first | k_is | rfl)
    (case y63b => first | k_is | rfl)
    (case y63c => first | k_is | rfl)
    (case y63d => first | k_is | rfl)
    (case y63e => first | k_is | rfl)
    (case y63f => first | k_is | rfl)
    (case y63g => decide)
    (case y64a => first | k_is | rfl)
    (case y64b => first | k_is | rfl)
    (case y64c => first | k_is | rfl)
    (case y64d => first | k_is | rfl)
    (case y64e => first | k_is | rfl)
    (case y64f => first | k_is | rfl)
    (case y64g => decide)
    (case y65a => first | k_is | rfl)
    (case y65b => first | k_is | rfl)
    (case y65c => first | k_is | rfl)
    (case y65d => first | k_is | rfl)
    (case y65e => first | k_is | rfl)
    (case y65f => first | k_is | rfl)
    (case y65g => decide)
    (case y66a => first | k_is | rfl)
    (case y66b => first | k_is | rfl)
    (case y66c => first | k_is | rfl)
    (case y66d => first | k_is | rfl)
    (case y66e => first | k_is | rfl)
    (case y66f => first | k_is | rfl)
    (case y66g => decide)
    (case y67a => first | k_is | rfl)
    (case y67b => first | k_is | rfl)
    (case y67c => first | k_is | rfl)
    (case y67d => first | k_is | rfl)
    (case y67e => first | k_is | rfl)
    (case y67f => first | k_is | rfl)
    (case y67g => decide)
    (case y68a => first | k_is | rfl)
    (case y68b => first | k_is | rfl)
    (case y68c => first | k_is | rfl)
    (case y68d => first | k_is | rfl)
    (case y68e => first | k_is | rfl)
    (case y68f => first | k_is | rfl)
    (case y68g => decide)
    (case y69a => first | k_is | rfl)
    (case y69b => first | k_is | rfl)
    (case y69c => first | k_is | rfl)
    (case y69d => first | k_is | rfl)
    (case y69e => first | k_is | rfl)
    (case y69f => first | k_is | rfl)
    (case y69g => decide)
    (case y70a => first | k_is | rfl)
    (case y70b => first | k_is | rfl)
    (case y70c => first | k_is | rfl)
    (case y70d => first | k_is | rfl)
    (case y70e => first | k_is | rfl)
    (case y70f => first | k_is | rfl)
    (case y70g => decide)
    (case y71a => first | k_is | rfl)
    (case y71b => first | k_is | rfl)
    (case y71c => first | k_is | rfl)
    (case y71d => first | k_is | rfl)
    (case y71e => first | k_is | rfl)
    (case y71f => first | k_is | rfl)
    (case y71g => decide)
    (case y72a => first | k_is | rfl)
    (case y72b => first | k_is | rfl)
    (case y72c => first | k_is | rfl)
    (case y72d => first | k_is | rfl)
    (case y72e => first | k_is | rfl)
    (case y72f => first | k_is | rfl)
    (case y72g => decide)
    (case y73a => first | k_is | rfl)
    (case y73b => first | k_is | rfl)
    (case y73c => first | k_is | rfl)
    (case y73d => first | k_is | rfl)
    (case y73e => first | k_is | rfl)
    (case y73f => first | k_is | rfl)
    (case y73g => decide)
    (case y74a => first | k_is | rfl)
    (case y74b => first | k_is | rfl)
    (case y74c => first | k_is | rfl)
    (case y74d => first | k_is | rfl)
    (case y74e => first | k_is | rfl)
    (case y74f => first | k_is | rfl)
    (case y74g => decide)
    (case y75a => first | k_is | rfl)
    (case y75b => first | k_is | rfl)
    (case y75c => first | k_is | rfl)
    (case y75d => first | k_is | rfl)
    (case y75e => first | k_is | rfl)
    (case y75f => first | k_is | rfl)
    (case y75g => decide)
    (case y76a => first | k_is | rfl)
    (case y76b => first | k_is | rfl)
    (case y76c => first | k_is | rfl)
    (case y76d => first | k_is | rfl)
    (case y76e => first | k_is | rfl)
    (case y76f => first | k_is | rfl)
    (case y76g => decide)
    (case y77a => first | k_is | rfl)
    (case y77b => first | k_is | rfl)
    (case y77c => first | k_is | rfl)
    (case y77d => first | k_is | rfl)
    (case y77e => first | k_is | rfl)
    (case y77f => first | k_is | rfl)
    (case y77g => decide)
    (case y78a => first | k_is | rfl)
    (case y78b => first | k_is | rfl)
    (case y78c => first | k_is | rfl)
    (case y78d => first | k_is | rfl)
    (case y78e => first | k_is | rfl)
    (case y78f => first | k_is | rfl)
    (case y78g => decide)
    (case y79a => first | k_is | rfl)
    (case y79b => first | k_is | rfl)
    (case y79c => first | k_is | rfl)
    (case y79d => first | k_is | rfl)
    (case y79e => first | k_is | rfl)
    (case y79f => first | k_is | rfl)
    (case y79g => decide)
    (case y80a => first | k_is | rfl)
    (case y80b => first | k_is | rfl)
    (case y80c => first | k_is | rfl)
    (case y80d => first | k_is | rfl)
    (case y80e => first | k_is | rfl)
    (case y80f => first | k_is | rfl)
    (case y80g => decide)
    (case y81a => first | k_is | rfl)
    (case y81b => first | k_is | rfl)
    (case y81c => first | k_is | rfl)
    (case y81d => first | k_is | rfl)
    (case y81e => first | k_is | rfl)
    (case y81f => first | k_is | rfl)
    (case y81g => decide)
    (case y82a => first | k_is | rfl)
    (case y82b => first | k_is | rfl)
    (case y82c => first | k_is | rfl)
    (case y82d => first | k_is | rfl)
    (case y82e => first | k_is | rfl)
    (case y82f => first | k_is | rfl)
    (case y82g => decide)
    (case y83a => first | k_is | rfl)
    (case y83b => first | k_is | rfl)
    (case y83c => first | k_is | rfl)
    (case y83d => first | k_is | rfl)
    (case y83e => first | k_is | rfl)
    (case y83f => first | k_is | rfl)
    (case y83g => decide)
    (case y84a => first | k_is | rfl)
    (case y84b => first | k_is | rfl)
    (case y84c => first | k_is | rfl)
    (case y84d => first | k_is | rfl)
    (case y84e => first | k_is | rfl)
    (case y84f => first | k_is | rfl)
    (case y84g => decide)
    (case y85a => first | k_is | rfl)
    (case y85b => first | k_is | rfl)
    (case y85c => first | k_is | rfl)
    (case y85d => first | k_is | rfl)
    (case y85e => first | k_is | rfl)
    (case y85f => first | k_is | rfl)
    (case y85g => decide)
    (case y86a => first | k_is | rfl)
    (case y86b => first | k_is | rfl)
    (case y86c => first | k_is | rfl)
    (case y86d => first | k_is | rfl)
    (case y86e => first | k_is | rfl)
    (case y86f => first | k_is | rfl)
    (case y86g => decide)
    (case y87a => first | k_is | rfl)
    (case y87b => first | k_is | rfl)
    (case y87c => first | k_is | rfl)
    (case y87d => first | k_is | rfl)
    (case y87e => first | k_is | rfl)
    (case y87f => first | k_is | rfl)
    (case y87g => decide)
    (case y88a => first | k_is | rfl)
    (case y88b => first | k_is | rfl)
    (case y88c => first | k_is | rfl)
    (case y88d => first | k_is | rfl)
    (case y88e => first | k_is | rfl)
    (case y88f => first | k_is | rfl)
    (case y88g => decide)
    (case y89a => first | k_is | rfl)
    (case y89b => first | k_is | rfl)
    (case y89c => first | k_is | rfl)
    (case y89d => first | k_is | rfl)
    (case y89e => first | k_is | rfl)
    (case y89f => first | k_is | rfl)
    (case y89g => decide)
    (case y90a => first | k_is | rfl)
    (case y90b => first | k_is | rfl)
    (case y90c => first | k_is | rfl)
    (case y90d => first | k_is | rfl)
    (case y90e => first | k_is | rfl)
    (case y90f => first | k_is | rfl)
    (case y90g => decide)
    (case y91a => first | k_is | rfl)
    (case y91b => first | k_is | rfl)
    (case y91c => first | k_is | rfl)
    (case y91d => first | k_is | rfl)
    (case y91e => first | k_is | rfl)
    (case y91f => first | k_is | rfl)
    (case y91g => decide)
    (case y92a => first | k_is | rfl)
    (case y92b => first | k_is | rfl)
    (case y92c => first | k_is | rfl)
    (case y92d => first | k_is | rfl)
    (case y92e => first | k_is | rfl)
    (case y92f => first | k_is | rfl)
    (case y92g => decide)
    (case y93a => first | k_is | rfl)
    (case y93b => first | k_is | rfl)
    (case y93c => first | k_is | rfl)
    (case y93d => first | k_is | rfl)
    (case y93e => first | k_is | rfl)
    (case y93f => first | k_is | rfl)
    (case y93g => decide)
    (case y94a => first | k_is | rfl)
    (case y94b => first | k_is | rfl)
    (case y94c => first | k_is | rfl)
    (case y94d => first | k_is | rfl)
    (case y94e => first | k_is | rfl)
    (case y94f => first | k_is | rfl)
    (case y94g => decide)
    (case y95a => first | k_is | rfl)
    (case y95b => first | k_is | rfl)
    (case y95c => first | k_is | rfl)
    (case y95d => first | k_is | rfl)
    (case y95e => first | k_is | rfl)
    (case y95f => first | k_is | rfl)
    (case y95g => decide)
    (case y96a => first | k_is | rfl)
    (case y96b => first | k_is | rfl)
    (case y96c => first | k_is | rfl)
    (case y96d => first | k_is | rfl)
    (case y96e => first | k_is | rfl)
    (case y96f => first | k_is | rfl)
    (case y96g => decide)
    (case y97a => first | k_is | rfl)
    (case y97b => first | k_is | rfl)
    (case y97c => first | k_is | rfl)
    (case y97d => first | k_is | rfl)
    (case y97e => first | k_is | rfl)
    (case y97f => first | k_is | rfl)
    (case y97g => decide)
    (case y98a => first | k_is | rfl)
    (case y98b => first | k_is | rfl)
    (case y98c => first | k_is | rfl)
    (case y98d => first | k_is | rfl)
    (case y98e => first | k_is | rfl)
    (case y98f => first | k_is | rfl)
    (case y98g => decide)
    (case y99a => first | k_is | rfl)
    (case y99b => first | k_is | rfl)
    (case y99c => first | k_is | rfl)
    (case y99d => first | k_is | rfl)
    (case y99e => first | k_is | rfl)
    (case y99f => first | k_is | rfl)
    (case y99g => decide)
    (case hxs => kernel_rfl)
    (case hz0 => kernel_rfl)
    (case aZ => k_is)
    (case lZ => k_is)
    (case cZ => k_is)
    (case kZ => k_is)

