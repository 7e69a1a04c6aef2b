import PyProof.Rows.All
import Wide.All
import OpenK.AllK
import Wide.FinOn
import PyProof.EqAt
import PyProof.EqKinds
import PyProof.TupleCall
import KE.KExcSuper
import HandS.ForMost
import HandS.Exc
import HandS.TryOnly
import HandS.ExcField
import HandS.TupAny
import HandS.WordsExc
import HandS.Style
import HandS.Conv
import HandS.IsInst
import HandS.Codes
import PyProof.StrOps2
import PyProof.FitsStr
import HandS.Lambda
import PyProof.ReprLen
import PyProof.CallFns
import PyProof.ReprRoads
import PyProof.P3Eq
import HandS.SetTxt0
import HandS.SetFor
import PyProof.WalksMore
import PyProof.Rows.SortStr
import HandS.Strs
import HandS.EndTab
import HandS.EndBits
import HandS.Flow
import KE.KNestM
import PySem.Challenge.RW_freebook_k08_way_of_signs
set_option Elab.async false
set_option linter.all false
set_option maxRecDepth 100000
set_option maxHeartbeats 2000000
/-! # An own error class over ValueError whose __init__ says super().__init__(text) and then keeps one field -/
namespace PySem
namespace SupX
open PySem.W PySem.Calls PyProof.Rows PySem.HandSPX
/-- where the words of such an __init__ stand -/
structure Pl where
  a1 : Pos
  a2 : Pos
  p0 : Pos
  p1 : Pos
  p2 : Pos
  p3 : Pos
  p4 : Pos
  p5 : Pos
  q1 : Pos
  q2 : Pos
  q3 : Pos
  q4 : Pos
def iA (fld : Str) (p : Pl) : Arguments := { posonlyargs := [], args := [{ arg := "self", annotation := none, pos := p.a1 }, { arg := fld, annotation := none, pos := p.a2 }], vararg := none, kwonlyargs := [], kw_defaults := [], kwarg := none, defaults := [] }
def sSup (msg : Str) (p : Pl) : Stmt := .Expr (.Call (.Attribute (.Call (.Name "super" p.p0) [] [] p.p1) "__init__" p.p2) [.Constant (.str msg) 0 p.p3] [] p.p4) p.p5
def sKeep (fld : Str) (p : Pl) : Stmt := .Assign [.Attribute (.Name "self" p.q1) fld p.q2] (.Name fld p.q3) p.q4
def iB (fld msg : Str) (p : Pl) : List Stmt := [sSup msg p, sKeep fld p]
def iS (fld : Str) : Scope := { kind := .function, names := [(PySem.Str.ofString "self", .local), (fld, .local), (PySem.Str.ofString "__class__", .free), (PySem.Str.ofString "super", .globalImplicit)], isGenerator := false, isCoroutine := false, more := [] }
abbrev fnS (nm fld msg : Str) (p : Pl) (cc cda : Addr) (doc pm : Value) (an : Option Addr) (ct : Value) : FuncData :=
  fnX "__init__" (nm ++ ".__init__") (iA fld p) (iB fld msg p) (iS fld) [("__class__", cc)] .none .none doc pm an (.ref cda) ct
/-- what is asked of the field's name -/
structure NameOk (nm fld msg : Str) (p : Pl) : Prop where
  bind : ∀ (cc cda : Addr) (doc pm : Value) (an : Option Addr) (ct u v : Value), bindArgs (fnS nm fld msg p cc cda doc pm an ct) ⟨[u, v], []⟩ = pure [(("self" : Str), u), (fld, v)]
  lS : (iS fld).names.lookup ("self" : Str) = some .local
  lF : (iS fld).names.lookup fld = some .local
  lC : (iS fld).names.lookup ("__class__" : Str) = some .free
  lP : (iS fld).names.lookup ("super" : Str) = some .globalImplicit
  nd : (fld == ("__debug__" : Str)) = false
  ns : fld ≠ ("self" : Str)
  ev : ∀ env : Env, eval (.Call (.Attribute (.Call (.Name "super" p.p0) [] [] p.p1) "__init__" p.p2) [.Constant (.str msg) 0 p.p3] [] p.p4) env = (do
      let ov ← attributeBase (.Call (.Name "super" p.p0) [] [] p.p1) "__init__" env (eval (.Call (.Name "super" p.p0) [] [] p.p1) env)
      standAt p.p2.atName
      let (f, first) ← holding [ov] (getMethod ov "__init__" (do return (← importBound (.Call (.Name "super" p.p0) [] [] p.p1) env).getD true))
      callWith p.p4 f first (backTo p.p4 (starEach [.Constant (.str msg) 0 p.p3] env)) [])
/-- what the written part tells of the class, at C, of its __init__, at fI, of the cell of __class__, at cc, and of the code, at cda -/
structure SupTxt (prog : Program) (K : Frag) (mg : Str → Option Value) (nm fld msg : Str) (p : Pl) (C fI : Addr) : Prop where
  ok : NameOk nm fld msg p
  gC : mg nm = some (.ref C)
  cls : ∃ n2 q N bs bm sn sub ab col dd k0 k1 k2 k3 k5, K.lookup C = some (excClassObj n2 q C N bs bm true sn sub ab col dd k0 k1 k2 k3 k5 "ValueError.__new__") ∧ refsVE bm = true ∧ alongIn K "__init__" bm = some (some (.builtin "ValueError.__init__"))
  sa : findIn K (.ref C) "__setattr__" = some (some (.builtin "object.__setattr__"))
  ga : findIn K (.ref C) "__getattribute__" = some (some (.builtin "BaseException.__getattribute__"))
  gg : findIn K (.ref C) "__getattr__" = some none
  noN : findIn K (.ref C) fld = some none
  iC : findIn K (.ref C) "__init__" = some (some (.ref fI))
  tC : typeIn K (.ref fI) = some (.type "function")
  kC : keepIn K (.ref C) = true
  exC : subIn K (.ref C) (.type "BaseException") = some true
  veC : subIn K (.ref C) (.type "ValueError") = some true
  tyC : typeIn K (.ref C) = some (.type "type")
  hdC : hasDictIn K C = true
  selfC : mroIn K C (.ref C) = some true
  te : exmOne K (.ref C) (.ref C) = some true
  nsup : nsIn K mainGlobals "super" = some none
  npar : nsIn K cStatics "thirdparty.any" = some none
  top : (prog.main.scope.names.lookup ("super" : Str)).isSome = false
  fn : ∃ (oc : Value) (od : Option Addr) (doc pm : Value) (an : Option Addr) (ct : Value) (osl : Array (Option Value)) (cc cda : Addr) (l1 l2 : Value) (d1 d2 : Option Addr) (s1 s2 : Array (Option Value)) (vs : Array Value) (file : Str) (tf : Tok),
    K.lookup fI = some ⟨oc, od, .func (fnS nm fld msg p cc cda doc pm an ct), osl⟩ ∧ codeIn K (.ref cda) (nm ++ ".__init__") = true ∧ K.lookup cc = some ⟨l1, d1, .cell (some (.ref C)), s1⟩ ∧ K.lookup cda = some ⟨l2, d2, .fields vs, s2⟩ ∧ vs[2]? = some (.str file tf) ∧ ((prog.main.file : Str) == file) = true
theorem one_len (v : Value) : [v].length ≤ sizeLine := by
  rw [sizeLine_eq]
  exact (by decide : 1 ≤ 16777216)
/-- the bound built-in __init__ (a method-wrapper) called: the args are laid anew -/
theorem mw_call {prog : Program} {w : World} {A : Around} {E : Value → Shared → Prop} {h : Heap} {g : Array GenState} {d : Drawn} {t : Nat} {os : OsState} {nm q : Str} {C N : Addr} {bs bm : List Value} {hdct : Bool} {sn : List Str} {sub : List Value} {ab : Bool} {col : Option Bool} {dd : Option Addr} {k0 k1 k2 k3 k5 : Option Value}
    {u e t0 : Addr} {rest : List Value} {Q : Value → Shared → Prop}
    (hC : h.get? C = some (excClassObj nm q C N bs bm hdct sn sub ab col dd k0 k1 k2 k3 k5 "ValueError.__new__")) (he : h.get? e = some (excO C t0)) (hu : h.get? u = some (kxs_mw "ValueError.__init__" e)) (hz : rest.length ≤ sizeLine)
    (hq : ∀ h' t1, (∀ b o, b ≠ e → h.get? b = some o → h'.get? b = some o) → h'.get? e = some (excO C t1) → Q .none ⟨h', g, d, t, os⟩) :
    wpAny (model prog w) A (call (.ref u) rest) Q E ⟨h, g, d, t, os⟩ := by
  refine wpAny_call (codeAny_of_tree ?_)
  show wpAny _ A.in1 (callAny (.ref u) ⟨rest, []⟩) _ _ _
  simp only [callAny]
  refine wpAny_bind (wpAny_load hu ?_)
  have y1 : (Value.type "method-wrapper" == Value.type "method" || Value.type "method-wrapper" == Value.type "builtin_function_or_method" || Value.type "method-wrapper" == Value.type "method-wrapper") = true := by decide
  simp only [kxs_mw, y1, if_true]
  refine KFB.if_so (by decide) (wpAny_bind (check_bound_init F.excBase_ValueError.toExcCallFacts hC he rfl ?_))
  refine wpAny_bind (wpAny_pure (wpAny_pure ⟨plainId_quiet F.excBase_ValueError.init.plain _, codeAny_builtin F.excBase_ValueError.initEntry ?_⟩))
  exact exc_init_tree (cls := .ref C) (t0 := t0) (dv := none) (c2 := .none) (c3 := .none) (b4 := .bool false) he hz fun h' k e1 _ => hq h' _ k e1
/-- what such an __init__ leaves of a fresh exception at x -/
structure InitEnd (h h' : Heap) (x C dx t1 : Addr) (fld : Str) (v : Value) : Prop where
  keep : ∀ b o, b ≠ x → h.get? b = some o → h'.get? b = some o
  obj : h'.get? x = some { cls := .ref C, dict := some dx, data := .fields #[.ref t1, .none, .none, .none, .bool false, .none] }
  dbig : h.objs.size ≤ dx
  dne : dx ≠ x
  ns : h'.Ns1 dx (fun y => if y = fld then some v else none)
/-- a made error -/
structure OwnMade (h h' : Heap) (e C d : Addr) (fld : Str) (v : Value) : Prop where
  keep : ∀ b o, h.get? b = some o → h'.get? b = some o
  new : h.objs.size ≤ e
  obj : ∃ oe vs, h'.get? e = some oe ∧ oe.cls = .ref C ∧ oe.dict = some d ∧ oe.data = .fields vs ∧ vs[1]? = some .none
  dbig : h.objs.size ≤ d
  dne : d ≠ e
  ns : h'.Ns1 d (fun y => if y = fld then some v else none)
section
variable {prog : Program} {w : World} {A : Around} {E : Value → Shared → Prop} {R : Result → Shared → Prop} {s : Shared} {K : Frag} {mg mb : Str → Option Value} {nm fld msg : Str} {p : Pl} {C fI : Addr}
theorem sup_init (T : SupTxt prog K mg nm fld msg p C fI) {x t0 : Addr} {v : Value} (X : K.In s.heap) (G : s.heap.Ns mainGlobals mg) (B : s.heap.Ns builtinsNs mb) (hB : ∀ x : Str, x ≠ "__name__" → mb x = bootBuiltins x) (hlim : s.heap.NoLimit)
    (hx : s.heap.get? x = some (excO C t0)) (hnx : K.lookup x = none) (hxC : x ≠ C) (hroom : A.depth < recursionLimit)
    (hq : ∀ h' tk dx t1, InitEnd s.heap h' x C dx t1 fld v → R (.ok (.ret .none)) { s with heap := h', toks := tk }) :
    codeAny (model prog w) A (.call (.ref fI) ⟨[.ref x, v], []⟩) R s := by
  obtain ⟨oc, od, doc, pm, an, ct, osl, cc, cda, l1, l2, d1, d2, s1, s2, vs, file, tf, ho, hcd, hcc, hco, hvs, hfile⟩ := T.fn
  obtain ⟨n2, q, N, bs, bm, sn, sub, ab, col, dd, k0, k1, k2, k3, k5, hC, hbm, hal⟩ := T.cls
  have hcl : clsIn K C = some { name := n2, bases := bs, mro := .ref C :: bm, ns := N, qualname := q, hasDict := true, slotNames := sn, subclasses := sub, abstract := ab, collection := col, hasDel := false } := by unfold clsIn; rw [hC] <;> rfl
  have O := T.ok
  refine ks_codeAny_call_defAt (fd := fnS nm fld msg p cc cda doc pm an ct) (body := iB fld msg p) (binds := [(("self" : Str), .ref x), (fld, v)]) hroom (X _ _ ho) rfl hlim (codeRec_of X hcd) rfl (BindsTo.of_eq (O.bind _ _ _ _ _ _ _ _)) ?_ ?_ (fun h₁ hns hk₁ => ?_)
  · intro y hy
    have hy' : y ∈ (iS fld).names := hy
    simp only [iS, List.mem_cons, List.not_mem_nil, or_false] at hy'
    rcases hy' with rfl | rfl | rfl | rfl <;> (intro z; cases z)
  · intro y hy
    rcases List.mem_cons.mp hy with rfl | hy
    · exact O.lS
    · rcases List.mem_cons.mp hy with rfl | hy
      · exact O.lF
      · cases hy
  obtain ⟨hp, g, d, t, os⟩ := s
  have X₁ : K.In h₁ := X.keeps hk₁
  have hx₁ : h₁.get? x = some (excO C t0) := hk₁ _ _ hx
  have mS : ([(("self" : Str), Value.ref x), (fld, v)] : List (Str × Value)).reverse.lookup ("self" : Str) = some (.ref x) := by
    have n1 : (("self" : Str) == fld) = false := by simpa using fun z : ("self" : Str) = fld => O.ns z.symm
    simp [List.lookup, n1]
  have mF : ([(("self" : Str), Value.ref x), (fld, v)] : List (Str × Value)).reverse.lookup fld = some v := by simp [List.lookup]
  have envk : (callEnv (fnS nm fld msg p cc cda doc pm an ct) hp.objs.size fI) = ksEnv (nm ++ ".__init__") (iS fld) hp.objs.size fI (.ref cda) cc := rfl
  show wpAt _ _ _ (execs (sSup msg p :: [sKeep fld p]) (ksEnv (nm ++ ".__init__") (iS fld) hp.objs.size fI (.ref cda) cc)) _ _ _
  refine ks_wpAt_execs_cons (ks_wpAt_Expr_any ?_)
  refine ks_wpAt_MethodCall (o := .Call (.Name "super" p.p0) [] [] p.p1) (name := "__init__") (apos := p.p2) (pos := p.p4) (args := [.Constant (.str msg) 0 p.p3]) ?_ (O.ev _)
  -- super()
  refine ks_wpAt_super_base (f := fI) (cc := cda) (vs := vs) (file := file) (tf := tf) (ar := { arg := "self", annotation := none, pos := p.a1 }) O.lP O.lC (by decide) rfl (X₁ _ _ ho) rfl rfl rfl (X₁ _ _ hco) rfl hvs hfile T.top ?_
  refine ks_loadName_global rfl O.lP (loadGlobal_builtin (G.keeps hk₁) (mg_none_of X G T.nsup) (B.keeps hk₁) ((hB _ (by decide)).trans (by decide +kernel : bootBuiltins "super" = some (.type "super"))) ⟨rfl, ?_⟩)
  refine wpAny_loadName_free rfl O.lC rfl ⟨_, X₁ _ _ hcc, rfl⟩ ?_
  refine wpAny_loadName_local rfl O.lS hns mS ?_
  refine ks_wpAny_isType_cls (X₁ _ _ hC) rfl ⟨rfl, ?_⟩
  refine ks_wpAny_call_super (X₁ _ _ hC) rfl hx₁ rfl (fun c z => by cases z) (looks_mroIn X₁ T.selfC) (fun h₂ hso hk₂ => ?_)
  -- .__init__
  have X₂ : K.In h₂ := X₁.keeps hk₂
  have hx₂ := hk₂ _ _ hx₁
  have LT : Looks (model prog w) h₂ (typeOf (.ref x)) (.ref C) := fun A Q E s k q => wpAny_typeOf_ref (k _ _ hx₂) q
  refine kxs_getMethod (B := "ValueError") (i := "ValueError.__init__") (l₀ := .ref C :: bm) (l := bm) (K := K) kxs_ValueError hso (looks_opaque X₂ T.npar) (fun A Q E s k q => wpAny_bind ((looks_clsIn X₂ hcl) A _ E s k (wpAny_pure q))) ?_ X₂ hal (LT.andThen (looks_subIn X₂ T.veC)) hxC (by decide) ?_
  · simp [List.dropWhile_cons]
  -- (text)
  have hk₃ : ∀ b o, h₂.get? b = some o → (h₂.push (kxs_mw "ValueError.__init__" x)).get? b = some o := fun b o e => Heap.get?_push_of_some _ e
  have hu₃ : (h₂.push (kxs_mw "ValueError.__init__" x)).get? h₂.objs.size = some (kxs_mw "ValueError.__init__" x) := Heap.get?_push_at rfl rfl
  refine kxs_callWith (i := "ValueError.__init__") (x := x) rfl ?_
  refine evalArgs_plain (Calls.spliced_cons (Calls.Constant_str (k := 0) (pos := p.p3) (Calls.spliced_nil ⟨hu₃, ?_⟩)))
  refine mw_call (t0 := t0) ((X₂.keeps hk₃) _ _ hC) (hk₃ _ _ hx₂) hu₃ (one_len _) (fun h₄ t1 hk₄ hx₄ => ?_)
  have all : ∀ b o, b ≠ x → hp.get? b = some o → h₄.get? b = some o := fun b o hb e => hk₄ b o hb (hk₃ _ _ (hk₂ _ _ (hk₁ _ _ e)))
  have X₄ : K.In h₄ := fun a o e => all a o (fun z => by rw [z, hnx] at e; cases e) (X a o e)
  have hL : hp.objs.size ≠ x := Nat.ne_of_gt (Heap.lt_size hx)
  have hns₄ : h₄.Ns hp.objs.size (fun y => ([(("self" : Str), Value.ref x), (fld, v)] : List (Str × Value)).reverse.lookup y) := by
    obtain ⟨o, es, ep, e1, r⟩ := hns
    exact ⟨o, es, ep, hk₄ _ _ hL (hk₃ _ _ (hk₂ _ _ e1)), r⟩
  -- self.f = f
  refine ks_wpAt_execs_cons (wpAt_of_wpAny (plainObj_wpAny_Assign_Attribute ?_))
  refine wpAny_Name (wpAny_loadName_local rfl O.lF hns₄ mF ?_) O.nd
  refine wpAny_Name (wpAny_loadName_local rfl O.lS hns₄ mS ?_) (by decide)
  refine set_plain X₄ (ox := excO C t1) (od := none) ⟨hx₄, rfl, rfl, trivial⟩ T.sa ?_
  refine exc_osa X₄ hx₄ hcl (show refsVE (.ref C :: bm) = true from hbm) rfl T.noN (fun h₅ tk₅ dx k₅ dn dne hx₅ hn₅ => ?_)
  refine wpAt_of_wpAny (wpAny_execs_nil (hq h₅ tk₅ dx t1 ⟨fun b o hb e => k₅ b o hb (all b o hb e), hx₅, ?_, dne, hn₅⟩))
  have lt : hp.objs.size < h₄.objs.size := hns₄.lt
  exact Nat.le_trans (Nat.le_of_lt lt) dn
end
end SupX
end PySem
set_option Elab.async false
set_option linter.all false
set_option maxRecDepth 100000
set_option maxHeartbeats 2000000
namespace PySem
namespace SupX
open PySem.W PySem.Calls PyProof.Rows PySem.HandSPX
section
variable {prog : Program} {w : World} {A : Around} {E : Value → Shared → Prop} {R : Result → Shared → Prop} {s : Shared} {K : Frag} {mg mb : Str → Option Value} {nm fld msg : Str} {p : Pl} {C fI : Addr}
theorem sup_made (T : SupTxt prog K mg nm fld msg p C fI) {v : Value} (X : K.In s.heap) (G : s.heap.Ns mainGlobals mg) (B : s.heap.Ns builtinsNs mb) (hB : ∀ x : Str, x ≠ "__name__" → mb x = bootBuiltins x) (hlim : s.heap.NoLimit) (hroom : A.depth + 1 < recursionLimit)
    (hq : ∀ h' tk e d, OwnMade s.heap h' e C d fld v → R (.ok (.ret (.ref e))) { s with heap := h', toks := tk }) :
    codeAny (model prog w) A (.call (.ref C) ⟨[v], []⟩) R s := by
  obtain ⟨n2, q, N, bs, bm, sn, sub, ab, col, dd, k0, k1, k2, k3, k5, hC, hbm, hal⟩ := T.cls
  obtain ⟨hp, g, dr, tk, os⟩ := s
  have two : ∀ b o, hp.get? b = some o → ((hp.push (kdv_tup [v])).push (excO C hp.objs.size)).get? b = some o := fun b o e => Heap.get?_push_of_some _ (Heap.get?_push_of_some _ e)
  have hget : ((hp.push (kdv_tup [v])).push (excO C hp.objs.size)).get? (hp.objs.size + 1) = some (excO C hp.objs.size) := by heap_get
  have far : ∀ b o, hp.get? b = some o → b ≠ hp.objs.size + 1 := fun b o e z => by
    have y := Heap.lt_size e
    rw [z] at y
    exact absurd (Nat.lt_of_succ_lt y) (Nat.lt_irrefl _)
  have hnx : K.lookup (hp.objs.size + 1) = none := by
    cases e : K.lookup (hp.objs.size + 1) with
    | none => rfl
    | some o => exact absurd rfl (far _ o (X _ _ e))
  refine call_own F.excBase_ValueError (fun X => refsVE_contains X bm hbm) (X _ _ hC) (looks_findIn X T.iC) (fun self => bind_fn X self T.tC) (one_len v) ?_
  refine sup_init (s := ⟨(hp.push (kdv_tup [v])).push (excO C hp.objs.size), g, dr, tk, os⟩) T (X.keeps two) (G.keeps two) (B.keeps two) hB (hlim.keeps two) hget hnx (fun z => far _ _ (X _ _ hC) z.symm) ?_ fun h' tk' dx t1 M => ?_
  · show A.depth + 1 < recursionLimit
    exact hroom
  · have old : ∀ b o, hp.get? b = some o → h'.get? b = some o := fun b o e => M.keep b o (far b o e) (two b o e)
    have big := M.dbig
    have z : hp.objs.size + 1 + 1 ≤ dx := by
      first
        | (simpa only [Heap.size_push] using big)
        | exact big
    exact ⟨rfl, hq h' tk' (hp.objs.size + 1) dx ⟨old, Nat.le_succ _, ⟨_, _, M.obj, rfl, rfl, rfl, rfl⟩, Nat.le_trans (Nat.le_trans (Nat.le_succ _) (Nat.le_succ _)) z, M.dne, M.ns⟩⟩
end
end SupX
end PySem
namespace L2
open PySem PySem.Spec PyProof.Rows
theorem relO_one {f : Str} {v : V} {v' : Value} (r : RelV v v') (g : Str) : RelO (List.lookup g [(f, v)]) (if g = f then some v' else none) := by
  by_cases hw : g = f
  · subst hw
    have q : List.lookup g [(g, v)] = some v := by simp [List.lookup]
    rw [if_pos rfl, q]
    exact r
  · have qw : (g == f) = false := by simpa using hw
    have q2 : List.lookup g [(f, v)] = none := by simp [List.lookup, qw]
    rw [if_neg hw, q2]
    trivial
section
variable {X : Cx} {nm fld msg : Str} {p : SupX.Pl} {C fI : Addr}
/-- Bad(e): the class at C, a new dict that holds the field -/
def tMkSup (C : Addr) (fld : Str) (ta : TA) : St → Hp → XK → Prop := fun σ H Q => ta σ H fun vs H1 => ∃ v, vs = [v] ∧ ∀ d, H1 d = none → Q (.ref C) (some d) (upd H1 d (.xd [(fld, v)]))
theorem pmk_sup {a : Expr} {ta : TA} {pf pos : Pos} {k : Nat} (T : SupX.SupTxt X.prog X.K X.mg nm fld msg p C fI) (hr : Room k X.A) (ha : PA X [a] ta) (hg : Gl X nm) (hdb : (nm == ("__debug__" : Str)) = false := by decide)
    (he : starEach (a :: []) X.env = (false, eval a X.env) :: starEach [] X.env := by rfl) (hpl : (backTo pos (starEach [] X.env)).any (·.1) = false := by rfl) :
    PMk X (.Call (.Name nm pf) [a] [] pos) (tMkSup C fld ta) := by
  intro pins s σ H Q I h
  refine wpAny_Call_Name_kw (ld_glob I hg T.gC ?_ hdb)
  refine PySem.W.callWith_K (h₀ := X.base) I.ok.mod.kin T.kC (thn (ha.run pos pins s σ H _ I h) fun us s1 hh => ?_) he hpl
  obtain ⟨vs, H1, I1, r1, v, ev, q1⟩ := hh
  subst ev
  refine ⟨I1.kIn, ?_⟩
  cases r1 with
  | cons rv rn =>
    rename_i v' us'
    cases rn
    show wpAny _ _ (call (.ref C) [v']) _ _ _
    have hlim := I1.nolimit
    obtain ⟨mb, hb1, hb2⟩ := I1.mod.blt
    have hG := I1.mod.glob.keeps I1.bk
    have hB := hb1.keeps I1.bk
    obtain ⟨hp, g, dr, tk, os⟩ := s1
    refine wpAny_call (SupX.sup_made T I1.kIn hG hB hb2 hlim (by have := hr.dp; omega) fun h' tk' e d M => ?_)
    show MkP X pins σ Q (.ref e) ⟨h', g, dr, tk', os⟩
    obtain ⟨oe, fv, hoe, hc, hd, hdat, h1⟩ := M.obj
    have hns := M.ns
    obtain ⟨G', g1, g2⟩ := restrict h' fun b => decide (b ≠ e)
    have gk : ∀ b, b ≠ e → G'.get? b = h'.get? b := fun b hb => g1 b (decide_eq_true hb)
    have ge : G'.get? e = none := g2 e (by simp)
    have old : ∀ b o, hp.get? b = some o → G'.get? b = some o := fun b o q => (gk b (Nat.ne_of_lt (Nat.lt_of_lt_of_le (Heap.lt_size q) M.new))).trans (M.keep b o q)
    have ob : ObjOk X.prog X.w (upd H1 d (.xd [(fld, v)])) G' d (.xd [(fld, v)]) := ⟨_, hns.at (fun o q => (gk d M.dne).trans q), fun f => relO_one rv f⟩
    have J : Inv X pins σ (upd H1 d (.xd [(fld, v)])) ⟨G', g, dr, tk', os⟩ := I1.laid (t' := tk') old M.dbig ob
    refine ⟨e, oe, fv, ⟨G', g, dr, tk', os⟩, _, .ref C, some d, rfl, J, fun b o q => ?_, ge, hoe, ⟨hc, hd⟩, hdat, h1, ?_, rfl, I1.bare, raises_own T.exC T.tyC, q1 d (I1.hok.fresh M.dbig)⟩
    · by_cases hb : b = e
      · rw [show (⟨G', g, dr, tk', os⟩ : Shared).heap = G' from rfl, hb, ge] at q
        cases q
      · exact (gk b hb).symm.trans q
    · rw [upd_ne (Ne.symm M.dne)]
      exact I1.hok.fresh M.new
/-- raise Bad(e) -/
def tRaiseSup (C : Addr) (fld : Str) (W : WX) (ta : TA) : TS := fun _ σ H => tMkSup C fld ta σ H fun cls d H' => W cls d σ H'
theorem ps_raiseSup {a : Expr} {ta : TA} {W : WX} {pf pos pos2 : Pos} {k : Nat} (hc : X.calm = true) (T : SupX.SupTxt X.prog X.K X.mg nm fld msg p C fI) (hr : Room k X.A) (tk : Takes X W) (ha : PA X [a] ta) (hg : Gl X nm) (hdb : (nm == ("__debug__" : Str)) = false := by decide)
    (he : starEach (a :: []) X.env = (false, eval a X.env) :: starEach [] X.env := by rfl) (hpl : (backTo pos (starEach [] X.env)).any (·.1) = false := by rfl) :
    PS X (.Raise (some (.Call (.Name nm pf) [a] [] pos)) none pos2) (tRaiseSup C fld W ta) := ps_raise hc tk (pmk_sup T hr ha hg hdb he hpl)
theorem SupX.SupTxt.xf {prog : Program} {K : PySem.W.Frag} {mg : Str → Option Value} (T : PySem.SupX.SupTxt prog K mg nm fld msg p C fI) : XfC K C := ⟨T.ga, T.gg, T.exC, T.hdC⟩
end
end L2
set_option Elab.async false
set_option linter.all false
set_option maxRecDepth 100000
set_option maxHeartbeats 2000000
/-! # try: body, several clauses, each "except x as n" -/
namespace L2
open PySem PySem.Spec PyProof.Rows
/-- what is wanted at the end of a suite whose name (slot i) goes -/
def Ends.less (D : Ends) (i : Nat) : Ends := { nx := fun σ H => D.nx (σ.set i none) H, rt := D.rt, bk := fun σ H => D.bk (σ.set i none) H, ct := fun σ H => D.ct (σ.set i none) H }
/-- a clause: the class that it names, the slot of its name, its suite -/
structure Cls1 where
  c : Value
  i : Nat
  ts : Addr → Value → Option Addr → TS
def wEach (K : PySem.W.Frag) (Wout : WX) (D : Ends) : List Cls1 → WX
  | [] => Wout
  | q :: r => fun cls d σ H => ∃ b, PySem.W.exmOne K cls q.c = some b ∧ (b = true → q.i < σ.length → ∀ a, H a = none → q.ts a cls d (D.less q.i) (σ.set q.i (some (.ref a))) H) ∧ (b = false → wEach K Wout D r cls d σ H)
inductive ClsOk (X : Cx) : List ExceptHandler → List Cls1 → Prop
  | nil : ClsOk X [] []
  | cons {x n : Str} {q : Cls1} {b₀ : Stmt} {suite : List Stmt} {np p' : Pos} {hds : List ExceptHandler} {l : List Cls1} (hc : Names X x q.c) (hi : X.N[q.i]? = some n) (hln : X.env.kindOf n = some .local)
      (hsu : ∀ (a : Addr) (oe : Obj) (cls : Value) (d : Option Addr) (pn : List (Addr × Obj)), Zc cls d oe → (∃ vs, oe.data = .fields vs) → PSs (X.suite a ((a, oe) :: pn)) (b₀ :: suite) (q.ts a cls d)) (r : ClsOk X hds l) :
      ClsOk X (.ExceptHandler (some (.Name x np)) (some n) (b₀ :: suite) p' :: hds) (q :: l)
section
variable {X : Cx}
/-- an exception of the body in this frame's hand: sI is the state without it, h the heap now -/
structure InHand (X : Cx) (pins : List (Addr × Obj)) (B : Heap) (a : Addr) (cls : Value) (d : Option Addr) (σ : St) (H : Hp) (sI s : Shared) : Prop where
  inv : Inv X pins σ H sI
  ground : ∀ b o, sI.heap.get? b = some o → b ∉ frs X.stack → B.get? b = some o
  up : sI.heap.UpToSlots s.heap
  fly : HandSPX.FlyingZ B (X.env :: X.outer) a (Zc cls d) s.heap
  na : H a = none
  os : s.os = sI.os
  bare : AllBare s.gens
variable {pins : List (Addr × Obj)} {B : Heap} {a : Addr} {cls : Value} {d : Option Addr} {σ : St} {H : Hp} {sI s : Shared}
theorem InHand.later (M : InHand X pins B a cls d σ H sI s) {h : Heap} (fl : HandSPX.FlyingZ B (X.env :: X.outer) a (Zc cls d) h) (up : s.heap.UpToSlots h) : InHand X pins B a cls d σ H sI { s with heap := h } :=
  { inv := M.inv, ground := M.ground, up := M.up.trans up, fly := fl, na := M.na, os := M.os, bare := M.bare }
theorem InHand.here (M : InHand X pins B a cls d σ H sI s) : Inv X pins σ H s := M.inv.landed M.ground M.fly.1 M.up M.os M.bare
/-- the suite may begin -/
theorem InHand.suite (M : InHand X pins B a cls d σ H sI s) (hf : X.env.frame = some X.env.locals) : ∃ oe, s.heap.get? a = some oe ∧ Zc cls d oe ∧ (∃ vs, oe.data = .fields vs) ∧ Inv (X.suite a ((a, oe) :: (X.pn ++ pins))) [] σ H s := by
  obtain ⟨oe, vs, e1, e2, e3⟩ := M.fly.there
  have out : a ∉ frs (X.env :: X.outer) := by
    intro z
    obtain ⟨_, o2, y1, y2⟩ := M.fly.2.2.1.mem z
    rw [e1] at y1
    cases y1
    exact y2 _ e3
  have sub : ∀ b, b ∈ X.fs → b ∈ frs (X.env :: X.outer) := fun b z => by
    obtain ⟨e, y1, y2⟩ := List.mem_filterMap.mp z
    exact List.mem_filterMap.mpr ⟨e, List.mem_cons_of_mem _ y1, y2⟩
  refine ⟨oe, e1, e2, ⟨vs, e3⟩, M.here.suite e1 e3 M.na ?_ fun z => out (sub a z)⟩
  intro z
  exact out (List.mem_filterMap.mpr ⟨X.env, List.mem_cons_self, by rw [hf, z]⟩)
/-- no clause took it -/
theorem hand_on {W : WX} {D : Ends} (hs : X.stack = X.env :: X.outer) (hf : X.env.frame = some X.env.locals) (tk : Takes X W) (M : InHand X pins B a cls d σ H sI s) (w : W cls d σ H) :
    wpAny (model X.prog X.w) X.A (handleBy (.ref a) X.env []) (SP X pins D) X.xe s := by
  refine wpAny_handleBy_nil ?_
  obtain ⟨_, _, _, oe, vs, T, _, _, e1, _, e3, e4, _⟩ := id M.fly
  have last : wpAny (model X.prog X.w) X.A (setFlight (.ref a) X.env.frame) (fun _ s4 => wpAny (model X.prog X.w) X.A (throw (.ref a) : Sem Flow) (SP X pins D) X.xe s4) X.xe s := by
    rw [hf]
    refine HandSPX.setFlight_upZ M.fly fun h4 held up4 => wpAny_throw (tk _ _ ?_)
    refine ⟨a, B, sI, pins, σ, H, cls, d, rfl, M.inv, M.ground, M.up.trans up4, .inr (.inr ?_), M.na, M.os, M.bare, w⟩
    rw [hs]
    exact held
  unfold PySem.passOn
  refine wpAny_bind (wpAny_field e1 e3 e4 ?_)
  have nn : ¬ ((Value.ref T == Value.none) = true) := by simp
  rw [if_neg nn]
  first
    | exact wpAny_bind (wpAny_pure (wpAny_bind last))
    | exact wpAny_bind last
/-- the clauses, one after the other -/
theorem clauses {W : WX} {D : Ends} (hs : X.stack = X.env :: X.outer) (hf : X.env.frame = some X.env.locals) (hN : X.N.Nodup) (tk : Takes X W) {hds : List ExceptHandler} {l : List Cls1} (ok : ClsOk X hds l) :
    ∀ {s : Shared}, InHand X pins B a cls d σ H sI s → wEach X.K W D l cls d σ H → wpAny (model X.prog X.w) X.A (handleBy (.ref a) X.env hds) (SP X pins D) X.xe s := by
  induction ok with
  | nil => exact fun M w => hand_on hs hf tk M w
  | @cons x n q b₀ suite np p' hds2 l2 hc hi hln hsu r ih =>
    intro s M w
    obtain ⟨b, t1, yes, no⟩ := w
    obtain ⟨oe, e1, e2, e3, S⟩ := M.suite hf
    refine wpAny_handleBy_cons (codeAny_handlers_test ?_) (by intro z; cases z)
    have isC : PySem.W.Looks (model X.prog X.w) s.heap (typeOf (.ref a)) cls := fun A Q E s k y => wpAny_typeOf_ref (k _ _ e1) (by rw [e2.1]; exact y)
    have asked := PySem.W.exm_one (M := model X.prog X.w) M.here.kIn isC t1
    have named : ∀ {Q E : Value → Shared → Prop}, Q q.c s → wpAny (model X.prog X.w) (X.A.mark (some (.ref a))) (eval (.Name x np) X.env) Q E s := by
      intro Q E y
      obtain ⟨g1, g2, g3⟩ := hc
      rcases g3 with g3 | ⟨g3, g4, g5⟩
      · exact ld_glob S g1 g3 y g2
      · exact ld_blt S g1 g3 g4 y g5 g2
    refine named (asked.here ?_)
    cases b with
    | false => exact ih M (no rfl)
    | true =>
      refine codeAny_handlers_suite_as (HandSPX.lands_againZ M.fly fun h4 fl4 up4 => ?_)
      obtain ⟨oe4, _, z4, v4, S4⟩ := (M.later fl4 up4).suite hf
      refine store_ok (X := X.suite a ((a, oe4) :: (X.pn ++ pins))) (v := .ref a) S4 hN hi (.inl hln) rfl (fun s5 S5 => ?_) (.inr hln)
      refine wpAny_mono ((hsu a oe4 cls d (X.pn ++ pins) z4 v4).run [] s5 _ H _ S5 (yes rfl (by rw [M.inv.len]; exact (List.getElem?_eq_some_iff.mp hi).1) a M.na)) (fun f s6 after => ?_) (fun _ _ z => False.elim z)
      have goes : ∀ {σ6 : St} {H6 : Hp} {Q : Shared → Prop}, Inv (X.suite a ((a, oe4) :: (X.pn ++ pins))) [] σ6 H6 s6 → (∀ s7, Inv X pins (σ6.set q.i none) H6 s7 → Q s7) →
          wpAny (model X.prog X.w) X.A (do bindName X.env n .none; unbindBehindTheSuite X.env n p') (fun _ s7 => Q s7) X.xe s6 := by
        intro σ6 H6 Q S6 y
        exact gone_ok (S6.unsuite M.inv.ok) hN hi hln y
      cases f with
      | ret u =>
        obtain ⟨v6, σ6, H6, S6, r6, y⟩ := after
        exact goes S6 fun s7 J7 => ⟨_, _, _, J7, r6, y⟩
      | next | brk | cont =>
        obtain ⟨σ6, H6, S6, y⟩ := after
        exact goes S6 fun s7 J7 => ⟨_, _, J7, y⟩
theorem ps_try_each {body : List Stmt} {h₀ : ExceptHandler} {hds : List ExceptHandler} {l : List Cls1} {pos : Pos} {tb : WX → TS} {Wout : WX} (hs : X.stack = X.env :: X.outer) (hf : X.env.frame = some X.env.locals) (hN : X.N.Nodup) (tk : Takes X Wout)
    (hb : ∀ (W : WX) (pn : List (Addr × Obj)) (xe : Value → Shared → Prop), Takes (X.tr pn xe) W → PassesOwn (model X.prog X.w) X.A X.env xe → PSs (X.tr pn xe) body (tb W))
    (hh : ClsOk X (h₀ :: hds) l) : PS X (.Try body (h₀ :: hds) [] [] pos) (fun D σ H => tb (wEach X.K Wout D l) D σ H) := by
  refine ⟨fun pins s σ H D I h => ?_⟩
  have ok := I.ok
  refine wpAny_Try_except (wpAny_mono ((hb (wEach X.K Wout D l) (X.pn ++ pins) (fun e s₁ => wpAny (model X.prog X.w) X.A (noteFrame e X.env) (fun _ s₂ => wpAny (model X.prog X.w) X.A (setFlight e none) (fun _ s₃ =>
    wpAny (model X.prog X.w) X.A (handleBy e X.env (h₀ :: hds)) (SP X pins D) X.xe s₃) X.xe s₂) X.xe s₁) (fun u s' air => ?_) PassesOwn.looking).run [] s σ H D (I.toTry _) h) (fun f s1 end1 => ?_) (fun e s1 y => y))
  · obtain ⟨a, B, sI, pins', σ', H', cls, d, rfl, J', nb, up, sky, na, os, ag, w⟩ := air
    rw [show (X.tr (X.pn ++ pins) _).stack = X.env :: X.outer from hs] at sky
    show wpAny (model X.prog X.w) X.A (noteFrame (.ref a) X.env) _ _ _
    refine Sky.land Zc.steady (by rw [ok.frames, hs]) hf sky fun h3 fl3 up3 => ?_
    exact clauses hs hf hN tk hh ⟨J'.ofTry ok, nb, up.trans up3, fl3, na, os, ag⟩ w
  · cases f with
    | next =>
      obtain ⟨σ', H', J', y⟩ := end1
      exact wpAny_execs_nil ⟨σ', H', J'.ofTry ok, y⟩
    | ret u =>
      obtain ⟨v, σ', H', J', r, y⟩ := end1
      exact ⟨v, σ', H', J'.ofTry ok, r, y⟩
    | brk | cont =>
      obtain ⟨σ', H', J', y⟩ := end1
      exact ⟨σ', H', J'.ofTry ok, y⟩
end
end L2
set_option Elab.async false
set_option linter.all false
set_option maxRecDepth 100000
/-! # texts as lists of codes -/
namespace L2
open PySem PySem.Spec PyProof.Rows
/-- the text with these codes -/
def tx (l : List Nat) : Str := ⟨l.toArray⟩
theorem tx_cps (l : List Nat) : (tx l).cps.toList = l := rfl
theorem tx_len (l : List Nat) : (tx l).length = l.length := by show l.toArray.size = _; simp
theorem tx_app (a b : List Nat) : tx a ++ tx b = tx (a ++ b) := by
  show Str.mk (a.toArray ++ b.toArray) = Str.mk (a ++ b).toArray
  rw [List.append_toArray]
theorem tx_of (z : Str) : z = tx z.cps.toList := by
  obtain ⟨c⟩ := z
  show Str.mk c = Str.mk c.toList.toArray
  rw [Array.toArray_toList]
theorem tx_inj {a b : List Nat} : tx a = tx b ↔ a = b := by
  constructor
  · intro h
    have := congrArg (fun z : Str => z.cps.toList) h
    simpa [tx] using this
  · rintro rfl; rfl
theorem tx_cut (l : List Nat) (i j : Nat) (hi : i ≤ j) (hj : i ≤ l.length) : cutS (tx l) (some (i : Int)) (some (j : Int)) = tx ((l.drop i).take (j - i)) := by
  unfold cutS
  rw [HT.sIx_nat, HT.sIx_nat, tx_len, tx_cps]
  show tx _ = _
  congr 1
  have h1 : min i l.length = i := by omega
  rw [h1]
  by_cases h : j ≤ l.length
  · rw [Nat.min_eq_left h]
  · have h2 : min j l.length = l.length := by omega
    rw [h2, List.take_of_length_le (by rw [List.length_drop]; omega), List.take_of_length_le (by rw [List.length_drop]; omega)]
theorem tx_at {l : List Nat} {i c : Nat} (h : l[i]? = some c) : atI (tx l).cps.toList (i : Int) = some c := atI_nat h
theorem lt_one (a b : Nat) : decide (([a] : List Nat) < [b]) = decide (a < b) := by
  rw [decide_eq_decide]
  constructor
  · intro h
    rcases List.cons_lt_cons_iff.mp h with h | ⟨_, h⟩
    · exact h
    · exact absurd h (List.not_lt_nil _)
  · intro h
    exact List.cons_lt_cons_iff.mpr (.inl h)
end L2
set_option Elab.async false
set_option linter.all false
set_option maxRecDepth 100000
/-! # small helpers for readings -/
namespace L2
open PySem PySem.Spec PyProof.Rows
theorem or_read {b r : Bool} {Q : Bool → Prop} {B : Prop} (h : Q (b || r)) (hB : Q r → B) : if b = true then Q true else B := by
  cases b with
  | true => exact h
  | false => exact hB h
theorem and_read {b r : Bool} {Q : Bool → Prop} {B : Prop} (h : Q (b && r)) (hB : Q r → B) : if b = true then B else Q false := by
  cases b with
  | true => exact hB h
  | false => exact h
/-- a comprehension over a text -/
theorem lc_text {x : List Nat} {g : TG} {tt : TT} {te : TE} {vs : List Nat} {σ : St} {H1 : Hp} {D : Addr} {Qd : Hp → Prop} (Pv : Nat → Hp → Prop) (h0 : Pv 0 (upd H1 D (.lst [])))
    (hs : ∀ i c H, x[i]? = some c → Pv i H → g (.str (tx [c])) (wipe σ vs) H fun σ2 H2 => wipe σ2 vs = wipe σ vs ∧ tt σ2 H2 fun b H3 =>
      if b = true then te σ2 H3 fun y H4 => ∃ acc, H4 D = some (.lst acc) ∧ acc.length < sizeLine ∧ Pv (i + 1) (upd H4 D (.lst (acc ++ [y]))) else Pv (i + 1) H3) (hd : ∀ H, Pv x.length H → Qd H) :
    ∃ W : Nat → Nat → Hp → Prop, (∃ m, W 0 m (upd H1 D (.lst []))) ∧ ∀ i m H, W i m H →
      ((Its (tx x)).stop i H ∧ Qd H) ∨ ((Its (tx x)).go i H ∧ ∃ Nx : Hp → Prop, (∀ H', Nx H' → ∃ m', m' < m ∧ W (i + 1) m' H') ∧ ∀ y H', (Its (tx x)).yld i H y H' → g y (wipe σ vs) H' fun σ2 H2 => wipe σ2 vs = wipe σ vs ∧ tt σ2 H2 fun b H3 =>
        if b = true then te σ2 H3 fun y H4 => ∃ acc, H4 D = some (.lst acc) ∧ acc.length < sizeLine ∧ Nx (upd H4 D (.lst (acc ++ [y]))) else Nx H3) := by
  have sz : (tx x).cps.size = x.length := by show x.toArray.size = _; simp
  refine ⟨fun i m H => m = x.length - i ∧ i ≤ x.length ∧ Pv i H, ⟨x.length, by simp, Nat.zero_le _, h0⟩, fun i m H ⟨e1, e2, p⟩ => ?_⟩
  by_cases c : i < x.length
  · refine .inr ⟨by show i < (tx x).cps.size; rw [sz]; exact c, Pv (i + 1), fun H' q => ⟨x.length - (i + 1), by omega, rfl, c, q⟩, fun y H' z => ?_⟩
    obtain ⟨z1, k, z2, z3⟩ := z
    subst z1 z3
    have z4 : x[i]? = some k := by
      have : x.toArray[i]? = some k := z2
      simpa using this
    exact hs i k _ z4 p
  · have e : i = x.length := by omega
    subst e
    exact .inl ⟨by show (tx x).cps.size ≤ _; rw [sz]; exact Nat.le_refl _, hd H p⟩
theorem len_of_same {n m : Nat} (h : n = m) : (n : Int) = m := by rw [h]
theorem sz100 {n : Nat} (h : n ≤ 100000) : n ≤ sizeLine := Nat.le_trans h (by decide)
end L2
set_option Elab.async false
set_option linter.all false
set_option maxRecDepth 100000
/-! # a function that is called: its promise and all that the call asks, in one -/
namespace L2
open PySem PySem.Spec PyProof.Rows
structure Cl (P : Program) (w : World) (K : PySem.W.Frag) (mg : Str → Option Value) (base : Heap) (CX : CXT) (k : Nat) (x : Str) (ps : List Str) (sp : Sp) : Prop where
  ex : ∃ (f : Addr) (fd : FuncData), FnOk P w K mg base CX k f fd ps sp ∧ mg x = some (.ref f) ∧ PySem.W.keepIn K (.ref f) = true ∧ Binds K fd ps []
section
variable {X : Cx} {CX : CXT} {k j : Nat} {x : Str} {ps : List Str} {sp : Sp} {E : XK} {e : Expr} {es : List Expr} {t : TA} {p pos : Pos}
theorem pe_cl (c : Cl X.prog X.w X.K X.mg X.base CX k x ps sp) (hr : Room j X.A) (hk : k ≤ j) (hg : Gl X x) (hx : Passes CX X E) (ha : PA X (e :: es) t) (hdb : (x == ("__debug__" : Str)) = false := by decide)
    (he : starEach (e :: es) X.env = (false, eval e X.env) :: starEach es X.env := by rfl) (hpl : (backTo pos (starEach es X.env)).any (·.1) = false := by rfl) : PE X (.Call (.Name x p) (e :: es) [] pos) (tCall sp [] E t) := by
  obtain ⟨f, fd, o, m, kp, b⟩ := c.ex
  exact pe_call o (hr.mono hk) hg m kp b .nil hx ha hdb he hpl
theorem pe_cl0 (c : Cl X.prog X.w X.K X.mg X.base CX k x ps sp) (hr : Room j X.A) (hk : k ≤ j) (hg : Gl X x) (hx : Passes CX X E) (hdb : (x == ("__debug__" : Str)) = false := by decide) : PE X (.Call (.Name x p) [] [] pos) (tCall sp [] E tNil) := by
  obtain ⟨f, fd, o, m, kp, b⟩ := c.ex
  exact pe_call0 o (hr.mono hk) hg m kp b .nil hx hdb
theorem and_if {a b : Bool} {X R T : Prop} (hX : (if b = true then R else T) → X) (h : if (a && b) = true then R else T) : if a = true then X else if false = true then R else T := by
  cases a with
  | true => exact hX h
  | false => exact h
theorem while_gen {tc : TT} {tb : TS} {D : Ends} {σ : St} {H : Hp} (h : ∀ D', D' = D → tWhile tc tb D' σ H) : tWhile tc tb D σ H := h D rfl
/-- a if c else b, where a truth is asked -/
def tIfT (t ta tb : TT) : TT := fun σ H Q => t σ H fun c H1 => if c = true then ta σ H1 Q else tb σ H1 Q
theorem pt_ifExp {c a b : Expr} {tc ta tb : TT} (hc : PT X c tc) (ha : PT X a ta) (hb : PT X b tb) : PT X (.IfExp c a b pos) (tIfT tc ta tb) := by
  refine ⟨fun pins s σ H Q I h => isTrue_IfExp (thn (hc.run pins s σ H _ I h) fun d s1 ⟨H1, I1, q1⟩ => ?_)⟩
  cases d with
  | true => exact ha.run pins s1 σ H1 Q I1 q1
  | false => exact hb.run pins s1 σ H1 Q I1 q1
end
end L2
set_option Elab.async false
set_option linter.all false
set_option maxRecDepth 100000
/-! # a text, so many times -/
namespace L2
open PySem PySem.Spec PyProof.Rows
theorem fold_tx (z : List Nat) : ∀ (k : Nat) (acc : List Nat), (List.replicate k z.toArray).foldl (· ++ ·) acc.toArray = (acc ++ (List.replicate k z).flatten).toArray
  | 0, acc => by simp
  | k + 1, acc => by
    rw [List.replicate_succ, List.foldl_cons, List.append_toArray, fold_tx z k, List.replicate_succ, List.flatten_cons, List.append_assoc]
def rRepS : R2 := fun x y H Q => ∃ (z : List Nat) (n : Nat), x = .str (tx z) ∧ y = .int (n : Int) ∧ z.length * n ≤ 1000000 ∧ n ≤ 1000000 ∧ Q (.str (tx (List.replicate n z).flatten)) H
theorem op_repS {X : Cx} : OpR X (binaryOp .Mult) rRepS := by
  intro pins s σ H x y v u Q I rx ry h
  obtain ⟨z, n, rfl, rfl, h1, h2, q⟩ := h
  obtain ⟨t, rfl⟩ := rx
  obtain ⟨t', rfl⟩ := ry
  have hz : (tx z).length = z.length := tx_len z
  have tl : Builtin.Str.tooLong ((tx z).length * (n : Int).toNat) = false := by
    rw [hz, Int.toNat_natCast]
    have : ¬ z.length * n > 2 ^ 24 := by omega
    simp [Builtin.Str.tooLong, sizeLine]; omega
  have hr : (decide ((n : Int) < -(2 ^ 63 : Int)) || decide ((n : Int) ≥ 2 ^ 63)) = false := by
    rw [Bool.or_eq_false_iff]; constructor <;> (apply decide_eq_false; omega)
  have hz' : (tx z).cps = z.toArray := rfl
  refine P.mul_str hr (fun h3 h4 => ?_) (fun _ _ => tl) ?_
  · have g1 : 1 ≤ n := by omega
    rw [hz]
    refine Int.not_lt.mpr ((Int.le_ediv_iff_mul_le (by omega)).mpr ?_)
    have : ((z.length : Nat) : Int) * (n : Int) = ((z.length * n : Nat) : Int) := (Int.natCast_mul _ _).symm
    rw [this]
    omega
  · by_cases c1 : (n : Int) < 1
    · rw [if_pos c1]
      have : n = 0 := by omega
      subst this
      exact ⟨by decide, ⟨.str (tx []), H, I.tok _, ⟨_, rfl⟩, q⟩⟩
    · rw [if_neg c1]
      by_cases c2 : ((n : Int) == 1 || (tx z).length == 0) = true
      · rw [if_pos c2]
        refine ⟨.str (tx z), H, I, ⟨_, rfl⟩, ?_⟩
        have : (List.replicate n z).flatten = z := by
          rcases Bool.or_eq_true_iff.mp c2 with c3 | c3
          · have : n = 1 := by have := eq_of_beq c3; omega
            subst this; simp
          · have : z.length = 0 := by rw [← hz]; exact eq_of_beq c3
            have : z = [] := List.length_eq_zero_iff.mp this
            subst this; simp
        rw [this] at q
        exact q
      · rw [if_neg c2]
        have e := fold_tx z n []
        rw [List.nil_append] at e
        have e2 : (⟨List.foldl (fun x1 x2 => x1 ++ x2) #[] (List.replicate (n : Int).toNat (tx z).cps)⟩ : Str) = tx (List.replicate n z).flatten := congrArg Str.mk e
        rw [e2]
        refine ⟨?_, ⟨.str (tx (List.replicate n z).flatten), H, I.tok _, ⟨_, rfl⟩, q⟩⟩
        rw [tx_len, List.length_flatten]
        simp only [List.map_replicate, List.sum_replicate_nat]
        rw [Nat.mul_comm]
        exact Nat.le_trans h1 (by decide)
end L2
set_option Elab.async false
set_option linter.all false
set_option maxRecDepth 100000
/-! # what a law draws from -/
namespace L2
open PySem PySem.Spec PyProof.Rows
/-- the state that is drawn from, at m; at most n have been drawn from the cells -/
def mKvs (L S : Int) (c : Addr) (n : Int) : List (Key × V) := [(.inr "left", .int L), (.inr "stir", .int S), (.inr "cells", .ref c), (.inr "spot", .int n)]
def MSt (H : Hp) (m c : Addr) (n : Nat) : Prop := ∃ (L S : Int) (cells : List Int) (spot : Nat), H m = some (.dK (mKvs L S c spot)) ∧ H c = some (.lst (cells.map V.int)) ∧ cells ≠ [] ∧ cells.length ≤ 64 ∧ spot ≤ n
theorem mk_left {H : Hp} {m c : Addr} {L S n : Int} (h : H m = some (.dK (mKvs L S c n))) : DGet H m (.str "left") (some (.int L)) := DGet.k h (k := .inr "left")
theorem mk_stir {H : Hp} {m c : Addr} {L S n : Int} (h : H m = some (.dK (mKvs L S c n))) : DGet H m (.str "stir") (some (.int S)) := DGet.k h (k := .inr "stir")
theorem mk_cells {H : Hp} {m c : Addr} {L S n : Int} (h : H m = some (.dK (mKvs L S c n))) : DGet H m (.str "cells") (some (.ref c)) := DGet.k h (k := .inr "cells")
theorem mk_spot {H : Hp} {m c : Addr} {L S n : Int} (h : H m = some (.dK (mKvs L S c n))) : DGet H m (.str "spot") (some (.int n)) := DGet.k h (k := .inr "spot")
theorem put_left {H : Hp} {m c : Addr} {L S n L' : Int} (h : H m = some (.dK (mKvs L S c n))) : DPut H m (.str "left") (.int L') (upd H m (.dK (mKvs L' S c n))) := DPut.k h (k := .inr "left") (show 4 < sizeLine by decide)
theorem put_spot {H : Hp} {m c : Addr} {L S n n' : Int} (h : H m = some (.dK (mKvs L S c n))) : DPut H m (.str "spot") (.int n') (upd H m (.dK (mKvs L S c n'))) := DPut.k h (k := .inr "spot") (show 4 < sizeLine by decide)
theorem MSt.mono {H : Hp} {m c : Addr} {n k : Nat} (h : MSt H m c n) (l : n ≤ k) : MSt H m c k := by
  obtain ⟨L, S, cells, spot, h1, h2, h3, h4, h5⟩ := h
  exact ⟨L, S, cells, spot, h1, h2, h3, h4, Nat.le_trans h5 l⟩
/-- all but m stays -/
def But (m : Addr) (H H' : Hp) : Prop := ∀ b o, b ≠ m → H b = some o → H' b = some o
theorem MSt.nel {m c p : Addr} {n : Nat} {H : Hp} {xs : List V} (hm : MSt H m c n) (h : H p = some (.lst xs)) : p ≠ m := fun z => by
  obtain ⟨L, S, cells, spot, h1, _⟩ := hm
  rw [z, h1] at h; cases h
theorem MSt.net {m c p : Addr} {n : Nat} {H : Hp} {xs : List V} (hm : MSt H m c n) (h : H p = some (.tup xs)) : p ≠ m := fun z => by
  obtain ⟨L, S, cells, spot, h1, _⟩ := hm
  rw [z, h1] at h; cases h
theorem MSt.new {m c p : Addr} {n : Nat} {H : Hp} (hm : MSt H m c n) (h : H p = none) : p ≠ m := fun z => by
  obtain ⟨L, S, cells, spot, h1, _⟩ := hm
  rw [z, h1] at h; cases h
theorem MSt.newc {m c p : Addr} {n : Nat} {H : Hp} (hm : MSt H m c n) (h : H p = none) : p ≠ c := fun z => by
  obtain ⟨L, S, cells, spot, _, h1, _⟩ := hm
  rw [z, h1] at h; cases h
/-- something else is written -/
theorem MSt.put {m c p : Addr} {n : Nat} {H : Hp} {o : HO} (hm : MSt H m c n) (h1 : p ≠ m) (h2 : p ≠ c) : MSt (upd H p o) m c n := by
  obtain ⟨L, S, cells, spot, g1, g2, h3⟩ := hm
  exact ⟨L, S, cells, spot, (upd_ne (Ne.symm h1)).trans g1, (upd_ne (Ne.symm h2)).trans g2, h3⟩
theorem But.refl (m : Addr) (H : Hp) : But m H H := fun _ _ _ h => h
theorem But.trans {m : Addr} {H H1 H2 : Hp} (a : But m H H1) (b : But m H1 H2) : But m H H2 := fun x o hx h => b x o hx (a x o hx h)
theorem Same.but {m : Addr} {H H' : Hp} (a : Same H H') : But m H H' := fun b o _ h => a b o h
theorem But.of {m : Addr} {H H' : Hp} (a : ∀ b, b ≠ m → H' b = H b) : But m H H' := fun b o hb h => (a b hb).trans h
theorem But.free {m : Addr} {H H' : Hp} (e : But m H H') {l : Addr} (hl : l ≠ m) (h : H' l = none) : H l = none := by
  cases z : H l with
  | none => rfl
  | some o => rw [e l o hl z] at h; cases h
theorem But.upd {m : Addr} {H H' : Hp} (e : But m H H') {a : Addr} {o : HO} (h : H a = none ∨ a = m) : But m H (upd H' a o) := fun b ob hb z => by
  by_cases c : b = a
  · subst c
    rcases h with h | h
    · rw [h] at z; cases z
    · exact absurd h hb
  · rw [upd_ne c]; exact e b ob hb z
theorem MSt.but {H H' : Hp} {m c : Addr} {n : Nat} (h : MSt H m c n) (e : Same H H') : MSt H' m c n := by
  obtain ⟨L, S, cells, spot, h1, h2, h3⟩ := h
  exact ⟨L, S, cells, spot, e _ _ h1, e _ _ h2, h3⟩
theorem MSt.has {H : Hp} {m c : Addr} {n : Nat} (h : MSt H m c n) : ∃ o, H m = some o := by
  obtain ⟨L, S, cells, spot, h1, _⟩ := h
  exact ⟨_, h1⟩
theorem same_upd {H H' : Hp} (e : Same H H') {a : Addr} {o : HO} (h : H a = none) : Same H (upd H' a o) := fun b ob hb => by
  by_cases c : b = a
  · subst c; rw [h] at hb; cases hb
  · rw [upd_ne c]; exact e b ob hb
/-- a number is drawn -/
def spDraw : Sp := fun vs H Q _ => ∃ (m c : Addr) (n span : Nat), vs = [.ref m, .int (span : Int)] ∧ MSt H m c n ∧ n < 2 ^ 32 ∧ 0 < span ∧ span < 2 ^ 30 ∧
  ∀ (r : Nat) H', r < span → MSt H' m c (n + 1) → (∀ b, b ≠ m → H' b = H b) → Q (.int (r : Int)) H'
/-- one of a list's things is drawn -/
def spOf (K : PySem.W.Frag) : Sp := fun vs H Q _ => ∃ (m c : Addr) (n : Nat) (p : Addr) (xs : List V), vs = [.ref m, .ref p] ∧ SqL K H p xs ∧ p ≠ m ∧ xs ≠ [] ∧ xs.length < 2 ^ 20 ∧ MSt H m c n ∧ n < 2 ^ 32 ∧
  ∀ (v : V) H', v ∈ xs → MSt H' m c (n + 1) → (∀ b, b ≠ m → H' b = H b) → Q v H'
/-- the state is laid -/
def spBegun (K : PySem.W.Frag) : Sp := fun vs H Q _ => ∃ (p : Addr) (zs : List Int) (t : Nat), vs = [.ref p, .int (t : Int)] ∧ SqL K H p (zs.map V.int) ∧ zs.length ≤ 63 ∧ t ≤ 1000 ∧
  ∀ (m c : Addr) H', H m = none → H c = none → MSt H' m c 0 → Same H H' → Q (.ref m) H'
theorem draw_at {H : Hp} {m c : Addr} {n : Nat} {Q : VK} {E : XK} (span : Nat) (hm : MSt H m c n) (hn : n < 2 ^ 32) (h0 : 0 < span) (h1 : span < 2 ^ 30) (q : ∀ (r : Nat) H', r < span → MSt H' m c (n + 1) → But m H H' → Q (.int (r : Int)) H') : spDraw [.ref m, .int (span : Int)] H Q E :=
  ⟨m, c, n, span, rfl, hm, hn, h0, h1, fun r H' a b c => q r H' a b (But.of c)⟩
theorem of_at {K : PySem.W.Frag} {H : Hp} {m c p : Addr} {n : Nat} {xs : List V} {Q : VK} {E : XK} (hm : MSt H m c n) (hs : SqL K H p xs) (hp : p ≠ m) (hn : n < 2 ^ 32) (hne : xs ≠ []) (hl : xs.length < 2 ^ 20) (q : ∀ v H', v ∈ xs → MSt H' m c (n + 1) → But m H H' → Q v H') :
    spOf K [.ref m, .ref p] H Q E := ⟨m, c, n, p, xs, rfl, hs, hp, hne, hl, hm, hn, fun v H' a b c => q v H' a b (But.of c)⟩
theorem of_lit {K : PySem.W.Frag} {H : Hp} {m c : Addr} {n : Nat} {xs : List V} {Q : VK} {E : XK} (hm : MSt H m c n) (hn : n < 2 ^ 32) (hne : xs ≠ []) (hl : xs.length ≤ 100) (q : ∀ v H', v ∈ xs → MSt H' m c (n + 1) → But m H H' → Q v H') :
    xs.length ≤ sizeLine ∧ ∀ p, H p = none → spOf K [.ref m, .ref p] (upd H p (.lst xs)) Q E := by
  refine ⟨Nat.le_trans hl (by decide), fun p hp => ?_⟩
  have hpm : p ≠ m := fun z => by
    obtain ⟨o, ho⟩ := hm.has
    rw [z, ho] at hp; cases hp
  have s1 : Same H (upd H p (.lst xs)) := same_upd (Same.refl H) hp
  exact of_at (hm.but s1) (SqL.of upd_same) hpm hn hne (Nat.lt_of_le_of_lt hl (by decide)) fun v H' a b c => q v H' a b ((s1.but).trans c)
theorem ite_eqi {n m : Nat} {A B : Prop} (h1 : n = m → A) (h2 : n ≠ m → B) : if decide (V.int (n : Int) = V.int (m : Int)) = true then A else B := by
  by_cases h : n = m
  · subst h; rw [decide_eq_true rfl, if_pos rfl]; exact h1 rfl
  · rw [decide_eq_false (fun z => h (by injection z with z; omega)), if_neg Bool.false_ne_true]; exact h2 h
theorem gen_Q {t : TE} {σ : L2.St} {H : Hp} {Q : VK} (h : ∀ Q', Q' = Q → t σ H Q') : t σ H Q := h _ rfl
theorem add_if {T : Bool} {r : Nat} {H : Hp} {Q : VK} (h : Q (.int ((r + (if T then 1 else 0) : Nat) : Int)) H) : if T = true then rI0 (fun i j => V.int (i + j)) (.int (r : Int)) (.int 1) H Q else rI0 (fun i j => V.int (i + j)) (.int (r : Int)) (.int 0) H Q := by
  cases T with
  | true => exact ⟨_, _, rfl, rfl, h⟩
  | false => exact ⟨_, _, rfl, rfl, h⟩
theorem tIf_gen {tc : TT} {ta tb : TE} {σ : L2.St} {H : Hp} {Q : VK} (h : ∀ ta' tb' Q', ta' = ta → tb' = tb → Q' = Q → tIf tc ta' tb' σ H Q') : tIf tc ta tb σ H Q := h _ _ _ rfl rfl rfl
end L2
set_option Elab.async false
set_option linter.all false
set_option maxRecDepth 100000
set_option maxHeartbeats 1000000
/-! # alike, and shown alike -/
namespace L2
open PySem PySem.Spec PyProof.Rows
/-- data that may be shown -/
structure Lk (k n : Nat) (d : PyData) : Prop where
  lay : d.canLay0 = true
  dep : d.depth ≤ k
  wt : d.weight ≤ n
  sh : d.intsShort 13 = true
  sw : d.showable = true
structure LkAll (k n : Nat) (ds : List PyData) : Prop where
  lay : PyData.canLayAll0 ds = true
  dep : PyData.depthAll ds ≤ k
  wt : PyData.weightAll ds ≤ n
  sh : PyData.intsShortAll 13 ds = true
  sw : PyData.showableAll ds = true
theorem Lk.mono {k n k' n' : Nat} {d : PyData} (h : Lk k n d) (hk : k ≤ k') (hn : n ≤ n') : Lk k' n' d := ⟨h.lay, Nat.le_trans h.dep hk, Nat.le_trans h.wt hn, h.sh, h.sw⟩
theorem LkAll.mono {k n k' n' : Nat} {d : List PyData} (h : LkAll k n d) (hk : k ≤ k') (hn : n ≤ n') : LkAll k' n' d := ⟨h.lay, Nat.le_trans h.dep hk, Nat.le_trans h.wt hn, h.sh, h.sw⟩
theorem Lk.non : Lk 0 0 .none := ⟨rfl, Nat.le_refl _, Nat.le_refl _, rfl, rfl⟩
theorem Lk.bl (b : Bool) : Lk 0 0 (.bool b) := ⟨rfl, Nat.le_refl _, Nat.le_refl _, rfl, rfl⟩
theorem Lk.str {l : List Nat} (h : l.all (fun c => decide (c < 1114112)) = true) : Lk 0 l.length (.str (tx l)) := by
  refine ⟨?_, Nat.le_refl _, ?_, rfl, rfl⟩
  · show PyData.strOk (tx l) = true
    unfold PyData.strOk tx
    rw [← Array.all_toList]
    simpa using h
  · show (tx l).cps.size ≤ _
    exact Nat.le_of_eq (tx_len l)
theorem Lk.int {i : Int} (h : i.natAbs < 10 ^ 12) : Lk 0 60 (.int i) := by
  have h2 : i.natAbs.log2 ≤ 40 := by
    by_cases z : i.natAbs = 0
    · rw [z]; decide
    · have := Nat.log2_self_le z
      apply Nat.le_of_not_lt
      intro c
      have : 2 ^ 41 ≤ 2 ^ i.natAbs.log2 := Nat.pow_le_pow_right (by decide) c
      omega
  refine ⟨rfl, Nat.le_refl _, ?_, decide_eq_true (PyData.shown_int_le h), decide_eq_true (by omega)⟩
  show (if i == 0 then 0 else i.natAbs.log2 + 1) ≤ 60
  split <;> omega
theorem LkAll.nil (k : Nat) : LkAll k 0 [] := ⟨rfl, Nat.zero_le _, Nat.le_refl _, rfl, rfl⟩
theorem LkAll.cons {k n m : Nat} {d : PyData} {ds : List PyData} (a : Lk k n d) (b : LkAll k m ds) : LkAll k (n + 1 + m) (d :: ds) :=
  ⟨Bool.and_eq_true_iff.mpr ⟨a.lay, b.lay⟩, Nat.max_le.mpr ⟨a.dep, b.dep⟩, Nat.add_le_add (Nat.add_le_add_right a.wt 1) b.wt, Bool.and_eq_true_iff.mpr ⟨a.sh, b.sh⟩, Bool.and_eq_true_iff.mpr ⟨a.sw, b.sw⟩⟩
theorem Lk.tup {k n : Nat} {ds : List PyData} (a : LkAll k n ds) : Lk (k + 1) n (.tuple ds) := ⟨a.lay, Nat.succ_le_succ a.dep, a.wt, a.sh, a.sw⟩
theorem Lk.lst {k n : Nat} {ds : List PyData} (a : LkAll k n ds) : Lk (k + 1) n (.list ds) := ⟨a.lay, Nat.succ_le_succ a.dep, a.wt, a.sh, a.sw⟩
theorem LkAll.of {k n : Nat} : ∀ {ds : List PyData}, (∀ d ∈ ds, Lk k n d) → LkAll k (ds.length * (n + 1)) ds
  | [], _ => by rw [List.length_nil, Nat.zero_mul]; exact LkAll.nil k
  | d :: ds, h => by
    refine (LkAll.cons (h d List.mem_cons_self) (LkAll.of fun e he => h e (List.mem_cons_of_mem _ he))).mono (Nat.le_refl _) ?_
    rw [List.length_cons, Nat.succ_mul]; omega
theorem Lk.layable {k n : Nat} {d : PyData} (h : Lk k n d) (hk : k ≤ 64) (hn : n ≤ 2 ^ 20) : PyData.layable0 d = true := by
  unfold PyData.layable0
  rw [Bool.and_eq_true, Bool.and_eq_true]
  exact ⟨⟨h.lay, decide_eq_true (Nat.le_trans h.dep hk)⟩, decide_eq_true (Nat.le_trans h.wt hn)⟩
theorem Lk.shaped {k n : Nat} {d : PyData} (h : Lk k n d) (hk : k ≤ 64) : SeqAt.shaped d = true := by
  unfold SeqAt.shaped
  rw [Bool.and_eq_true]
  exact ⟨h.lay, decide_eq_true (Nat.le_trans h.dep hk)⟩
/-- repr(v), v a text or what stands at an address -/
def rRepr (K : PySem.W.Frag) : List V → Hp → VK → Prop := fun xs H Q => ∃ v d, xs = [v] ∧ Dp K H v d ∧ ((∃ a, v = .ref a) ∨ ∃ x, v = .str x) ∧ Lk 60 (2 ^ 20) d ∧ Q (.str d.shown) H
section
variable {X : Cx}
theorem cr_repr (hg : X.A.guards = some []) (hu : X.A.units + 100 < cLine) : CallR X (.builtin "repr") (rRepr X.K) := by
  intro pins s σ H xs us Q I r h
  obtain ⟨v, d, rfl, hd, hv, lk, q⟩ := h
  cases r with
  | cons rv rn =>
    cases rn with
    | nil =>
      rename_i u
      have hl := lk.layable (by decide) (Nat.le_refl _)
      have sz : d.shown.length ≤ sizeLine := PyData.shown_fits_of_layable0 (B := 13) (by decide) (by decide) hl lk.sh
      rcases hv with ⟨a, rfl⟩ | ⟨x, rfl⟩
      · obtain ⟨as, hr⟩ := Dp.reads I d _ u hd rv
        obtain rfl : u = .ref a := rv
        have hdp := lk.dep
        exact repr_of_reads' hr lk.sw (PyData.noDict_hsm (PyData.hasDict_of_layable hl)) hg (by omega) (fun _ _ e => e) (fun h' u tk hk => ⟨.str d.shown, H, I.kept hk, ⟨u, rfl⟩, q⟩) sz
      · obtain ⟨t, rfl⟩ := rv
        cases hd with
        | str => exact P.repr_of_str ⟨.str (reprText x), H, I.tok _, ⟨_, rfl⟩, q⟩ sz
end
/-! ## a def whose walk asks that nothing is being shown around it -/
structure FnG (P : Program) (w : World) (K : PySem.W.Frag) (mg : Str → Option Value) (base : Heap) (CX : CXT) (k : Nat) (f : Addr) (fd : FuncData) (ps : List Str) (sp : Sp) : Prop where
  len : ∀ vs H Q E, sp vs H Q E → vs.length = ps.length
  run : ∀ (A : Around) (outer : List Env) (s : Shared) (H : Hp) (args : Args) (us : List Value) (vs : List V) (Q : VK) (E : XK), Room k A → A.guards = some [] → Env0 P w K mg base A outer s H → BindsTo s fd args (ps.zip us) → Vals vs us → sp vs H Q E →
    codeAny (model P w) A (.call (.ref f) args) (CR CX outer P w H s Q E) s
/-- the code object of a def of the top -/
def codeOf (K : PySem.W.Frag) (f : Addr) : Option Value := match K.lookup f with
  | some ⟨_, _, .func fd, _⟩ => some fd.code
  | _ => none
section
variable {P : Program} {w : World} {K : PySem.W.Frag} {mg : Str → Option Value} {base : Heap}
theorem Fun.okG {x qual : Str} {st : Stmt} {f : Addr} {fd : FuncData} {N ps : List Str} {k : Nat} {sp : Sp} (F : Fun K x qual st f fd) (S : FnScope N ps (defScope st)) (len : ∀ vs H Q E, sp vs H Q E → vs.length = ps.length)
    (hbody : ∀ (cdv : Value) (A : Around) (outer : List Env) (s : Shared) (H : Hp) (vs : List V) (Q : VK) (E : XK), codeOf K f = some cdv → Room k (A.deeper (envOfC qual (defScope st) s.heap.objs.size f cdv)) → A.guards = some [] → sp vs H Q E →
      ∃ t, PSs (cxOf CX0 P w K mg base N qual (defScope st) f cdv A outer s H E).nox (defBody st) t ∧ t { nx := fun _ H' => Q .non H', rt := Q } (start N vs) H) : FnG P w K mg base CX0 (k + 1) f fd ps sp := by
  obtain ⟨oc, od, kV, doc, pm, an, cdv, ct, osl, rfl, lk, hcd⟩ := F.ex
  refine ⟨len, fun A outer s H args us vs Q E hr hg e0 hb r hsp => LamX.run_ofS lk hcd S hr e0 hb r (len _ _ _ _ hsp) fun hr' => ?_⟩
  obtain ⟨t, h, q⟩ := hbody cdv A outer s H vs Q E (by unfold codeOf; rw [lk]) hr' hg hsp
  exact ⟨t, h.nox, q⟩
end
structure ClG (P : Program) (w : World) (K : PySem.W.Frag) (mg : Str → Option Value) (base : Heap) (CX : CXT) (k : Nat) (x : Str) (ps : List Str) (sp : Sp) : Prop where
  ex : ∃ (f : Addr) (fd : FuncData), FnG P w K mg base CX k f fd ps sp ∧ mg x = some (.ref f) ∧ PySem.W.keepIn K (.ref f) = true ∧ Binds K fd ps []
section
variable {X : Cx} {CX : CXT} {k j : Nat} {x : Str} {ps : List Str} {sp : Sp} {E : XK} {e : Expr} {es : List Expr} {t : TA} {p pos : Pos}
theorem run_g {f : Addr} {fd : FuncData} {pins : List (Addr × Obj)} {σ : L2.St} {H : Hp} {s : Shared} {Q : VK} {us : List Value} {vs : List V} (F : FnG X.prog X.w X.K X.mg X.base CX k f fd ps sp) (hr : Room k X.A) (hg : X.A.guards = some []) (hb : Binds X.K fd ps []) (hx : Passes CX X E)
    (I : Inv X pins σ H s) (r : Vals vs us) (h : sp vs H Q E) : wpAny (model X.prog X.w) X.A (call (.ref f) us) (EP X pins σ Q) X.xe s := by
  have hl : us.length = ps.length := r.length.symm.trans (F.len vs H Q E h)
  have bt := hb s us I.kIn (by rw [List.append_nil]; exact hl)
  rw [List.append_nil] at bt
  have go := F.run X.A X.stack s H ⟨us, []⟩ us vs Q E hr hg I.env0 bt r h
  refine wpAny_call (codeAny_mono go fun res s2 done => ?_)
  match res, done with
  | .error e, done => exact hx pins σ H s e s2 I done
  | .ok (.ret u), done => exact I.after done
  | .ok .next, done => exact done.elim
  | .ok .brk, done => exact done.elim
  | .ok .cont, done => exact done.elim
theorem pe_clG (c : ClG X.prog X.w X.K X.mg X.base CX k x ps sp) (hr : Room j X.A) (hG : X.A.guards = some []) (hk : k ≤ j) (hg : Gl X x) (hx : Passes CX X E) (ha : PA X (e :: es) t) (hdb : (x == ("__debug__" : Str)) = false := by decide)
    (he : starEach (e :: es) X.env = (false, eval e X.env) :: starEach es X.env := by rfl) (hpl : (backTo pos (starEach es X.env)).any (·.1) = false := by rfl) : PE X (.Call (.Name x p) (e :: es) [] pos) (tCall sp [] E t) := by
  obtain ⟨f, fd, o, m, kp, b⟩ := c.ex
  refine ⟨fun pins s σ H Q I h => wpAny_Call_Name_kw (ld_glob I hg m (PySem.W.callWith_K (h₀ := X.base) I.ok.mod.kin kp (thn (ha.run pos pins s σ H _ I h) fun us s1 z => ?_) he hpl) hdb)⟩
  obtain ⟨vs, H1, I1, r, q⟩ := z
  rw [List.append_nil] at q
  exact ⟨I1.kIn, run_g o (hr.mono hk) hG b hx I1 r q⟩
theorem pe_clG0 (c : ClG X.prog X.w X.K X.mg X.base CX k x ps sp) (hr : Room j X.A) (hG : X.A.guards = some []) (hk : k ≤ j) (hg : Gl X x) (hx : Passes CX X E) (hdb : (x == ("__debug__" : Str)) = false := by decide) : PE X (.Call (.Name x p) [] [] pos) (tCall sp [] E tNil) := by
  obtain ⟨f, fd, o, m, kp, b⟩ := c.ex
  refine ⟨fun pins s σ H Q I h => wpAny_Call_Name_kw (ld_glob I hg m (PySem.W.callWith_K0 I.kIn kp ?_) hdb)⟩
  exact run_g (us := []) (vs := []) o (hr.mono hk) hG b hx I .nil h
end
/-- told == due and repr(told) == repr(due) -/
def spLike (K : PySem.W.Frag) : Sp := fun vs H Q _ => ∃ (v v' : V) (d : PyData), vs = [v, v'] ∧ Dp K H v d ∧ Dp K H v' d ∧ ((∃ a, v = .ref a) ∨ ∃ x, v = .str x) ∧ ((∃ a, v' = .ref a) ∨ ∃ x, v' = .str x) ∧ Lk 60 (2 ^ 20) d ∧ Q (.bl true) H
end L2
set_option Elab.async false
set_option linter.all false
set_option maxRecDepth 100000
set_option maxHeartbeats 4000000
/-! # the texts of a tuple as a set, sorted -/
namespace L2
open PySem PySem.Spec PyProof.Rows PySem.Froz
def txtOf (e : Int × Value) : Str := match e.2 with
  | .str k _ => k
  | _ => ⟨#[]⟩
/-- a set of texts; its table can be walked -/
structure SetTx (P : Program) (w : World) (h : Heap) (a : Addr) (l : List Str) : Prop where
  ex : ∃ D : SD, h.get? a = some (sObj "set" D) ∧ TxOk P w D l ∧ Ris D.2.2.place.toList ∧ (w.params.followText "set-order" = true ∨ D.2.2.led = true) ∧ (∀ e ∈ D.1.toList, ∃ k tk, e.2 = Value.str k tk) ∧ (D.1.toList.map txtOf).Perm l
theorem addTx_perm (v : Int) (x : Value) (D : SD) : (addTx v x D).1.toList.Perm ((v, x) :: D.1.toList) := by
  have p : (layNew D.2.2 D.1 v x).1.toList.Perm ((v, x) :: D.1.toList) := by
    have q := layNew_perm D.2.2 D.1 v x
    rw [Array.toList_push] at q
    exact q.trans (List.perm_append_singleton _ _)
  unfold addTx tailTx
  by_cases c : (!(layNew D.2.2 D.1 v x).2.2.1 && (if (layNew D.2.2 D.1 v x).2.1.plain = true then { (layNew D.2.2 D.1 v x).2.1 with plain := false } else (layNew D.2.2 D.1 v x).2.1).tooFull) = true
  · rw [if_pos c]; exact (relayAll_perm _ _ _).trans p
  · rw [if_neg c]; exact p
theorem addTx_tab (v : Int) (x : Value) (D : SD) (r : Ris D.2.2.place.toList) : Ris (addTx v x D).2.2.place.toList ∧ (addTx v x D).2.2.led = D.2.2.led := by
  have r1 := layNew_ris D.2.2 D.1 v x r
  have r2 := layNew_led D.2.2 D.1 v x
  have r3 : Ris (if (layNew D.2.2 D.1 v x).2.1.plain = true then { (layNew D.2.2 D.1 v x).2.1 with plain := false } else (layNew D.2.2 D.1 v x).2.1).place.toList ∧
      (if (layNew D.2.2 D.1 v x).2.1.plain = true then { (layNew D.2.2 D.1 v x).2.1 with plain := false } else (layNew D.2.2 D.1 v x).2.1).led = D.2.2.led := by
    split <;> exact ⟨r1, r2⟩
  unfold addTx tailTx
  generalize (if (layNew D.2.2 D.1 v x).2.1.plain = true then { (layNew D.2.2 D.1 v x).2.1 with plain := false } else (layNew D.2.2 D.1 v x).2.1) = t2 at r3 ⊢
  by_cases c : (!(layNew D.2.2 D.1 v x).2.2.1 && t2.tooFull) = true
  · rw [if_pos c]; exact ⟨relayAll_ris _ _ _, (relayAll_led _ _ _).trans r3.2⟩
  · rw [if_neg c]; exact r3
def meet (l : List Str) (k : Str) : List Str := if k ∈ l then l else k :: l
theorem SetTx.keep {P : Program} {w : World} {h h' : Heap} {a : Addr} {l : List Str} (R : SetTx P w h a l) (k : ∀ o, h.get? a = some o → h'.get? a = some o) : SetTx P w h' a l := by
  obtain ⟨D, e, r⟩ := R.ex
  exact ⟨D, k _ e, r⟩
section
variable {P : Program} {w : World} {A : Around} {E : Value → Shared → Prop} {s : Shared} {a : Addr} {l : List Str}
theorem stx_new {h : Heap} (e : h.get? a = some (sObj "set" (#[], 0, .fresh 0 0 (!w.params.followText "set-order")))) : SetTx P w h a [] := by
  refine ⟨_, e, TxOk.nil rfl, List.Pairwise.nil, ?_, fun x hx => (by simp at hx), by simp⟩
  show _ ∨ (!w.params.followText "set-order") = true
  cases w.params.followText "set-order" <;> simp
/-- a text is added -/
theorem stx_add {k : Str} {u : Tok} {Q : Bool → Shared → Prop} (R : SetTx P w s.heap a l) (room : l.length + 1 < scanBound) (hQ : ∀ b h', (∀ c o, c ≠ a → s.heap.get? c = some o → h'.get? c = some o) → SetTx P w h' a (meet l k) → Q b { s with heap := h' }) :
    wpAny (model P w) A (setAddHashed a (.str k u) (hashStr w k)) Q E s := by
  obtain ⟨D, e1, e2, e3, e4, e5, e6⟩ := R.ex
  by_cases hk : k ∈ l
  · have hel := e2.el
    have hsz := e2.sz
    obtain ⟨es, ep, t⟩ := D
    unfold setAddHashed setAddHashedIn
    refine wpAny_holding (wpAny_bind (wpAny_setState_of e1 rfl e2.fit ?_))
    dsimp only
    rw [byScan_of (x := .str k u) rfl (show es.size < scanBound by have : es.size = l.length := hsz; omega) hel, if_pos rfl]
    unfold setAddByScan
    refine wpAny_bind (wpAny_bind (wpAny_rule (wpAny_bind (wpAny_setScan_of (knd := strKind P w) (k := k) (is_str k u) e1 rfl e2.fit hel ?_))))
    cases hf : List.findIdx? (fun e => (strKind P w).is k e.2) es.toList with
    | none =>
      obtain ⟨e, he, hi⟩ := (e2.mem k).mp hk
      have := List.findIdx?_eq_none_iff.mp hf e he
      rw [hi] at this
      cases this
    | some j => exact wpAny_pure (wpAny_pure (hQ false s.heap (fun _ _ _ e => e) (by unfold meet; rw [if_pos hk]; exact R)))
  · refine add_x e1 e2 hk room ?_
    refine hQ true _ (fun c o hc e => Heap.get?_update_of_ne _ (Ne.symm hc) e) ⟨addTx (hashStr w k) (.str k u) D, get_upd _ e1 rfl, ?_, (addTx_tab _ _ D e3).1, ?_, fun e he => ?_, ?_⟩
    · unfold meet; rw [if_neg hk]; exact add_ok u e2
    · rw [(addTx_tab _ _ D e3).2]; exact e4
    · rcases List.mem_cons.mp ((addTx_perm _ _ D).mem_iff.mp he) with z | z
      · exact ⟨k, u, by rw [z]⟩
      · exact e5 e z
    · unfold meet; rw [if_neg hk]
      exact ((addTx_perm _ _ D).map txtOf).trans (List.Perm.cons _ e6)
/-- all texts from turn j on -/
theorem stx_all {it : Addr} {fp wr : List Addr} {G : Array GenState → Array GenState → Prop} {Pv : Nat → Value → Prop} {St : Nat → Shared → Prop} {R : Result → Shared → Prop} {xs : List Str}
    (W : WalksS P w A.in1 it fp wr G xs.length Pv St) (hfp : a ∉ fp) (hb : xs.length + 1 < scanBound) (hv : ∀ j v, Pv j v → ∃ k u, xs[j]? = some k ∧ v = .str k u) :
    ∀ (left j : Nat) (s : Shared) (l : List Str), j + left = xs.length → St j s → SetTx P w s.heap a l → l.length ≤ j → (∀ s2, Moved (a :: wr) G s s2 → SetTx P w s2.heap a ((xs.drop j).foldl meet l) → R (.ok (.ret .none)) s2) →
      codeAny (model P w) A (.builtin "set.update.loop" ⟨[.ref a, .ref it], []⟩) R s := by
  have hwr : a ∉ wr := fun z => hfp (W.sub _ z)
  intro left
  induction left with
  | zero =>
    intro j s l hj st S hl done
    have ej : j = xs.length := hj
    subst ej
    refine codeAny_builtin F.entry_set_update_loop ?_
    rw [Around.under_plainId F.plain_set_update_loop _]
    refine (show wpAny (model P w) A.in1 (pyNext (.ref it) >>= _) _ _ s from wpAny_bind (W.done s _ _ st fun s2 mv => ?_))
    refine (show wpAny (model P w) A.in1 (ret Value.none) _ _ s2 from wpAny_pure (done s2 (mv.mono fun b z => List.mem_cons_of_mem _ z) ?_))
    rw [List.drop_length]
    exact S.keep fun o e => mv.heap a o hwr e
  | succ left ih =>
    intro j s l hj st S hl done
    have lt : j < xs.length := by omega
    refine codeAny_builtin F.entry_set_update_loop ?_
    rw [Around.under_plainId F.plain_set_update_loop _]
    refine (show wpAny (model P w) A.in1 (pyNext (.ref it) >>= _) _ _ s from wpAny_bind (W.item j s _ _ lt st fun v s1 pv st1 mv => ?_))
    obtain ⟨k, u, hk, rfl⟩ := hv j v pv
    have S1 : SetTx P w s1.heap a l := S.keep fun o e => mv.heap a o hwr e
    refine (show wpAny (model P w) A.in1 (holding [Value.str k u] (setAdd a (.str k u)) >>= _) _ _ s1 from wpAny_bind (wpAny_holding ?_))
    unfold setAdd
    refine wpAny_holding (wpAny_bind ((strKind P w).pyHash (k := k) (is_str k u) ?_))
    refine stx_add (s := { s1 with toks := s1.toks + 1 }) S1 (by omega) fun b h2 kept S2 => ?_
    have ed : xs.drop j = k :: xs.drop (j + 1) := by
      obtain ⟨q1, q2⟩ := List.getElem?_eq_some_iff.mp hk
      rw [List.drop_eq_getElem_cons q1, q2]
    have hl2 : (meet l k).length ≤ j + 1 := by
      unfold meet
      split
      · omega
      · rw [List.length_cons]; omega
    refine wpAny_pure ⟨plainId_quiet F.plain_set_update_loop _, ih (j + 1) _ (meet l k) (by omega) (W.frame _ s1 _ _ st1 (Nat.le_succ _) fun b hb o e => kept b o (fun z => hfp (z ▸ hb)) e) S2 hl2 fun s3 mv3 S3 => ?_⟩
    refine done s3 (Moved.trans W.gtrans ((mv.mono fun b z => List.mem_cons_of_mem _ z).then_heap (Nat.le_succ _) fun b o hb e => kept b o (fun z => hb (z ▸ List.mem_cons_self)) e) mv3) ?_
    rw [ed]
    exact S3
/-- the set that is about to be filled -/
abbrev set0 (w : World) : Obj := sObj "set" (#[], 0, .fresh 0 0 (!w.params.followText "set-order"))
def TxSet (P : Program) (w : World) (xs : List Str) (s s2 : Shared) : Prop := ∃ (h : Heap) (tk : Nat), s2 = { s with heap := h, toks := tk } ∧ SetTx P w h s.heap.objs.size (xs.foldl meet []) ∧ ∀ b o, s.heap.get? b = some o → h.get? b = some o
/-- set.__init__ fills it -/
theorem stx_fill {t : Addr} {items : Array Value} {xs : List Str} (hd : A.handled = none) (ht : s.heap.IsTuple t items) (hx : StrsAre items.toList xs) (hb : xs.length + 1 < scanBound) :
    codeAny (model P w) A (.call (.builtin "set.__init__") ⟨[.ref s.heap.objs.size, .ref t], []⟩) (wants (fun r s2 => r = .none ∧ TxSet P w xs s s2) E) { s with heap := s.heap.push (set0 w) } := by
  have at0 : (s.heap.push (set0 w)).get? s.heap.objs.size = some (set0 w) := Heap.get?_push_size _ rfl
  have ty : Shared.TypeIs { s with heap := s.heap.push (set0 w) } (.ref s.heap.objs.size) "set" := ⟨_, at0, rfl⟩
  have lenI : items.size = xs.length := by rw [← Array.length_toList]; exact StrsAre.length hx
  refine codeAny_call_builtin (R := wants (fun r s2 => r = .none ∧ TxSet P w xs s s2) E) F.called_set.init.plain F.entry_set_init (check_set_init_1 ty ?_)
  obtain ⟨⟨oc, od, odt, osl⟩, e1, e2, n2, e3⟩ := ht
  simp only at e2 e3
  subst e2 e3
  have tl : t < s.heap.objs.size := Heap.lt_size e1
  have here : (s.heap.push (set0 w)).get? t = some { cls := .type "tuple", dict := od, data := .seq items n2, slots := osl } := Heap.get?_push_of_some _ e1
  have tup : (s.heap.push (set0 w)).IsTuple t items := ⟨_, here, rfl, n2, rfl⟩
  have no1 := F.sub_tuple_set
  have no2 := F.sub_tuple_frozenset
  have no3 : (Value.type "tuple" == Value.type "dict") = false := by decide
  unfold Builtin.«set.__init__» noKeywords Builtin.Frozenset.updateFrom
  generalize hp : pyIter = pit
  wp_walk
  subst hp
  refine wpAny_pyIter_tuple tup (wpAny_bind (wpAny_runValue ?_))
  have sz : (s.heap.push (set0 w)).objs.size = s.heap.objs.size + 1 := Heap.size_push ..
  have ne1 : t ≠ (s.heap.push (set0 w)).objs.size := by rw [sz]; exact Nat.ne_of_lt (Nat.lt_succ_of_lt tl)
  have off : s.heap.objs.size ∉ [(s.heap.push (set0 w)).objs.size, t] := by
    rw [sz]; intro z
    rcases List.mem_cons.mp z with z | z
    · exact absurd z (Nat.ne_of_lt (Nat.lt_succ_self _))
    · exact absurd (List.mem_singleton.mp z) (Nat.ne_of_gt tl)
  have calm : A.in1.in1.handled = none := hd
  have tell : ∀ (j : Nat) (v : Value), items[j]? = some v → ∃ k u, xs[j]? = some k ∧ v = .str k u := by
    intro j v hv
    have go : ∀ (vs : List Value) (ys : List Str), StrsAre vs ys → ∀ (j : Nat) (v : Value), vs[j]? = some v → ∃ k u, ys[j]? = some k ∧ v = .str k u := by
      intro vs ys h
      induction h with
      | nil => intro j v hv; cases hv
      | cons y u _ ih =>
        intro j v hv
        cases j with
        | zero => exact ⟨y, u, rfl, (Option.some.inj hv).symm⟩
        | succ j => exact ih j v hv
    exact go _ _ hx j v (by rw [Array.getElem?_toList]; exact hv)
  have W := (Walks.tuple (prog := P) (w := w) calm (s.heap.push (set0 w)).objs.size t ne1 items).toS
  rw [lenI] at W
  refine stx_all (A := A.in1) W off hb tell xs.length 0 _ [] (Nat.zero_add _) ⟨⟨_, Heap.get?_push_size _ rfl, rfl, rfl⟩, tup.push _⟩ (stx_new (Heap.get?_push_of_some _ at0)) (Nat.zero_le _) fun s2 mv S2 => ?_
  obtain ⟨h2, g2, d2, tk2, os2⟩ := s2
  have q1 : g2 = s.gens := mv.gens
  have q2 : d2 = s.drawn := mv.drawn
  have q3 : os2 = s.os := mv.os
  subst q1 q2 q3
  refine (show wpAny _ _ _ _ _ _ from wpAny_pure (show wpAny _ _ (ret Value.none) _ _ _ from wpAny_pure ⟨rfl, h2, tk2, rfl, S2, fun b o e => ?_⟩))
  have bl : b < s.heap.objs.size := Heap.lt_size e
  refine mv.heap b o (fun z => ?_) (Heap.get?_push_of_some _ (Heap.get?_push_of_some _ e))
  rw [sz] at z
  rcases List.mem_cons.mp z with z | z
  · exact absurd z (Nat.ne_of_lt bl)
  · exact absurd (List.mem_singleton.mp z) (Nat.ne_of_lt (Nat.lt_succ_of_lt bl))
/-- set(t), t a tuple of texts -/
theorem stx_call {t : Addr} {items : Array Value} {xs : List Str} {Q : Value → Shared → Prop} (hd : A.handled = none) (ht : s.heap.IsTuple t items) (hx : StrsAre items.toList xs) (hb : xs.length + 1 < scanBound)
    (h : ∀ s2, TxSet P w xs s s2 → Q (.ref s.heap.objs.size) s2) : wpAny (model P w) A (call (.type "set") [.ref t]) Q E s := by
  obtain ⟨c1, c2, c3⟩ := F.called_set.mro
  have f1 := F.called_set.made
  have f2 := F.called_set.sub
  have f3 := F.called_set.notType
  have f4 := F.called_set.canCreate
  have f5 := F.typeCall_set_1 (.ref t)
  refine wpAny_call (codeAny_of_tree (show wpAny _ _ (callAny (.type "set") _) _ _ _ from wpAny_pure ⟨Code.quiet_builtin _ (by decide +kernel), codeAny_builtin F.entry_type_call ?_⟩))
  rw [Around.under_plain (weight_type_call_type "set" [.ref t] []) rfl]
  repeat (any_goals (first | assumption | wp_step))
  refine codeAny_mono (code_set_led1 (.ref t) (E := E) (Q₁ := fun r s1 => r = .ref s.heap.objs.size ∧ s1 = { s with heap := s.heap.push (set0 w) }) ⟨rfl, rfl⟩) fun r s1 hr => ?_
  match r, hr with
  | .error e, hr => exact hr
  | .ok .next, hr => exact hr.elim
  | .ok .brk, hr => exact hr.elim
  | .ok .cont, hr => exact hr.elim
  | .ok (.ret r), hr =>
    obtain ⟨rfl, rfl⟩ := hr
    have at0 : (s.heap.push (set0 w)).get? s.heap.objs.size = some (set0 w) := Heap.get?_push_size _ rfl
    have ty : Shared.TypeIs { s with heap := s.heap.push (set0 w) } (.ref s.heap.objs.size) "set" := ⟨_, at0, rfl⟩
    have f6 := F.called_set.init.lookup
    have f7 := F.called_set.init.bind (.ref s.heap.objs.size)
    repeat (any_goals (first | assumption | wp_step))
    refine codeAny_mono (stx_fill (E := E) hd ht hx hb) fun r2 s2 hr2 => ?_
    match r2, hr2 with
    | .error e, hr2 => exact hr2
    | .ok .next, hr2 => exact hr2.elim
    | .ok .brk, hr2 => exact hr2.elim
    | .ok .cont, hr2 => exact hr2.elim
    | .ok (.ret r2), hr2 =>
      obtain ⟨rfl, fin⟩ := hr2
      repeat (any_goals (first | assumption | wp_step))
      exact h _ fin
/-- sorted(a), a a set of texts -/
theorem stx_sorted {Q : Value → Shared → Prop} (R : SetTx P w s.heap a l) (hh : A.handled = none) (h64 : l.length < 64)
    (hQ : ∀ s2 p (out : Array Value) (c : Nat) (ys : List Str), (∀ b o, s.heap.get? b = some o → s2.heap.get? b = some o) → s2.gens = s.gens → s2.os = s.os → s.heap.objs.size ≤ p → s2.heap.get? p = some (seqObj "list" out c) →
      StrsAre out.toList ys → ys.Perm l → sortedS ys = true → Q (.ref p) s2) : wpAny (model P w) A (call (.builtin "sorted") [.ref a]) Q E s := by
  obtain ⟨D, e1, e2, e3, e4, e5, e6⟩ := R.ex
  have hn : D.1.size = l.length := e2.sz
  have sb : D.1.size < scanBound := by unfold scanBound; omega
  refine Calls.call_function_entry kind_sorted plain_sorted entry_sorted (args_sorted1 _) ?_
  unfold Builtin.«sorted»
  refine wpAny_bind (m := checkCount "sorted" 1 1 _) (wpAny_pure (wpAny_bind (collect_set (A := A.in1) hh ⟨_, e1, rfl, rfl⟩ e2.fit sb e3 e4 fun s1 vs k1 z1 g1 o1 pm => ?_)))
  have tell : ∀ (vs : List Value), (∀ v ∈ vs, ∃ k u, v = Value.str k u) → ∃ ys, StrsAre vs ys ∧ ys = vs.map fun v => txtOf (0, v) := by
    intro vs
    induction vs with
    | nil => exact fun _ => ⟨[], .nil, rfl⟩
    | cons v vs ih =>
      intro hv
      obtain ⟨k, u, rfl⟩ := hv v List.mem_cons_self
      obtain ⟨ys, q1, q2⟩ := ih fun x hx => hv x (List.mem_cons_of_mem _ hx)
      exact ⟨k :: ys, .cons k u q1, by rw [q2]; rfl⟩
  obtain ⟨ys, t1, t2⟩ := tell vs fun v hv => by
    obtain ⟨e, he, q⟩ := List.mem_map.mp (pm.mem_iff.mp hv)
    obtain ⟨k, u, z⟩ := e5 e he
    exact ⟨k, u, by rw [← q]; exact z⟩
  have py : ys.Perm l := by
    rw [t2]
    refine (pm.map _).trans ?_
    rw [List.map_map]
    exact e6
  have lv : vs.length = l.length := by rw [StrsAre.length t1]; exact py.length_eq
  refine wpAny_bind (wpAny_newList ?_ (by rw [lv, sizeLine_eq]; omega))
  have new : (s1.heap.push (seqObj "list" vs.toArray 0)).get? s1.heap.objs.size = some (seqObj "list" vs.toArray 0) := Heap.get?_push_size _ rfl
  refine wpAny_bind (wpAny_holding (wpAny_call_entry slot_list_sort ⟨_, new, rfl⟩ entry_list_sort
    (list_sort_treeK PyProof.Rows.strKind_oneLt new t1.keysOf (fun v1 v2 rest e => keyKind_strs (by rw [← e]; exact t1)) (by rw [lv]; exact h64) fun st hp hs => ⟨_, rfl, ?_⟩) (args_list_sort _)))
  obtain ⟨zs, u1, u2, u3⟩ := sorted_out_str t1 hp hs
  obtain ⟨c, hc⟩ := sortedHeap_at (vs := vs) (out := (arrOf st).map (·.2)) new
  refine wpAny_pure ⟨_, rfl, hQ _ s1.heap.objs.size _ c zs (fun b u e => ?_) g1 o1 z1 hc u1 (u2.trans py) u3⟩
  have old := k1 b u e
  have small := Heap.lt_size old
  refine (show (sortedHeap (s1.heap.push (seqObj "list" vs.toArray 0)) s1.heap.objs.size vs _).get? b = some u from ?_)
  rw [sortedHeap_old (Nat.ne_of_lt small) (by rw [size_push']; exact Nat.lt_succ_of_lt small)]
  exact Heap.get?_push_of_some _ old
end
end L2
set_option Elab.async false
set_option linter.all false
set_option maxRecDepth 100000
set_option maxHeartbeats 4000000
/-! # sorted(set(e)), e a tuple of texts -/
namespace L2
open PySem PySem.Spec PyProof.Rows PySem.Froz
def tSSet (K : PySem.W.Frag) (te : TE) : TE := fun σ H Q => te σ H fun x H1 => ∃ (t : Addr) (xs : List Str), x = .ref t ∧ SqT K H1 t (xs.map V.str) ∧ xs.length < 64 ∧
  ∀ (ys : List Str) (p : Addr), ys.Perm (xs.foldl meet []) → sortedS ys = true → H1 p = none → Q (.ref p) (upd H1 p (.lst (ys.map V.str)))
theorem meet_le : ∀ (xs l : List Str), (xs.foldl meet l).length ≤ l.length + xs.length
  | [], l => by simp
  | k :: xs, l => by
    have h := meet_le xs (meet l k)
    have h2 : (meet l k).length ≤ l.length + 1 := by
      unfold meet
      split
      · omega
      · rw [List.length_cons]; omega
    rw [List.foldl_cons, List.length_cons]
    omega
section
variable {X : Cx}
theorem pe_sset {e : Expr} {te : TE} {p1 p2 q1 q2 : Pos} (hc : X.calm = true) (g1 : Gl X "sorted") (m1 : X.mg "sorted" = none) (g2 : Gl X "set") (m2 : X.mg "set" = none) (he : PE X e te) (na : starEach [e] X.env = (false, eval e X.env) :: starEach [] X.env := by rfl) :
    PE X (.Call (.Name "sorted" p1) [.Call (.Name "set" p2) [e] [] q2] [] q1) (tSSet X.K te) := by
  have b1 : bootBuiltins "sorted" = some (.builtin "sorted") := by decide +kernel
  have b2 : bootBuiltins "set" = some (.type "set") := by decide +kernel
  refine ⟨fun pins s σ H Q I h => Call_ (ld_blt I g1 m1 b1 (PyProof.Rows.callWith_builtin1 (PyProof.Rows.args_cons (Call_ (ld_blt I g2 m2 b2 (PyProof.Rows.callWith_type1
    (PyProof.Rows.args_cons (thn (he.run pins s σ H _ I h) fun v s1 z => PyProof.Rows.args_nil ?_) na) na rfl))) rfl) rfl rfl))⟩
  obtain ⟨x, H1, I1, r1, t, xs, rfl, ht, h64, q⟩ := z
  obtain rfl : v = .ref t := r1
  obtain ⟨its, rv, pl, hz⟩ := I1.tuple ht
  have sx : StrsAre its.toArray.toList xs := by simpa using rv.strs
  refine stx_call (I1.ok.hd hc) pl sx (by unfold scanBound; omega) fun s2 z => PyProof.Rows.args_nil ?_
  obtain ⟨h2, tk2, rfl, S2, k2⟩ := z
  have I2 : Inv X pins σ H1 { s1 with heap := h2, toks := tk2 } := I1.kept k2
  have ml := meet_le xs []
  rw [List.length_nil, Nat.zero_add] at ml
  refine stx_sorted (s := { s1 with heap := h2, toks := tk2 }) S2 (I1.ok.hd hc) (by omega) fun s3 p out c ys k3 g3 o3 p3 e3 t3 y1 y2 => ?_
  have fresh : H1 p = none := I2.hok.fresh p3
  have small : (ys.map V.str).length ≤ sizeLine := by rw [List.length_map, y1.length_eq]; exact Nat.le_trans (show (xs.foldl meet []).length ≤ 64 by omega) (by decide)
  have J := I2.call (g' := s3.gens) (d' := s3.drawn) (t' := s3.toks) (ch := []) (Un.laid k3 p3 fresh) (I2.hok.laid k3 p3 (show ObjOk X.prog X.w _ _ _ (.lst (ys.map V.str)) from ⟨small, out.toList, c, vals_of_strs t3, e3⟩)) (by rw [g3]; exact I2.bare) (fun _ z => nomatch z)
  have same : s3 = { s1 with heap := s3.heap, gens := s3.gens, drawn := s3.drawn, toks := s3.toks } := by
    obtain ⟨a1, a2, a3, a4, a5⟩ := s3
    have : a5 = s1.os := o3
    rw [this]
  rw [same]
  exact ⟨.ref p, _, J, rfl, q ys p y1 y2 fresh⟩
end
end L2
set_option Elab.async false
set_option linter.all false
set_option maxRecDepth 100000
set_option maxHeartbeats 2000000
/-! # the end: the law is called on its script; the tables of code objects are tracked, and nothing is being shown -/
namespace L2
open PySem PySem.Spec PyProof.Rows LamX
/-- what is tracked at the law's call -/
def trk0 (K : PySem.W.Frag) (a : Addr) (tabs : List Addr) (ob : Obj) (ns : List Int) : Hp := fun b =>
  if b ∈ tabs then some (.tbl #[]) else if b = a ∧ K.lookup a = none then some (.frz ob (.lst (ns.map V.int))) else none
theorem trk0_cases {K : PySem.W.Frag} {a : Addr} {tabs : List Addr} {ob : Obj} {ns : List Int} {b : Addr} {u : HO} (h : trk0 K a tabs ob ns b = some u) : (b ∈ tabs ∧ u = .tbl #[]) ∨ (b ∉ tabs ∧ b = a ∧ K.lookup a = none ∧ u = .frz ob (.lst (ns.map V.int))) := by
  unfold trk0 at h
  by_cases c : b ∈ tabs
  · rw [if_pos c] at h; cases h; exact .inl ⟨c, rfl⟩
  · rw [if_neg c] at h
    by_cases c2 : b = a ∧ K.lookup a = none
    · rw [if_pos c2] at h; cases h; exact .inr ⟨c, c2.1, c2.2, rfl⟩
    · rw [if_neg c2] at h; cases h
/-- what the end knows -/
structure Scene (K : PySem.W.Frag) (mg mb : Str → Option Value) (a : Addr) (cs : List (Addr × Addr)) (s : Shared) (vs : List Value) (ns : List Int) : Prop where
  kin : K.In s.heap
  glob : s.heap.Ns mainGlobals mg
  blt : s.heap.Ns builtinsNs mb
  same : ∀ x : Str, x ≠ "__name__" → mb x = bootBuiltins x
  lim : s.heap.NoLimit
  gens : s.gens = #[]
  tabs : ∀ p ∈ cs, s.heap.get? p.2 = some { cls := .none, data := .fields #[] }
  notK : ∀ p ∈ cs, K.lookup p.2 = none
  codes : ∀ p ∈ cs, PySem.W.CodeHd s.heap p.1 p.2
  bm : ∃ (b : Addr) (ob : Obj), mg "__builtins__" = some (.ref b) ∧ b ≠ builtinsNs ∧ s.heap.get? b = some ob ∧ ob.cls = .type "module" ∧ ob.dict = some builtinsNs ∧ ob.data = .plain
  list : s.heap.get? a = some { cls := .type "list", data := .seq vs.toArray }
  nums : IntsAre vs ns
  size : ns.length ≤ sizeLine
section
variable {P : Program} {w : World} {K : PySem.W.Frag} {mg mb : Str → Option Value} {a : Addr} {cs : List (Addr × Addr)} {s : Shared} {vs : List Value} {ns : List Int}
abbrev Scene.H (_ : Scene K mg mb a cs s vs ns) : Hp := trk0 K a (cs.map (·.2)) { cls := .type "list", data := .seq vs.toArray } ns
theorem Scene.tab (S : Scene K mg mb a cs s vs ns) {b : Addr} (h : b ∈ cs.map (·.2)) : s.heap.get? b = some { cls := .none, data := .fields #[] } := by
  obtain ⟨p, hp, rfl⟩ := List.mem_map.mp h
  exact S.tabs p hp
theorem Scene.anot (S : Scene K mg mb a cs s vs ns) : a ∉ cs.map (·.2) := fun h => by
  have q := (S.tab h).symm.trans S.list
  cases q
theorem Scene.tbl (S : Scene K mg mb a cs s vs ns) : ∀ p ∈ cs, S.H p.2 = some (.tbl #[]) := fun p hp => if_pos (List.mem_map.mpr ⟨p, hp, rfl⟩)
/-- neither the script nor a table -/
theorem Scene.off (S : Scene K mg mb a cs s vs ns) {b : Addr} {o : Obj} (e : s.heap.get? b = some o) (h1 : ∀ x n, o.data ≠ .seq x n) (h2 : o.data ≠ .fields #[]) : S.H b = none := by
  cases q : S.H b with
  | none => rfl
  | some u =>
    rcases trk0_cases q with ⟨c, _⟩ | ⟨_, rfl, _⟩
    · rw [S.tab c] at e; cases e; exact absurd rfl h2
    · rw [S.list] at e; cases e; exact absurd rfl (h1 _ _)
theorem Scene.seq (S : Scene K mg mb a cs s vs ns) : SqL K S.H a (ns.map V.int) := by
  have rv := vals_ints S.nums
  cases hk : K.lookup a with
  | none => exact .inl (.inr ⟨_, (if_neg S.anot).trans (if_pos ⟨rfl, hk⟩)⟩)
  | some o =>
    have e := (S.kin a o hk).symm.trans S.list
    cases e
    exact .inr ⟨_, vs.toArray, _, hk, rfl, rfl, rfl, by rw [List.size_toArray, S.nums.length]; exact S.size, by simpa using rv⟩
theorem Scene.hok (S : Scene K mg mb a cs s vs ns) : HOk P w S.H s.heap := fun b u h => by
  rcases trk0_cases h with ⟨c, rfl⟩ | ⟨_, rfl, _, rfl⟩
  · exact S.tab c
  · exact ⟨S.list, by rw [List.length_map]; exact S.size, vs, _, vals_ints S.nums, S.list⟩
theorem Scene.ns_ (S : Scene K mg mb a cs s vs ns) {b : Addr} {m : Str → Option Value} (h : s.heap.Ns b m) : (hidT s.heap S.H).Ns b m := by
  obtain ⟨o, es, ep, e, d, r⟩ := h
  exact ⟨o, es, ep, hidT_get e (S.off e (fun x n z => by rw [d] at z; cases z) fun z => by rw [d] at z; cases z), d, r⟩
theorem Scene.kin_ (S : Scene K mg mb a cs s vs ns) : K.In (hidT s.heap S.H) := fun b o hb => by
  refine hidT_get (S.kin b o hb) ?_
  cases q : S.H b with
  | none => rfl
  | some u =>
    rcases trk0_cases q with ⟨c, _⟩ | ⟨_, rfl, c, _⟩
    · obtain ⟨p, hp, rfl⟩ := List.mem_map.mp c
      rw [S.notK p hp] at hb; cases hb
    · rw [c] at hb; cases hb
theorem Scene.base (S : Scene K mg mb a cs s vs ns) : ∀ p ∈ cs, TabB (hidT s.heap S.H) mg p.1 p.2 := fun p hp => by
  have at0 := S.tabs p hp
  constructor
  · obtain ⟨o, us, file, tf, flags, tg, inF, text, tt, e1, r1, r2, r3, rest⟩ := S.codes p hp
    refine ⟨o, us, file, tf, flags, tg, inF, text, tt, hidT_get e1 (S.off e1 (fun x n z => by rw [r2] at z; cases z) fun z => ?_), r1, r2, r3, rest⟩
    rw [r2] at z
    cases z
    simp at r3
  · obtain ⟨b, ob, b1, b2, b3, b4, b5, b6⟩ := S.bm
    refine ⟨b, ob, b1, b2, fun q => ?_, fun q => ?_, hidT_get b3 (S.off b3 (fun x n z => by rw [b6] at z; cases z) fun z => by rw [b6] at z; cases z), b4, b5, b6⟩
    · obtain ⟨o, es, ep, e, hd, _⟩ := S.glob
      rw [q, e] at b3
      cases b3
      rw [hd] at b6
      cases b6
    · rw [q, at0] at b3
      cases b3
      cases b6
  · intro q
    obtain ⟨o, es, ep, e, hd, _⟩ := S.glob
    rw [q, at0] at e
    cases e
    cases hd
/-- the law is called -/
theorem Scene.call {k : Nat} {fa : Addr} {fd : FuncData} {x : Str} {sp : Sp} (S : Scene K mg mb a cs s vs ns) (hr : Room k callerA)
    (F : ∀ base : Heap, K.In base → base.Ns mainGlobals mg → (∀ p ∈ cs, TabB base mg p.1 p.2) → FnG P w K mg base CX0 k fa fd [x] sp) (bind : ∀ (s : Shared) (u : Value), BindsTo s fd ⟨[u], []⟩ [(x, u)])
    (told : sp [.ref a] S.H (fun v _ => v = .bl true) fun _ _ _ => False) :
    codeAny (model P w) callerA (.call (.ref fa) ⟨[.ref a], []⟩) (fun r s' => r = .ok (.ret (.bool true)) ∧ OldK s.heap s'.heap ∧ s'.os = s.os ∧ AllBare s'.gens) s := by
  have lim2 : (hidT s.heap S.H).NoLimit := by
    obtain ⟨mc, h1, h2⟩ := S.lim
    exact ⟨mc, S.ns_ h1, h2⟩
  have e0 : Env0 P w K mg (hidT s.heap S.H) callerA [] s S.H :=
    { frames := rfl, mod := ⟨S.kin_, S.ns_ S.glob, ⟨mb, S.ns_ S.blt, S.same⟩, lim2⟩, bs := fun b o e => of_hidT e, bsz := Nat.le_of_eq (hidT_size _ _), funs := trivial, frf := fun b hb => (by cases hb), hok := S.hok, bare := .of_eq S.gens }
  have go := (F _ S.kin_ (S.ns_ S.glob) S.base).run callerA [] s S.H ⟨[.ref a], []⟩ [.ref a] [.ref a] _ _ hr rfl e0 (bind s (.ref a)) (.cons rfl .nil) told
  refine codeAny_mono go fun r s2 done => ?_
  match r, done with
  | .error e, done => exact (show False from done).elim
  | .ok .next, done => exact done.elim
  | .ok .brk, done => exact done.elim
  | .ok .cont, done => exact done.elim
  | .ok (.ret u), done =>
    obtain ⟨v, H2, os, bare, un, hok2, rv, rfl⟩ := done
    obtain rfl : u = Value.bool true := rv
    have off : ∀ b o, b ∉ cs.map (·.2) → s.heap.get? b = some o → s2.heap.get? b = some o := fun b o nb e => by
      cases q : S.H b with
      | none => exact un.keep b o e q (fun z => by cases z) (fun z => by cases z)
      | some u =>
        rcases trk0_cases q with ⟨c, _⟩ | ⟨_, rfl, _, rfl⟩
        · exact absurd c nb
        · obtain ⟨y1, _⟩ := (S.hok (P := P) (w := w)) b _ q
          obtain ⟨y2, _⟩ := hok2 b _ (un.frzs b _ _ q)
          rw [e] at y1
          cases y1
          exact y2
    have more : ∀ p ∈ cs, ∃ m : Array Value, s2.heap.get? p.2 = some { cls := .none, data := .fields m } := fun p hp => by
      obtain ⟨m, z⟩ := un.tbls p.2 #[] (S.tbl p hp)
      exact ⟨_, hok2 p.2 _ z⟩
    refine ⟨rfl, ⟨fun b o e => ?_, fun b o e => ?_⟩, os, bare⟩
    · by_cases c : b ∈ cs.map (·.2)
      · obtain ⟨p, hp, rfl⟩ := List.mem_map.mp c
        obtain ⟨m, hm⟩ := more p hp
        have e' := e
        rw [S.tabs p hp] at e'
        cases e'
        exact .inr (.inl ⟨((S.codes p hp).tab (S.tabs p hp)).isCodeTable, rfl, #[], m, rfl, by rw [Array.empty_append]; exact hm⟩)
      · exact .inl (off b o c e)
    · by_cases c : b ∈ cs.map (·.2)
      · obtain ⟨p, hp, rfl⟩ := List.mem_map.mp c
        obtain ⟨m, hm⟩ := more p hp
        exact ⟨_, hm⟩
      · exact ⟨o, off b o c e⟩
end
/-- what must be shown of the law where the head ends -/
def LawG (l : PySem.W.OpenLaw) (w : World) (K : PySem.W.Frag) (k n : Nat) (x : Str) (mg : Str → Option Value) (fa : Addr) (h : Heap) : Prop :=
  ∃ (fd : FuncData) (cs : List (Addr × Addr)) (sp : Sp), ((∀ p ∈ cs, h.get? p.2 = some { cls := .none, data := .fields #[] }) ∧ (∀ p ∈ cs, K.lookup p.2 = none) ∧ ∀ p ∈ cs, PySem.W.CodeHd h p.1 p.2) ∧ (∀ (s : Shared) (u : Value), BindsTo s fd ⟨[u], []⟩ [(x, u)]) ∧
    (∀ (H : Hp) (a : Addr) (ns : List Int), ns.length ≤ n → (∀ p ∈ cs, H p.2 = some (.tbl #[])) → SqL K H a (ns.map V.int) → sp [.ref a] H (fun v _ => v = .bl true) fun _ _ _ => False) ∧
    ∀ base : Heap, K.In base → base.Ns mainGlobals mg → (∀ p ∈ cs, TabB base mg p.1 p.2) → FnG l.prog w K mg base CX0 k fa fd [x] sp
theorem walk_g {l : PySem.W.OpenLaw} {n k : Nat} {q : Program} {loose : List Str} {XP : (Str → Option Value) → Heap → Prop} {YP : World → Heap → Prop} {d : DefRec} {K : Params → PySem.W.Frag} {x : Str} (hn : l.most = some n) (hn2 : n ≤ sizeLine) (hdf : d.params.defaults = []) (hr : Room k callerA)
    (hY : ∀ (w : World) (h : Heap), YP w h → (K w.params).In h) (F : ∀ (w : World) (mg : Str → Option Value) (fa : Addr) (h : Heap), YP w h → (K w.params).In h → h.Ns mainGlobals mg → mg d.name = some (.ref fa) → LawG l w (K w.params) k n x mg fa h) :
    PySem.W.WalkO q loose XP YP l.row.toRowW d [] (fun f vs => PySem.call f vs) := by
  refine Att.attach_callB hn hdf fun w s₀ s₁ mg mb fa o pm cd doc a vs ns G Y ho hd hcd hmg hob hin hle hbits hg => ?_
  obtain ⟨fd, cs, sp, ⟨t1, t2, t3⟩, hb, hsp, hF⟩ := F w mg fa _ Y (hY w _ Y) G.T.g hmg
  have S : Scene (K w.params) mg mb a cs s₁ vs ns := ⟨hY w _ Y, G.T.g, G.T.b, G.T.builtins, G.T.nolimit, hg, t1, t2, t3, G.T.bmain, hob, hin, Nat.le_trans hle hn2⟩
  exact S.call hr hF hb (hsp _ a ns hle S.tbl S.seq)
end L2
set_option Elab.async false
set_option linter.all false
set_option maxRecDepth 100000
set_option maxHeartbeats 2000000
namespace K8
open PySem PySem.Spec PyProof.Rows L2
def top (i : Nat) : Stmt := PySem.Challenge.pw_freebook_k08_way_of_signs.main.body.getD i (.Pass ⟨0, 0, 0, 0⟩)
abbrev sIsLetter : Stmt := top 14
abbrev sIsDigit : Stmt := top 15
abbrev sIsKept : Stmt := top 16
abbrev sIsName : Stmt := top 17
abbrev sNeedName : Stmt := top 18
abbrev sKeptWords : Stmt := top 19
abbrev sIsRightRun : Stmt := top 20
abbrev sSignAt : Stmt := top 21
abbrev sSignsIn : Stmt := top 22
abbrev sNeedString : Stmt := top 23
abbrev sSignsOf : Stmt := top 24
/-! ## plain functions -/
def isL (c : Nat) : Bool := decide (97 ≤ c) && decide (c ≤ 122)
def isD (c : Nat) : Bool := decide (48 ≤ c) && decide (c ≤ 57)
abbrev S' (s : String) : Str := Str.ofString s
def kinds : List Str := ["row", "matrix", "span", "module", "truth"].map S'
def frameW : List Str := ["given", "rule", "tell", "if", "then", "else", "sum", "from", "to", "of", "grow", "by", "or", "and", "not", "in", "true", "false", "x"].map S'
def oneW : List Str := ["det", "rank", "width", "size", "divisor", "turn", "frame", "steps", "span", "killed", "ties", "pure", "hull", "relations", "ann", "module", "free", "finite"].map S'
def twoW : List Str := ["common", "index", "stack", "beside", "meet", "back", "tensor", "hom", "part"].map S'
def numW : List Str := ["fitting", "ext", "tor"].map S'
def marks : List Nat := [43, 45, 42, 58, 94, 40, 41, 91, 93, 44, 59, 61]
def keptB (z : Str) : Bool := decide (z ∈ kinds) || (decide (z ∈ frameW) || (decide (z ∈ oneW) || (decide (z ∈ twoW) || decide (z ∈ numW))))
def nameB (z : List Nat) : Bool := decide (1 ≤ z.length) && decide (z.length ≤ 16) && (z.all isL && !keptB (tx z))
/-- digits or letters that stand side by side -/
def runOk (wd : List Nat) : Bool := match wd with
  | [] => true
  | c :: t => if isD c then decide ((c :: t).length ≤ 100) && (!decide (c = 48) || decide ((c :: t).length = 1)) else decide ((c :: t).length ≤ 16)
/-- the sign at the head of a text that isn't empty -/
def sgn : List Nat → Option (Str × List Nat)
  | [] => none
  | c :: t => if c = 10 then some (S' "line", [10]) else if (c :: t).take 2 = [60, 61] then some (S' "mark", [60, 61]) else if c ∈ marks then some (S' "mark", [c]) else
    if isD c then (if runOk ((c :: t).takeWhile isD) then some (S' "number", (c :: t).takeWhile isD) else none)
    else if isL c then (if runOk ((c :: t).takeWhile isL) then some (S' "word", (c :: t).takeWhile isL) else none) else none
abbrev Sg := Str × List Nat × Nat
def scan : Nat → List Nat → Nat → List Sg × Option Nat
  | 0, _, _ => ([], none)
  | _ + 1, [], _ => ([], none)
  | n + 1, c :: t, i => if c = 32 then scan n t (i + 1) else match sgn (c :: t) with
    | none => ([], some i)
    | some (k, wd) => ((k, wd, i) :: (scan n ((c :: t).drop wd.length) (i + wd.length)).1, (scan n ((c :: t).drop wd.length) (i + wd.length)).2)
theorem inV_str (z : Str) (l : List Str) : inV (.str z) (l.map V.str) = decide (z ∈ l) := by
  unfold inV
  rw [List.any_map]
  induction l with
  | nil => simp
  | cons a r ih =>
    rw [List.any_cons, ih]
    show ((a == z) || decide (z ∈ r)) = _
    by_cases h : a = z
    · subst h; simp
    · have h2 : ¬ z = a := fun e => h e.symm
      simp [h, h2]
theorem flat_strs (l : List Str) : (l.map V.str).all flatV = true := by
  rw [List.all_map]
  simp [flatV]
/-! ## what the top has written -/
structure Txt (P : Program) (K : PySem.W.Frag) (mg : Str → Option Value) (CN fN CT fT : Addr) : Prop where
  name : SupX.SupTxt P K mg "BadName" "value" "not a name" ⟨⟨6, 17, 6, 21⟩, ⟨6, 23, 6, 28⟩, ⟨7, 8, 7, 13⟩, ⟨7, 8, 7, 15⟩, ⟨7, 8, 7, 24⟩, ⟨7, 25, 7, 37⟩, ⟨7, 8, 7, 38⟩, ⟨7, 8, 7, 38⟩, ⟨8, 8, 8, 12⟩, ⟨8, 8, 8, 18⟩, ⟨8, 21, 8, 26⟩, ⟨8, 8, 8, 26⟩⟩ CN fN
  text : SupX.SupTxt P K mg "BadText" "number" "not a right text" ⟨⟨11, 17, 11, 21⟩, ⟨11, 23, 11, 29⟩, ⟨12, 8, 12, 13⟩, ⟨12, 8, 12, 15⟩, ⟨12, 8, 12, 24⟩, ⟨12, 25, 12, 43⟩, ⟨12, 8, 12, 44⟩, ⟨12, 8, 12, 44⟩, ⟨13, 8, 13, 12⟩, ⟨13, 8, 13, 19⟩, ⟨13, 22, 13, 28⟩, ⟨13, 8, 13, 28⟩⟩ CT fT
  kinds : ∃ a, mg "KINDS" = some (.ref a) ∧ ∀ H, SqT K H a (kinds.map V.str)
  frameW : ∃ a, mg "FRAME_WORDS" = some (.ref a) ∧ ∀ H, SqT K H a (frameW.map V.str)
  oneW : ∃ a, mg "ONE_WORDS" = some (.ref a) ∧ ∀ H, SqT K H a (oneW.map V.str)
  twoW : ∃ a, mg "TWO_WORDS" = some (.ref a) ∧ ∀ H, SqT K H a (twoW.map V.str)
  numW : ∃ a, mg "NUMBER_WORDS" = some (.ref a) ∧ ∀ H, SqT K H a (numW.map V.str)
  marks : ∃ t, mg "MARKS" = some (.str (tx marks) t)
  mText : ∃ t, mg "MOST_TEXT" = some (.int 5000 t)
  mDig : ∃ t, mg "MOST_DIGITS" = some (.int 100 t)
  mLet : ∃ t, mg "MOST_LETTERS" = some (.int 16 t)
  nLen : mg "len" = none
  nAll : mg "all" = none
  nIsi : mg "isinstance" = none
  nStr : mg "str" = none
  nTup : mg "tuple" = none
  nSorted : mg "sorted" = none
  nSet : mg "set" = none
/-! ## promises -/
def spIsLetter : Sp := fun vs H Q _ => ∃ c : Nat, vs = [.str (tx [c])] ∧ Q (.bl (isL c)) H
def spIsDigit : Sp := fun vs H Q _ => ∃ c : Nat, vs = [.str (tx [c])] ∧ Q (.bl (isD c)) H
def spIsKept : Sp := fun vs H Q _ => ∃ z : Str, vs = [.str z] ∧ Q (.bl (keptB z)) H
def spIsName (K : PySem.W.Frag) : Sp := fun vs H Q _ => ∃ x, vs = [x] ∧ ((∃ z : List Nat, x = .str (tx z) ∧ z.length ≤ 100000 ∧ ∀ H', Same H H' → Q (.bl (nameB z)) H') ∨ ∃ t, TyX K H x t ∧ PySem.W.kitOne K t (.type "str") = some false ∧ Q (.bl false) H)
def spNeedName (K : PySem.W.Frag) (CN : Addr) : Sp := fun vs H Q E => ∃ x, vs = [x] ∧ ((∃ z : List Nat, x = .str (tx z) ∧ z.length ≤ 100000 ∧ (nameB z = true → ∀ H', Same H H' → Q x H') ∧ (nameB z = false → ∀ H' d, Same H H' → H' d = none → E (.ref CN) (some d) (upd H' d (.xd [("value", x)])))) ∨
  ∃ t, TyX K H x t ∧ PySem.W.kitOne K t (.type "str") = some false ∧ ∀ d, H d = none → E (.ref CN) (some d) (upd H d (.xd [("value", x)])))
def spIsRightRun : Sp := fun vs H Q _ => ∃ wd : List Nat, vs = [.str (tx wd)] ∧ wd ≠ [] ∧ wd.length ≤ 100000 ∧ Q (.bl (runOk wd)) H
/-- a sign, or None -/
def SgV (H : Hp) (v : V) : Option (Str × List Nat) → Prop
  | none => v = .non
  | some (k, wd) => ∃ a, v = .ref a ∧ H a = some (.tup [.str k, .str (tx wd)])
def spSignAt : Sp := fun vs H Q _ => ∃ (l : List Nat) (i : Nat), vs = [.str (tx l), .int (i : Int)] ∧ i < l.length ∧ l.length ≤ 100000 ∧ ∀ v H', Same H H' → SgV H' v (sgn (l.drop i)) → Q v H'
/-- found signs -/
def Sgs (H : Hp) : List V → List Sg → Prop := Paired fun v g => ∃ a, v = V.ref a ∧ H a = some (.tup [.str g.1, .str (tx g.2.1), .int (g.2.2 : Nat)])
theorem Sgs.ex {H H' : Hp} (e : Same H H') {xs : List V} {gs : List Sg} (h : Sgs H xs gs) : Sgs H' xs gs := L2.Paired.mapP h fun v g ⟨a, e1, e2⟩ => ⟨a, e1, e a _ e2⟩
def spotV : Option Nat → V
  | none => .non
  | some i => .int (i : Nat)
def spSignsIn : Sp := fun vs H Q _ => ∃ l : List Nat, vs = [.str (tx l)] ∧ l.length ≤ 100000 ∧
  ∀ H' t p xs, Same H H' → H' p = some (.lst xs) → Sgs H' xs (scan l.length l 0).1 → H' t = some (.tup [.ref p, spotV (scan l.length l 0).2]) → Q (.ref t) H'
def spNeedString (K : PySem.W.Frag) (CT : Addr) : Sp := fun vs H Q E => ∃ x, vs = [x] ∧ ((∃ z : List Nat, x = .str (tx z) ∧ z.length ≤ 100000 ∧ (z.length ≤ 5000 → Q x H) ∧ (5000 < z.length → ∀ d, H d = none → E (.ref CT) (some d) (upd H d (.xd [("number", .non)])))) ∨
  ∃ t, TyX K H x t ∧ PySem.W.kitOne K t (.type "str") = some false ∧ ∀ d, H d = none → E (.ref CT) (some d) (upd H d (.xd [("number", .non)])))
def spSignsOf (K : PySem.W.Frag) (CT : Addr) : Sp := fun vs H Q E => ∃ x, vs = [x] ∧ ((∃ z : List Nat, x = .str (tx z) ∧ z.length ≤ 100000 ∧ 
    (z.length ≤ 5000 → (scan z.length z 0).2 = none → ∀ H' t xs, Same H H' → H' t = some (.tup xs) → Sgs H' xs (scan z.length z 0).1 → Q (.ref t) H') ∧
    (z.length ≤ 5000 → ∀ i, (scan z.length z 0).2 = some i → ∀ H' d, Same H H' → H' d = none → E (.ref CT) (some d) (upd H' d (.xd [("number", .int (i : Nat))]))) ∧
    (5000 < z.length → ∀ d, H d = none → E (.ref CT) (some d) (upd H d (.xd [("number", .non)])))) ∨
  ∃ t, TyX K H x t ∧ PySem.W.kitOne K t (.type "str") = some false ∧ ∀ d, H d = none → E (.ref CT) (some d) (upd H d (.xd [("number", .non)])))
end K8
set_option Elab.async false
set_option linter.all false
set_option maxRecDepth 100000
set_option maxHeartbeats 2000000
namespace K8
open PySem PySem.Spec PyProof.Rows L2
theorem scIsLetter : FnScope ["sign"] ["sign"] (defScope sIsLetter) := ⟨rfl, rfl, rfl, by decide +kernel, rfl, by decide +kernel, by decide +kernel⟩
theorem scIsDigit : FnScope ["sign"] ["sign"] (defScope sIsDigit) := ⟨rfl, rfl, rfl, by decide +kernel, rfl, by decide +kernel, by decide +kernel⟩
theorem scIsKept : FnScope ["word"] ["word"] (defScope sIsKept) := ⟨rfl, rfl, rfl, by decide +kernel, rfl, by decide +kernel, by decide +kernel⟩
theorem scIsName : FnScope ["value", "sign"] ["value"] (defScope sIsName) := ⟨rfl, rfl, rfl, by decide +kernel, rfl, by decide +kernel, by decide +kernel⟩
theorem scNeedName : FnScope ["name"] ["name"] (defScope sNeedName) := ⟨rfl, rfl, rfl, by decide +kernel, rfl, by decide +kernel, by decide +kernel⟩
theorem chain_read {a b : Bool} {Q : V → Hp → Prop} {H : Hp} (h : Q (.bl (a && b)) H) {R : Prop} (hR : Q (.bl b) H → R) : if a = true then R else Q (.bl false) H := by
  cases a with
  | true => exact hR h
  | false => exact h
theorem le_bool (a b : Nat) : (!decide (b < a)) = decide (a ≤ b) := by
  by_cases h : a ≤ b
  · simp [h, Nat.not_lt.mpr h]
  · simp [h, Nat.lt_of_not_le h]
section
variable {P : Program} {w : World} {K : PySem.W.Frag} {mg : Str → Option Value} {base : Heap} {f : Addr} {fd : FuncData} {CN fN CT fT : Addr}
theorem ok_isLetter (F : Fun K "is_letter" "is_letter" sIsLetter f fd) : FnOk P w K mg base CX0 1 f fd ["sign"] spIsLetter := by
  refine F.ok scIsLetter (fun vs H Q E h => ?_) (fun cdv A outer s H vs Q E hr h => ?_)
  · obtain ⟨c, rfl, _⟩ := h; rfl
  · refine ⟨_, PSs.nox (pss_one (ps_ret (pe_chain op_le_str op_le_str pe_str (pv 0) pe_str))), ?_⟩
    obtain ⟨c, rfl, h⟩ := h
    have e1 : (!decide ((tx [c]).cps.toList < (S' "a").cps.toList)) = decide (97 ≤ c) := (congrArg (!·) (lt_one c 97)).trans (le_bool 97 c)
    have e2 : (!decide ((S' "z").cps.toList < (tx [c]).cps.toList)) = decide (c ≤ 122) := (congrArg (!·) (lt_one 122 c)).trans (le_bool c 122)
    refine ⟨_, rfl, _, _, rfl, rfl, _, rfl, ?_⟩
    rw [e1]
    refine chain_read (b := decide (c ≤ 122)) h fun h => ⟨_, _, rfl, rfl, ?_⟩
    rw [e2]
    exact h
theorem ok_isDigit (F : Fun K "is_digit" "is_digit" sIsDigit f fd) : FnOk P w K mg base CX0 1 f fd ["sign"] spIsDigit := by
  refine F.ok scIsDigit (fun vs H Q E h => ?_) (fun cdv A outer s H vs Q E hr h => ?_)
  · obtain ⟨c, rfl, _⟩ := h; rfl
  · refine ⟨_, PSs.nox (pss_one (ps_ret (pe_chain op_le_str op_le_str pe_str (pv 0) pe_str))), ?_⟩
    obtain ⟨c, rfl, h⟩ := h
    have e1 : (!decide ((tx [c]).cps.toList < (S' "0").cps.toList)) = decide (48 ≤ c) := (congrArg (!·) (lt_one c 48)).trans (le_bool 48 c)
    have e2 : (!decide ((S' "9").cps.toList < (tx [c]).cps.toList)) = decide (c ≤ 57) := (congrArg (!·) (lt_one 57 c)).trans (le_bool c 57)
    refine ⟨_, rfl, _, _, rfl, rfl, _, rfl, ?_⟩
    rw [e1]
    refine chain_read (b := decide (c ≤ 57)) h fun h => ⟨_, _, rfl, rfl, ?_⟩
    rw [e2]
    exact h
theorem in_ev {K : PySem.W.Frag} {σ : L2.St} {H : Hp} {a : Addr} {l : List Str} {z : Str} {Q : VK} (h : ∀ H, SqT K H a (l.map V.str)) (q : Q (.bl (decide (z ∈ l))) H) : tC (.ref a) σ H fun y H2 => rIn K false (.str z) y H2 Q :=
  ⟨a, _, rfl, .inr (h H), rfl, flat_strs l, by rw [if_neg Bool.false_ne_true, inV_str]; exact q⟩
theorem in_read {K : PySem.W.Frag} {H : Hp} {a : Addr} {l : List Str} {z : Str} {Q : VK} (h : ∀ H, SqT K H a (l.map V.str)) (q : Q (.bl (decide (z ∈ l))) H) : rIn K false (.str z) (.ref a) H Q :=
  ⟨a, _, rfl, .inr (h H), rfl, flat_strs l, by rw [if_neg Bool.false_ne_true, inV_str]; exact q⟩
theorem ok_isKept (T : Txt P K mg CN fN CT fT) (F : Fun K "is_kept" "is_kept" sIsKept f fd) : FnOk P w K mg base CX0 1 f fd ["word"] spIsKept := by
  obtain ⟨a1, g1, k1⟩ := T.kinds
  obtain ⟨a2, g2, k2⟩ := T.frameW
  obtain ⟨a3, g3, k3⟩ := T.oneW
  obtain ⟨a4, g4, k4⟩ := T.twoW
  obtain ⟨a5, g5, k5⟩ := T.numW
  refine F.ok scIsKept (fun vs H Q E h => ?_) (fun cdv A outer s H vs Q E hr h => ?_)
  · obtain ⟨c, rfl, _⟩ := h; rfl
  · refine ⟨_, PSs.nox (pss_one (ps_ret (pe_or (pe_cmpR op_in_seq (pv 0) (pe_glob (v := .ref a1) rfl g1 rfl) (by rfl)) (pe_or (pe_cmpR op_in_seq (pv 0) (pe_glob (v := .ref a2) rfl g2 rfl) (by rfl))
      (pe_or (pe_cmpR op_in_seq (pv 0) (pe_glob (v := .ref a3) rfl g3 rfl) (by rfl)) (pe_or (pe_cmpR op_in_seq (pv 0) (pe_glob (v := .ref a4) rfl g4 rfl) (by rfl)) (pe_one (pe_cmpR op_in_seq (pv 0) (pe_glob (v := .ref a5) rfl g5 rfl) (by rfl))))))))), ?_⟩
    obtain ⟨z, rfl, h⟩ := h
    refine ⟨_, rfl, in_ev k1 ⟨_, rfl, or_read (Q := fun b => Q (.bl b) H) h fun h => ?_⟩⟩
    refine ⟨_, rfl, in_ev k2 ⟨_, rfl, or_read (Q := fun b => Q (.bl b) H) h fun h => ?_⟩⟩
    refine ⟨_, rfl, in_ev k3 ⟨_, rfl, or_read (Q := fun b => Q (.bl b) H) h fun h => ?_⟩⟩
    refine ⟨_, rfl, in_ev k4 ⟨_, rfl, or_read (Q := fun b => Q (.bl b) H) h fun h => ?_⟩⟩
    exact ⟨_, rfl, in_read k5 h⟩
end
end K8
set_option Elab.async false
set_option linter.all false
set_option maxRecDepth 100000
set_option maxHeartbeats 2000000
namespace K8
open PySem PySem.Spec PyProof.Rows L2
theorem Same.upd {H H' : Hp} (e : Same H H') {a : Addr} {o : HO} (h : H a = none) : Same H (upd H' a o) := fun b ob hb => by
  by_cases c : b = a
  · subst c; rw [h] at hb; cases hb
  · rw [upd_ne c]; exact e b ob hb
section
variable {P : Program} {w : World} {K : PySem.W.Frag} {mg : Str → Option Value} {base : Heap} {f : Addr} {fd : FuncData} {CN fN CT fT : Addr}
theorem isi_no {H : Hp} {v : V} {t : Value} {Q : VK} {r : Bool} (ty : TyX K H v t) (k : PySem.W.kitOne K t (.type "str") = some r) (q : Q (.bl r) H) : rIsi K [v, .ty "str"] H Q :=
  ⟨v, .ty "str", t, .type "str", r, rfl, .ty _, ty, k, q⟩
theorem isi_str {H : Hp} {z : Str} {Q : VK} (q : Q (.bl true) H) : rIsi K [.str z, .ty "str"] H Q :=
  ⟨.str z, .ty "str", .type "str", .type "str", true, rfl, .ty _, .base (.str z), kit_ty (by decide +kernel), q⟩
theorem take_step {α : Type} {l : List α} {i : Nat} {c : α} (h : l[i]? = some c) : l.take (i + 1) = l.take i ++ [c] := by
  rw [List.take_add_one, h]; rfl
theorem ok_isName (T : Txt P K mg CN fN CT fT) (cL : Cl P w K mg base CX0 1 "is_letter" ["sign"] spIsLetter) (cK : Cl P w K mg base CX0 1 "is_kept" ["word"] spIsKept)
    (F : Fun K "is_name" "is_name" sIsName f fd) : FnOk P w K mg base CX0 2 f fd ["value"] (spIsName K) := by
  obtain ⟨tL, gL⟩ := T.mLet
  refine F.ok scIsName (fun vs H Q E h => ?_) (fun cdv A outer s H vs Q E hr h => ?_)
  · obtain ⟨c, rfl, _⟩ := h; rfl
  · refine ⟨_, PSs.nox (pss_cons (ps_if (PW.pt (pw_or (pt_not (pt_val (pe_callB call_isi rfl T.nIsi (by decide +kernel) (pa_cons (pv 0) (pa_cons (pe_bltn (v := .ty "str") rfl T.nStr (by decide +kernel) rfl) pa_nil)))))
        (pw_or1 (pt_not (pt_chain op_le op_le pe_int (pe_callB call_len rfl T.nLen (by decide +kernel) (pa_cons (pv 0) pa_nil)) (pe_glob (v := .int 16) rfl gL ⟨_, rfl⟩)))))) (pss_one (ps_ret pe_bl)) pss_nil)
      (pss_one (ps_ret (pe_and (pe_callB (cr_all rfl) rfl T.nAll (by decide +kernel) (pa_cons (pe_lc (own := [("sign", 1)]) (g := gName 1) (tt := tYes) rfl scIsName.nd (pi_str (pv 0)) (blkOk_by (N := ["value", "sign"]) (sc := defScope sIsName) (by decide +kernel)) (fun _ _ _ _ _ => pg_name (i := 1) scIsName.nd rfl (Or.inl rfl)) (fun _ _ _ _ _ => pts_nil)
          (fun _ _ _ _ _ => pe_cl cL hr (by decide) rfl pass0 (pa_cons (pv 1) pa_nil))) pa_nil))
        (pe_one (pe_not (pe_cl cK hr (by decide) rfl pass0 (pa_cons (pv 0) pa_nil)))))))), ?_⟩
    obtain ⟨x, rfl, ⟨z, rfl, hz, q⟩ | ⟨t, ty, k, q⟩⟩ := h
    · dsimp only [L2.tSeq, L2.tIfS, L2.tOr, L2.tAnd, L2.tNot, L2.tB, L2.tTest, L2.tCB, L2.tCons, L2.tNil, L2.tVar, L2.tC, L2.tRet, L2.tNext, L2.tAsg, L2.gName, L2.tCall, L2.tOp, L2.tOrV, L2.tAndV, L2.tNotV, L2.tChain, L2.tIf, L2.tDrop, L2.tAug, L2.tYes, L2.tIfT, L2.tPar3, L2.tDisp, L2.tPairs, L2.tDGet, L2.sDPut, L2.tThen, L2.kTup, L2.gTup, L2.gCons, L2.gNil, L2.tPar, L2.tLst, L2.tBM, L2.tTup, L2.tSl, L2.tPart, L2.tNoPart, List.map, List.append_nil]
      refine ⟨_, rfl, isi_str ⟨true, rfl, iteF ?_⟩⟩
      have ez : (tx z).length = z.length := tx_len z
      refine ⟨_, rfl, _, z.length, rfl, ⟨Nat.le_trans (Nat.le_of_eq ez) (sz100 hz), ez.symm⟩, _, _, rfl, rfl, ?_⟩
      refine ⟨_, rfl, ite2 (fun h1 => ⟨_, _, rfl, rfl, _, rfl, ite2 (fun h2 => ?_) (fun h2 => ?_)⟩) (fun h1 => ⟨_, rfl, iteT ?_⟩)⟩
      · have e : nameB z = false := by
          have : ¬ z.length ≤ 16 := fun c => by simp [show ((z.length : Int) ≤ 16) by omega] at h2
          simp [nameB, this]
        exact e ▸ q H (Same.refl H)
      · have e : nameB z = (z.all isL && !keptB (tx z)) := by
          have g1 : 1 ≤ z.length := by have := of_decide_eq_true h1; omega
          have g2 : z.length ≤ 16 := by
            have : decide ((z.length : Int) ≤ 16) = true := by
              cases hd : decide ((z.length : Int) ≤ 16) with
              | true => rfl
              | false => rw [hd] at h2; exact absurd rfl h2
            have := of_decide_eq_true this; omega
          simp [nameB, g1, g2]
        refine ⟨_, rfl, _, rfl, fun D hD => lc_text (fun i H' => H' D = some (.lst ((z.take i).map fun c => V.bl (isL c))) ∧ Same H H') ⟨upd_same, Same.upd (Same.refl H) hD⟩ (fun i c H' hc hP => ?_) (fun H' hP => ?_)⟩
        · refine ⟨rfl, ?_⟩
          dsimp only [L2.tSeq, L2.tIfS, L2.tOr, L2.tAnd, L2.tNot, L2.tB, L2.tTest, L2.tCB, L2.tCons, L2.tNil, L2.tVar, L2.tC, L2.tRet, L2.tNext, L2.tAsg, L2.gName, L2.tCall, L2.tOp, L2.tOrV, L2.tAndV, L2.tNotV, L2.tChain, L2.tIf, L2.tDrop, L2.tAug, L2.tYes, L2.tIfT, L2.tPar3, L2.tDisp, L2.tPairs, L2.tDGet, L2.sDPut, L2.tThen, L2.kTup, L2.gTup, L2.gCons, L2.gNil, L2.tPar, L2.tLst, L2.tBM, L2.tTup, L2.tSl, L2.tPart, L2.tNoPart, List.map, List.append_nil]
          refine iteT ⟨_, rfl, c, rfl, _, hP.1, ?_, upd_same.trans ?_, Same.upd hP.2 hD⟩
          · rw [List.length_map, List.length_take]
            exact Nat.lt_of_le_of_lt (Nat.le_trans (Nat.min_le_right _ _) hz) (by decide)
          · rw [take_step hc, List.map_append]; rfl
        · refine ⟨D, z.map isL, rfl, .inl (.inl (by rw [hP.1, List.take_length, List.map_map]; rfl)), ?_⟩
          refine ⟨_, rfl, ite2 (fun h3 => ⟨_, rfl, tx z, rfl, _, rfl, ?_⟩) (fun h3 => ?_)⟩
          · have e3 : z.all isL = true := by rw [← h3, List.all_map]; rfl
            rw [e3, Bool.true_and] at e
            exact e ▸ q H' hP.2
          · have e3 : z.all isL = false := by
              cases h4 : z.all isL with
              | false => rfl
              | true => exact absurd (by rw [List.all_map]; exact h4) h3
            rw [e3, Bool.false_and] at e
            exact e ▸ q H' hP.2
      · have e : nameB z = false := by
          have : ¬ 1 ≤ z.length := fun c => h1 (decide_eq_true (by omega))
          simp [nameB, this]
        exact e ▸ q H (Same.refl H)
    · dsimp only [L2.tSeq, L2.tIfS, L2.tOr, L2.tAnd, L2.tNot, L2.tB, L2.tTest, L2.tCB, L2.tCons, L2.tNil, L2.tVar, L2.tC, L2.tRet, L2.tNext, L2.tAsg, L2.gName, L2.tCall, L2.tOp, L2.tOrV, L2.tAndV, L2.tNotV, L2.tChain, L2.tIf, L2.tDrop, L2.tAug, L2.tYes, L2.tIfT, L2.tPar3, L2.tDisp, L2.tPairs, L2.tDGet, L2.sDPut, L2.tThen, L2.kTup, L2.gTup, L2.gCons, L2.gNil, L2.tPar, L2.tLst, L2.tBM, L2.tTup, L2.tSl, L2.tPart, L2.tNoPart, List.map, List.append_nil]
      refine ⟨_, rfl, isi_no ty k ⟨false, rfl, iteT (iteT q)⟩⟩
end
end K8
set_option Elab.async false
set_option linter.all false
set_option maxRecDepth 100000
set_option maxHeartbeats 2000000
namespace K8
open PySem PySem.Spec PyProof.Rows L2
theorem scIsRightRun : FnScope ["word"] ["word"] (defScope sIsRightRun) := ⟨rfl, rfl, rfl, by decide +kernel, rfl, by decide +kernel, by decide +kernel⟩
theorem scSignAt : FnScope ["string", "spot", "first", "end", "word"] ["string", "spot"] (defScope sSignAt) := ⟨rfl, rfl, rfl, by decide +kernel, rfl, by decide +kernel, by decide +kernel⟩
theorem scSignsIn : FnScope ["string", "found", "spot", "here"] ["string"] (defScope sSignsIn) := ⟨rfl, rfl, rfl, by decide +kernel, rfl, by decide +kernel, by decide +kernel⟩
theorem scNeedString : FnScope ["string"] ["string"] (defScope sNeedString) := ⟨rfl, rfl, rfl, by decide +kernel, rfl, by decide +kernel, by decide +kernel⟩
theorem scSignsOf : FnScope ["string", "found", "spot"] ["string"] (defScope sSignsOf) := ⟨rfl, rfl, rfl, by decide +kernel, rfl, by decide +kernel, by decide +kernel⟩
section
variable {P : Program} {w : World} {K : PySem.W.Frag} {mg : Str → Option Value} {base : Heap} {f : Addr} {fd : FuncData} {CN fN CT fT : Addr}
theorem ok_needName (T : Txt P K mg CN fN CT fT) (cI : Cl P w K mg base CX0 2 "is_name" ["value"] (spIsName K)) (F : Fun K "need_name" "need_name" sNeedName f fd) : FnOk P w K mg base (L2.CX P w) 3 f fd ["name"] (spNeedName K CN) := by
  refine F.okX scNeedName (fun vs H Q E h => ?_) (fun cdv A outer s H vs Q E hr h => ?_)
  · obtain ⟨c, rfl, _⟩ := h; rfl
  · refine ⟨_, pss_cons (ps_if (pt_not (pt_val (pe_cl cI hr (by decide) rfl pass0 (pa_cons (pv 0) pa_nil)))) (pss_one (ps_raiseSup rfl T.name hr (takes_of rfl rfl rfl rfl) (pa_cons (pv 0) pa_nil) rfl)) pss_nil) (pss_one (ps_ret (pv 0))), ?_⟩
    obtain ⟨x, rfl, ⟨z, rfl, hz, q1, q2⟩ | ⟨t, ty, k, q⟩⟩ := h
    · dsimp only [L2.tSeq, L2.tIfS, L2.tOr, L2.tAnd, L2.tNot, L2.tB, L2.tTest, L2.tCB, L2.tCons, L2.tNil, L2.tVar, L2.tC, L2.tRet, L2.tNext, L2.tAsg, L2.gName, L2.tCall, L2.tOp, L2.tOrV, L2.tAndV, L2.tNotV, L2.tChain, L2.tIf, L2.tDrop, L2.tAug, L2.tYes, L2.tIfT, L2.tPar3, L2.tDisp, L2.tPairs, L2.tDGet, L2.sDPut, L2.tThen, L2.kTup, L2.gTup, L2.gCons, L2.gNil, L2.tPar, L2.tLst, L2.tBM, L2.tTup, L2.tSl, L2.tPart, L2.tNoPart, List.map, List.append_nil]
      refine ⟨_, rfl, _, rfl, .inl ⟨z, rfl, hz, fun H' e => ⟨_, rfl, ?_⟩⟩⟩
      cases hn : nameB z with
      | true => exact iteF ⟨_, rfl, q1 hn H' e⟩
      | false => exact iteT ⟨_, rfl, _, rfl, fun d hd => q2 hn H' d e hd⟩
    · dsimp only [L2.tSeq, L2.tIfS, L2.tOr, L2.tAnd, L2.tNot, L2.tB, L2.tTest, L2.tCB, L2.tCons, L2.tNil, L2.tVar, L2.tC, L2.tRet, L2.tNext, L2.tAsg, L2.gName, L2.tCall, L2.tOp, L2.tOrV, L2.tAndV, L2.tNotV, L2.tChain, L2.tIf, L2.tDrop, L2.tAug, L2.tYes, L2.tIfT, L2.tPar3, L2.tDisp, L2.tPairs, L2.tDGet, L2.sDPut, L2.tThen, L2.kTup, L2.gTup, L2.gCons, L2.gNil, L2.tPar, L2.tLst, L2.tBM, L2.tTup, L2.tSl, L2.tPart, L2.tNoPart, List.map, List.append_nil]
      exact ⟨_, rfl, _, rfl, .inr ⟨t, ty, k, _, rfl, iteT ⟨_, rfl, _, rfl, q⟩⟩⟩
theorem ok_needString (T : Txt P K mg CN fN CT fT) (F : Fun K "need_string" "need_string" sNeedString f fd) : FnOk P w K mg base (L2.CX P w) 3 f fd ["string"] (spNeedString K CT) := by
  obtain ⟨tT, gT⟩ := T.mText
  refine F.okX scNeedString (fun vs H Q E h => ?_) (fun cdv A outer s H vs Q E hr h => ?_)
  · obtain ⟨c, rfl, _⟩ := h; rfl
  · refine ⟨_, pss_cons (ps_if (PW.pt (pw_or (pt_not (pt_val (pe_callB call_isi rfl T.nIsi (by decide +kernel) (pa_cons (pv 0) (pa_cons (pe_bltn (v := .ty "str") rfl T.nStr (by decide +kernel) rfl) pa_nil)))))
        (pw_or1 (pt_cmpR op_gt (pe_callB call_len rfl T.nLen (by decide +kernel) (pa_cons (pv 0) pa_nil)) (pe_glob (v := .int 5000) rfl gT ⟨_, rfl⟩) (by rfl))))) (pss_one (ps_raiseSup rfl T.text hr (takes_of rfl rfl rfl rfl) (pa_cons pe_non pa_nil) rfl)) pss_nil) (pss_one (ps_ret (pv 0))), ?_⟩
    obtain ⟨x, rfl, ⟨z, rfl, hz, q1, q2⟩ | ⟨t, ty, k, q⟩⟩ := h
    · dsimp only [L2.tSeq, L2.tIfS, L2.tOr, L2.tAnd, L2.tNot, L2.tB, L2.tTest, L2.tCB, L2.tCons, L2.tNil, L2.tVar, L2.tC, L2.tRet, L2.tNext, L2.tAsg, L2.gName, L2.tCall, L2.tOp, L2.tOrV, L2.tAndV, L2.tNotV, L2.tChain, L2.tIf, L2.tDrop, L2.tAug, L2.tYes, L2.tIfT, L2.tPar3, L2.tDisp, L2.tPairs, L2.tDGet, L2.sDPut, L2.tThen, L2.kTup, L2.gTup, L2.gCons, L2.gNil, L2.tPar, L2.tLst, L2.tBM, L2.tTup, L2.tSl, L2.tPart, L2.tNoPart, List.map, List.append_nil]
      have ez : (tx z).length = z.length := tx_len z
      refine ⟨_, rfl, isi_str ⟨true, rfl, iteF ⟨_, rfl, _, z.length, rfl, ⟨Nat.le_trans (Nat.le_of_eq ez) (sz100 hz), ez.symm⟩, _, _, rfl, rfl, _, rfl, ite2 (fun h1 => ?_) (fun h1 => ?_)⟩⟩⟩
      · exact ⟨_, rfl, q2 (by have := of_decide_eq_true h1; omega)⟩
      · exact ⟨_, rfl, q1 (Nat.le_of_not_lt fun c => h1 (decide_eq_true (by omega)))⟩
    · dsimp only [L2.tSeq, L2.tIfS, L2.tOr, L2.tAnd, L2.tNot, L2.tB, L2.tTest, L2.tCB, L2.tCons, L2.tNil, L2.tVar, L2.tC, L2.tRet, L2.tNext, L2.tAsg, L2.gName, L2.tCall, L2.tOp, L2.tOrV, L2.tAndV, L2.tNotV, L2.tChain, L2.tIf, L2.tDrop, L2.tAug, L2.tYes, L2.tIfT, L2.tPar3, L2.tDisp, L2.tPairs, L2.tDGet, L2.sDPut, L2.tThen, L2.kTup, L2.gTup, L2.gCons, L2.gNil, L2.tPar, L2.tLst, L2.tBM, L2.tTup, L2.tSl, L2.tPart, L2.tNoPart, List.map, List.append_nil]
      exact ⟨_, rfl, isi_no ty k ⟨false, rfl, iteT (iteT ⟨_, rfl, q⟩)⟩⟩
end
end K8
set_option Elab.async false
set_option linter.all false
set_option maxRecDepth 100000
set_option maxHeartbeats 2000000
namespace K8
open PySem PySem.Spec PyProof.Rows L2
theorem eq_tx {a b : List Nat} : decide (V.str (tx a) = V.str (tx b)) = decide (a = b) := by
  rw [decide_eq_decide]
  constructor
  · intro h; injection h with h; exact tx_inj.mp h
  · rintro rfl; rfl
theorem ix0 {c : Nat} {t : List Nat} {H : Hp} {Q : VK} (hl : (c :: t).length ≤ 100000) (q : Q (.str (tx [c])) H) : rIxS (.str (tx (c :: t))) (.int 0) H Q :=
  ⟨_, 0, c, rfl, rfl, Nat.le_trans (Nat.le_of_eq (tx_len _)) (sz100 hl), tx_at (i := 0) rfl, q⟩
theorem len_tx {K : PySem.W.Frag} {z : List Nat} {H : Hp} (hz : z.length ≤ 100000) : LenV K (.str (tx z)) H z.length := ⟨Nat.le_trans (Nat.le_of_eq (tx_len z)) (sz100 hz), (tx_len z).symm⟩
theorem eq_int (n m : Nat) : decide (V.int n = V.int m) = decide (n = m) := by
  rw [decide_eq_decide]
  constructor
  · intro z; injection z with z; omega
  · rintro rfl; rfl
theorem dec_len (n m : Nat) : decide ((n : Int) ≤ (m : Int)) = decide (n ≤ m) := by
  rw [decide_eq_decide]; omega
section
variable {P : Program} {w : World} {K : PySem.W.Frag} {mg : Str → Option Value} {base : Heap} {f : Addr} {fd : FuncData} {CN fN CT fT : Addr}
theorem ok_isRightRun (T : Txt P K mg CN fN CT fT) (cD : Cl P w K mg base CX0 1 "is_digit" ["sign"] spIsDigit) (F : Fun K "is_right_run" "is_right_run" sIsRightRun f fd) : FnOk P w K mg base CX0 2 f fd ["word"] spIsRightRun := by
  obtain ⟨tD, gD⟩ := T.mDig
  obtain ⟨tL, gL⟩ := T.mLet
  refine F.ok scIsRightRun (fun vs H Q E h => ?_) (fun cdv A outer s H vs Q E hr h => ?_)
  · obtain ⟨c, rfl, _⟩ := h; rfl
  · refine ⟨_, PSs.nox (pss_cons (ps_if (pt_val (pe_cl cD hr (by decide) rfl pass0 (pa_cons (pe_ix ix_str (pv 0) pe_int (fun _ _ => rfl)) pa_nil)))
      (pss_one (ps_ret (pe_and (pe_cmpR op_le (pe_callB call_len rfl T.nLen (by decide +kernel) (pa_cons (pv 0) pa_nil)) (pe_glob (v := .int 100) rfl gD ⟨_, rfl⟩) (by rfl))
        (pe_one (pe_or (pe_cmpR op_ne (pe_ix ix_str (pv 0) pe_int (fun _ _ => rfl)) pe_str (by rfl)) (pe_one (pe_cmpR op_eq (pe_callB call_len rfl T.nLen (by decide +kernel) (pa_cons (pv 0) pa_nil)) pe_int (by rfl)))))))) pss_nil)
      (pss_one (ps_ret (pe_cmpR op_le (pe_callB call_len rfl T.nLen (by decide +kernel) (pa_cons (pv 0) pa_nil)) (pe_glob (v := .int 16) rfl gL ⟨_, rfl⟩) (by rfl))))), ?_⟩
    obtain ⟨wd, rfl, hne, hl, q⟩ := h
    cases wd with
    | nil => exact absurd rfl hne
    | cons c t =>
      dsimp only [L2.tSeq, L2.tIfS, L2.tOr, L2.tAnd, L2.tNot, L2.tB, L2.tTest, L2.tCB, L2.tCons, L2.tNil, L2.tVar, L2.tC, L2.tRet, L2.tNext, L2.tAsg, L2.gName, L2.tCall, L2.tOp, L2.tOrV, L2.tAndV, L2.tNotV, L2.tChain, L2.tIf, L2.tDrop, L2.tAug, L2.tYes, L2.tIfT, L2.tPar3, L2.tDisp, L2.tPairs, L2.tDGet, L2.sDPut, L2.tThen, L2.kTup, L2.gTup, L2.gCons, L2.gNil, L2.tPar, L2.tLst, L2.tBM, L2.tTup, L2.tSl, L2.tPart, L2.tNoPart, List.map, List.append_nil]
      refine ⟨_, rfl, ix0 hl ⟨c, rfl, _, rfl, ?_⟩⟩
      cases hd : isD c with
      | true =>
        refine iteT ⟨_, rfl, _, _, rfl, len_tx hl, _, _, rfl, rfl, ?_⟩
        have e : runOk (c :: t) = (decide ((c :: t).length ≤ 100) && (!decide (c = 48) || decide ((c :: t).length = 1))) := by
          show (if isD c then _ else _) = _
          rw [if_pos hd]
        refine ⟨_, rfl, and_read (Q := fun b => Q (.bl b) H) (r := (!decide (c = 48) || decide ((c :: t).length = 1))) ?_ fun h2 => ?_⟩
        · rw [show decide (((c :: t).length : Nat) ≤ (100 : Int)) = decide ((c :: t).length ≤ 100) from dec_len _ 100, ← e]; exact q
        · refine ⟨_, rfl, ix0 hl ⟨rfl, _, rfl, or_read (Q := fun b => Q (.bl b) H) (r := decide ((c :: t).length = 1)) ?_ fun h3 => ⟨_, rfl, _, _, rfl, len_tx hl, rfl, ?_⟩⟩⟩
          · rw [show decide (V.str (tx [c]) = V.str (Str.ofString "0")) = decide (c = 48) from (eq_tx (b := [48])).trans (by simp)]; exact h2
          · rw [show decide (V.int ((c :: t).length : Nat) = V.int 1) = decide ((c :: t).length = 1) from eq_int _ 1]
            exact h3
      | false =>
        refine iteF ⟨_, rfl, _, _, rfl, len_tx hl, _, _, rfl, rfl, ?_⟩
        have e : runOk (c :: t) = decide ((c :: t).length ≤ 16) := by
          show (if isD c then _ else _) = _
          rw [if_neg (by rw [hd]; exact Bool.false_ne_true)]
        show Q (V.bl (decide (((c :: t).length : Nat) ≤ (16 : Int)))) H
        rw [show decide (((c :: t).length : Nat) ≤ (16 : Int)) = decide ((c :: t).length ≤ 16) from dec_len _ 16, ← e]; exact q
end
end K8
set_option Elab.async false
set_option linter.all false
set_option maxRecDepth 100000
set_option maxHeartbeats 2000000
namespace K8
open PySem PySem.Spec PyProof.Rows L2
theorem drop_cons {l : List Nat} {i : Nat} (h : i < l.length) : ∃ c t, l.drop i = c :: t ∧ l[i]? = some c ∧ t = l.drop (i + 1) := by
  refine ⟨l[i], l.drop (i + 1), List.drop_eq_getElem_cons h, List.getElem?_eq_getElem h, rfl⟩
theorem ixn {l : List Nat} {i c : Nat} {H : Hp} {Q : VK} (hl : l.length ≤ 100000) (hc : l[i]? = some c) (q : Q (.str (tx [c])) H) : rIxS (.str (tx l)) (.int (i : Int)) H Q :=
  ⟨_, i, c, rfl, rfl, Nat.le_trans (Nat.le_of_eq (tx_len _)) (sz100 hl), tx_at hc, q⟩
theorem cutn {l : List Nat} {i j : Nat} {H : Hp} {Q : VK} (hl : l.length ≤ 100000) (hi : i ≤ j) (hil : i ≤ l.length) (q : Q (.str (tx ((l.drop i).take (j - i)))) H) : rSlS (.str (tx l)) (some (i : Int)) (some (j : Int)) H Q :=
  ⟨_, rfl, Nat.le_trans (Nat.le_of_eq (tx_len _)) (sz100 hl), by rw [tx_cut l i j hi hil]; exact q⟩
theorem ite_eqs {a b : List Nat} {A B : Prop} (h1 : a = b → A) (h2 : a ≠ b → B) : if decide (V.str (tx a) = V.str (tx b)) = true then A else B := by
  rw [eq_tx]
  by_cases h : a = b
  · rw [decide_eq_true h, if_pos rfl]; exact h1 h
  · rw [decide_eq_false h, if_neg Bool.false_ne_true]; exact h2 h
theorem sgv_of {H : Hp} {p : Addr} {l : List Nat} {k : Str} {wd : List Nat} (e : sgn l = some (k, wd)) : SgV (upd H p (.tup [.str k, .str (tx wd)])) (.ref p) (sgn l) := by
  rw [e]; exact ⟨p, rfl, upd_same⟩
theorem sgv_no {H : Hp} {l : List Nat} (e : sgn l = none) : SgV H .non (sgn l) := by
  rw [e]; rfl
theorem tw_len {p : Nat → Bool} {l : List Nat} : (l.takeWhile p).length ≤ l.length := (List.takeWhile_sublist p).length_le
theorem sgn_cons (c : Nat) (t : List Nat) : sgn (c :: t) = if c = 10 then some (S' "line", [10]) else if (c :: t).take 2 = [60, 61] then some (S' "mark", [60, 61]) else if c ∈ marks then some (S' "mark", [c]) else
    if isD c then (if runOk ((c :: t).takeWhile isD) then some (S' "number", (c :: t).takeWhile isD) else none)
    else if isL c then (if runOk ((c :: t).takeWhile isL) then some (S' "word", (c :: t).takeWhile isL) else none) else none := rfl
theorem tw_step {p : Nat → Bool} {l : List Nat} {i k d : Nat} (h : l[i + k]? = some d) (hp : p d = true) (e : (l.drop i).takeWhile p = (l.drop i).take k ++ (l.drop (i + k)).takeWhile p) :
    (l.drop i).takeWhile p = (l.drop i).take (k + 1) ++ (l.drop (i + (k + 1))).takeWhile p := by
  have h2 : (l.drop i)[k]? = some d := by rw [List.getElem?_drop]; exact h
  have h3 : l.drop (i + k) = d :: l.drop (i + (k + 1)) := by
    obtain ⟨hl, e⟩ := List.getElem?_eq_some_iff.mp h
    rw [List.drop_eq_getElem_cons hl, e]; rfl
  rw [e, take_step h2, h3, List.takeWhile_cons, if_pos hp, List.append_assoc]; rfl
theorem tw_stop {p : Nat → Bool} {l : List Nat} {i k d : Nat} (h : l[i + k]? = some d) (hp : p d = false) (e : (l.drop i).takeWhile p = (l.drop i).take k ++ (l.drop (i + k)).takeWhile p) : (l.drop i).takeWhile p = (l.drop i).take k := by
  have h3 : l.drop (i + k) = d :: l.drop (i + (k + 1)) := by
    obtain ⟨hl, e⟩ := List.getElem?_eq_some_iff.mp h
    rw [List.drop_eq_getElem_cons hl, e]; rfl
  rw [e, h3, List.takeWhile_cons, if_neg (by rw [hp]; exact Bool.false_ne_true), List.append_nil]
theorem tw_end {p : Nat → Bool} {l : List Nat} {i k : Nat} (h : ¬ i + k < l.length) (e : (l.drop i).takeWhile p = (l.drop i).take k ++ (l.drop (i + k)).takeWhile p) : (l.drop i).takeWhile p = (l.drop i).take k := by
  have e2 : l.drop (i + k) = [] := List.drop_eq_nil_of_le (by omega)
  rw [e, e2]; simp
section
variable {P : Program} {w : World} {K : PySem.W.Frag} {mg : Str → Option Value} {base : Heap} {f : Addr} {fd : FuncData} {CN fN CT fT : Addr}
theorem ok_signAt (T : Txt P K mg CN fN CT fT) (cL : Cl P w K mg base CX0 1 "is_letter" ["sign"] spIsLetter) (cD : Cl P w K mg base CX0 1 "is_digit" ["sign"] spIsDigit)
    (cR : Cl P w K mg base CX0 2 "is_right_run" ["word"] spIsRightRun) (F : Fun K "sign_at" "sign_at" sSignAt f fd) : FnOk P w K mg base CX0 3 f fd ["string", "spot"] spSignAt := by
  obtain ⟨tM, gM⟩ := T.marks
  refine F.ok scSignAt (fun vs H Q E h => ?_) (fun cdv A outer s H vs Q E hr h => ?_)
  · obtain ⟨l, i, rfl, _⟩ := h; rfl
  · refine ⟨_, PSs.nox (pss_cons (ps_set (i := 2) scSignAt.nd rfl (Or.inl rfl) (pe_ix ix_str (pv 0) (pv 1) (fun _ _ => rfl)))
      (pss_cons (ps_if (pt_cmpR op_eq (pv 2) pe_str (by rfl)) (pss_one (ps_ret (pe_tup (pa_cons pe_str (pa_cons (pv 2) pa_nil))))) pss_nil)
      (pss_cons (ps_if (pt_cmpR op_eq (pe_slice sl_str (pv 0) (po_some (pv 1)) (po_some (pe_op op_add (pv 1) pe_int))) pe_str (by rfl)) (pss_one (ps_ret (pe_tup (pa_cons pe_str (pa_cons pe_str pa_nil))))) pss_nil)
      (pss_cons (ps_if (pt_cmpR op_in_sign (pv 2) (pe_glob (v := .str (tx marks)) rfl gM ⟨_, rfl⟩) (by rfl)) (pss_one (ps_ret (pe_tup (pa_cons pe_str (pa_cons (pv 2) pa_nil))))) pss_nil)
      (pss_cons (ps_if (PW.pt (pw_and (pt_not (pt_val (pe_cl cL hr (by decide) rfl pass0 (pa_cons (pv 2) pa_nil)))) (pw_and1 (pt_not (pt_val (pe_cl cD hr (by decide) rfl pass0 (pa_cons (pv 2) pa_nil))))))) (pss_one (ps_ret pe_non)) pss_nil)
      (pss_cons (ps_set (i := 3) scSignAt.nd rfl (Or.inl rfl) (pv 1))
      (pss_cons (ps_while PassesOwn.never (PW.pt (pw_and (pt_cmpR op_lt (pv 3) (pe_callB call_len rfl T.nLen (by decide +kernel) (pa_cons (pv 0) pa_nil)) (by rfl))
          (pw_and1 (pt_ifExp (pt_val (pe_cl cD hr (by decide) rfl pass0 (pa_cons (pv 2) pa_nil))) (pt_val (pe_cl cD hr (by decide) rfl pass0 (pa_cons (pe_ix ix_str (pv 0) (pv 3) (fun _ _ => rfl)) pa_nil))) (pt_val (pe_cl cL hr (by decide) rfl pass0 (pa_cons (pe_ix ix_str (pv 0) (pv 3) (fun _ _ => rfl)) pa_nil)))))))
        (pss_one (ps_aug (i := 3) scSignAt.nd rfl (Or.inl rfl) pe_int ip_add)))
      (pss_cons (ps_set (i := 4) scSignAt.nd rfl (Or.inl rfl) (pe_slice sl_str (pv 0) (po_some (pv 1)) (po_some (pv 3))))
      (pss_cons (ps_if (pt_not (pt_val (pe_cl cR hr (by decide) rfl pass0 (pa_cons (pv 4) pa_nil)))) (pss_one (ps_ret pe_non)) pss_nil)
      (pss_one (ps_ret (pe_tup (pa_cons (pe_ifExp (pt_val (pe_cl cD hr (by decide) rfl pass0 (pa_cons (pv 2) pa_nil))) pe_str pe_str) (pa_cons (pv 4) pa_nil)))))))))))))), ?_⟩
    obtain ⟨l, i, rfl, hi, hl, q⟩ := h
    obtain ⟨c, t, e0, ec, et⟩ := drop_cons hi
    rw [e0] at q
    dsimp only [L2.tSeq, L2.tIfS, L2.tOr, L2.tAnd, L2.tNot, L2.tB, L2.tTest, L2.tCB, L2.tCons, L2.tNil, L2.tVar, L2.tC, L2.tRet, L2.tNext, L2.tAsg, L2.gName, L2.tCall, L2.tOp, L2.tOrV, L2.tAndV, L2.tNotV, L2.tChain, L2.tIf, L2.tDrop, L2.tAug, L2.tYes, L2.tIfT, L2.tPar3, L2.tDisp, L2.tPairs, L2.tDGet, L2.sDPut, L2.tThen, L2.kTup, L2.gTup, L2.gCons, L2.gNil, L2.tPar, L2.tLst, L2.tBM, L2.tTup, L2.tSl, L2.tPart, L2.tNoPart, List.map, List.append_nil]
    refine ⟨_, rfl, _, rfl, ixn hl ec ⟨_, rfl, rfl, _, rfl, ite_eqs (b := [10]) (fun h1 => ?_) (fun h1 => ?_)⟩⟩
    · refine ⟨_, rfl, (show 2 ≤ sizeLine by decide), fun p hp => q _ _ (Same.upd (Same.refl H) hp) (sgv_of ?_)⟩
      have : c = 10 := by simpa using h1
      subst this
      rfl
    have c1 : c ≠ 10 := fun z => h1 (by rw [z])
    have e2 : (l.drop i).take (i + 2 - i) = (c :: t).take 2 := by rw [e0]; congr 1; omega
    refine ⟨_, rfl, _, rfl, _, rfl, _, rfl, _, _, rfl, rfl, _, rfl, cutn (j := i + 2) hl (by omega) (by omega) ⟨rfl, _, rfl, ite_eqs (b := [60, 61]) (fun h2 => ?_) (fun h2 => ?_)⟩⟩
    · refine ⟨(show 2 ≤ sizeLine by decide), fun p hp => q _ _ (Same.upd (Same.refl H) hp) (sgv_of (wd := [60, 61]) ?_)⟩
      rw [e2] at h2
      rw [sgn_cons, if_neg c1, if_pos h2]
    rw [e2] at h2
    refine ⟨_, rfl, c, tx marks, rfl, rfl, _, rfl, ite2 (fun h3 => ?_) (fun h3 => ?_)⟩
    · refine ⟨_, rfl, (show 2 ≤ sizeLine by decide), fun p hp => q _ _ (Same.upd (Same.refl H) hp) (sgv_of (wd := [c]) ?_)⟩
      rw [sgn_cons, if_neg c1, if_neg h2, if_pos (show c ∈ marks from of_decide_eq_true h3)]
    have h4 : ¬ c ∈ marks := fun z => h3 (decide_eq_true z)
    refine ⟨_, rfl, c, rfl, _, rfl, and_if (b := !isD c) (fun z => ⟨_, rfl, c, rfl, _, rfl, z⟩) (ite2 (fun h5 => ?_) (fun h5 => ?_))⟩
    · refine q _ _ (Same.refl H) (sgv_no ?_)
      have hL : isL c = false := by revert h5; cases isL c <;> simp
      have hD : isD c = false := by revert h5; cases isD c <;> simp
      rw [sgn_cons, if_neg c1, if_neg h2, if_neg h4, if_neg (by rw [hD]; exact Bool.false_ne_true), if_neg (by rw [hL]; exact Bool.false_ne_true)]
    refine ⟨_, rfl, while_gen fun D eD => ?_⟩
    cases hD : isD c with
    | true =>
      have after : ∀ k, i + k ≤ l.length → (l.drop i).takeWhile isD = (l.drop i).take k → D.nx [some (.str (tx l)), some (.int (i : Int)), some (.str (tx [c])), some (.int ((i + k : Nat) : Int)), none] H := by
        intro k hk e
        rw [eD]
        dsimp only [L2.tSeq, L2.tIfS, L2.tOr, L2.tAnd, L2.tNot, L2.tB, L2.tTest, L2.tCB, L2.tCons, L2.tNil, L2.tVar, L2.tC, L2.tRet, L2.tNext, L2.tAsg, L2.gName, L2.tCall, L2.tOp, L2.tOrV, L2.tAndV, L2.tNotV, L2.tChain, L2.tIf, L2.tDrop, L2.tAug, L2.tYes, L2.tIfT, L2.tPar3, L2.tDisp, L2.tPairs, L2.tDGet, L2.sDPut, L2.tThen, L2.kTup, L2.gTup, L2.gCons, L2.gNil, L2.tPar, L2.tLst, L2.tBM, L2.tTup, L2.tSl, L2.tPart, L2.tNoPart, List.map, List.append_nil]
        have ew : (l.drop i).take (i + k - i) = (c :: t).takeWhile isD := by rw [← e0, e]; congr 1; omega
        have hw : (c :: t).takeWhile isD = c :: t.takeWhile isD := by rw [List.takeWhile_cons, if_pos hD]
        refine ⟨_, rfl, _, rfl, _, rfl, _, rfl, _, rfl, cutn hl (by omega) (by omega) ?_⟩
        rw [ew]
        refine ⟨_, rfl, _, rfl, by rw [hw]; exact List.cons_ne_nil _ _, Nat.le_trans tw_len (by rw [← e0, List.length_drop]; omega), _, rfl, ite2 (fun hr => ?_) (fun hr => ?_)⟩
        · refine q _ _ (Same.refl H) (sgv_no ?_)
          have hn : runOk ((c :: t).takeWhile isD) = false := by revert hr; cases runOk ((c :: t).takeWhile isD) <;> simp
          rw [sgn_cons, if_neg c1, if_neg h2, if_neg h4, if_pos hD, if_neg (by rw [hn]; exact Bool.false_ne_true)]
        · have hn : runOk ((c :: t).takeWhile isD) = true := by revert hr; cases runOk ((c :: t).takeWhile isD) <;> simp
          refine ⟨_, rfl, c, rfl, _, rfl, ?_⟩
          rw [hD]
          refine iteT ⟨_, rfl, (show 2 ≤ sizeLine by decide), fun p hp => q _ _ (Same.upd (Same.refl H) hp) (sgv_of ?_)⟩
          rw [sgn_cons, if_neg c1, if_neg h2, if_neg h4, if_pos hD, if_pos hn]
      refine ⟨fun m σ H' => ∃ k, m = l.length - (i + k) ∧ i + k ≤ l.length ∧ σ = [some (.str (tx l)), some (.int (i : Int)), some (.str (tx [c])), some (.int ((i + k : Nat) : Int)), none] ∧ H = H' ∧ (l.drop i).takeWhile isD = (l.drop i).take k ++ (l.drop (i + k)).takeWhile isD,
        ⟨_, 0, rfl, by omega, rfl, rfl, by rw [List.take_zero]; rfl⟩, ?_⟩
      rintro m σ H' ⟨k, rfl, hk, rfl, rfl, htw⟩
      dsimp only [L2.tSeq, L2.tIfS, L2.tOr, L2.tAnd, L2.tNot, L2.tB, L2.tTest, L2.tCB, L2.tCons, L2.tNil, L2.tVar, L2.tC, L2.tRet, L2.tNext, L2.tAsg, L2.gName, L2.tCall, L2.tOp, L2.tOrV, L2.tAndV, L2.tNotV, L2.tChain, L2.tIf, L2.tDrop, L2.tAug, L2.tYes, L2.tIfT, L2.tPar3, L2.tDisp, L2.tPairs, L2.tDGet, L2.sDPut, L2.tThen, L2.kTup, L2.gTup, L2.gCons, L2.gNil, L2.tPar, L2.tLst, L2.tBM, L2.tTup, L2.tSl, L2.tPart, L2.tNoPart, List.map, List.append_nil]
      refine ⟨_, rfl, _, rfl, _, _, rfl, len_tx hl, _, _, rfl, rfl, _, rfl, ite2 (fun hlt => ?_) (fun hlt => ?_)⟩
      · have hlt : i + k < l.length := by have := of_decide_eq_true hlt; omega
        obtain ⟨d, u, e1, ed, eu⟩ := drop_cons hlt
        refine ⟨_, rfl, c, rfl, _, rfl, ?_⟩
        rw [hD]
        · refine iteT ?_
          refine ⟨_, rfl, _, rfl, ixn hl ed ⟨d, rfl, _, rfl, ite2 (fun hp => ?_) (fun hp => ?_)⟩⟩
          · refine ⟨fun σ' H'' => σ' = [some (.str (tx l)), some (.int (i : Int)), some (.str (tx [c])), some (.int ((i + (k + 1) : Nat) : Int)), none] ∧ H = H'', fun σ' H'' z => ⟨l.length - (i + (k + 1)), by omega, k + 1, rfl, by omega, z.1, z.2, tw_step ed hp htw⟩, _, rfl, _, _, rfl, rfl, ?_, rfl⟩
            rw [show ((i + (k + 1) : Nat) : Int) = ((i + k : Nat) : Int) + 1 by omega]; rfl
          · exact after k hk (tw_stop ed (by cases z : isD d with
              | true => exact absurd z hp
              | false => rfl) htw)
      · refine iteF (after k hk (tw_end (fun z => hlt (decide_eq_true (by omega))) htw))
    | false =>
      have hL : isL c = true := by
        cases z : isL c with
        | true => rfl
        | false => rw [hD, z] at h5; exact absurd rfl h5
      have after : ∀ k, i + k ≤ l.length → (l.drop i).takeWhile isL = (l.drop i).take k → D.nx [some (.str (tx l)), some (.int (i : Int)), some (.str (tx [c])), some (.int ((i + k : Nat) : Int)), none] H := by
        intro k hk e
        rw [eD]
        dsimp only [L2.tSeq, L2.tIfS, L2.tOr, L2.tAnd, L2.tNot, L2.tB, L2.tTest, L2.tCB, L2.tCons, L2.tNil, L2.tVar, L2.tC, L2.tRet, L2.tNext, L2.tAsg, L2.gName, L2.tCall, L2.tOp, L2.tOrV, L2.tAndV, L2.tNotV, L2.tChain, L2.tIf, L2.tDrop, L2.tAug, L2.tYes, L2.tIfT, L2.tPar3, L2.tDisp, L2.tPairs, L2.tDGet, L2.sDPut, L2.tThen, L2.kTup, L2.gTup, L2.gCons, L2.gNil, L2.tPar, L2.tLst, L2.tBM, L2.tTup, L2.tSl, L2.tPart, L2.tNoPart, List.map, List.append_nil]
        have ew : (l.drop i).take (i + k - i) = (c :: t).takeWhile isL := by rw [← e0, e]; congr 1; omega
        have hw : (c :: t).takeWhile isL = c :: t.takeWhile isL := by rw [List.takeWhile_cons, if_pos hL]
        refine ⟨_, rfl, _, rfl, _, rfl, _, rfl, _, rfl, cutn hl (by omega) (by omega) ?_⟩
        rw [ew]
        refine ⟨_, rfl, _, rfl, by rw [hw]; exact List.cons_ne_nil _ _, Nat.le_trans tw_len (by rw [← e0, List.length_drop]; omega), _, rfl, ite2 (fun hr => ?_) (fun hr => ?_)⟩
        · refine q _ _ (Same.refl H) (sgv_no ?_)
          have hn : runOk ((c :: t).takeWhile isL) = false := by revert hr; cases runOk ((c :: t).takeWhile isL) <;> simp
          rw [sgn_cons, if_neg c1, if_neg h2, if_neg h4, if_neg (by rw [hD]; exact Bool.false_ne_true), if_pos hL, if_neg (by rw [hn]; exact Bool.false_ne_true)]
        · have hn : runOk ((c :: t).takeWhile isL) = true := by revert hr; cases runOk ((c :: t).takeWhile isL) <;> simp
          refine ⟨_, rfl, c, rfl, _, rfl, ?_⟩
          rw [hD]
          refine iteF ⟨_, rfl, (show 2 ≤ sizeLine by decide), fun p hp => q _ _ (Same.upd (Same.refl H) hp) (sgv_of ?_)⟩
          rw [sgn_cons, if_neg c1, if_neg h2, if_neg h4, if_neg (by rw [hD]; exact Bool.false_ne_true), if_pos hL, if_pos hn]
      refine ⟨fun m σ H' => ∃ k, m = l.length - (i + k) ∧ i + k ≤ l.length ∧ σ = [some (.str (tx l)), some (.int (i : Int)), some (.str (tx [c])), some (.int ((i + k : Nat) : Int)), none] ∧ H = H' ∧ (l.drop i).takeWhile isL = (l.drop i).take k ++ (l.drop (i + k)).takeWhile isL,
        ⟨_, 0, rfl, by omega, rfl, rfl, by rw [List.take_zero]; rfl⟩, ?_⟩
      rintro m σ H' ⟨k, rfl, hk, rfl, rfl, htw⟩
      dsimp only [L2.tSeq, L2.tIfS, L2.tOr, L2.tAnd, L2.tNot, L2.tB, L2.tTest, L2.tCB, L2.tCons, L2.tNil, L2.tVar, L2.tC, L2.tRet, L2.tNext, L2.tAsg, L2.gName, L2.tCall, L2.tOp, L2.tOrV, L2.tAndV, L2.tNotV, L2.tChain, L2.tIf, L2.tDrop, L2.tAug, L2.tYes, L2.tIfT, L2.tPar3, L2.tDisp, L2.tPairs, L2.tDGet, L2.sDPut, L2.tThen, L2.kTup, L2.gTup, L2.gCons, L2.gNil, L2.tPar, L2.tLst, L2.tBM, L2.tTup, L2.tSl, L2.tPart, L2.tNoPart, List.map, List.append_nil]
      refine ⟨_, rfl, _, rfl, _, _, rfl, len_tx hl, _, _, rfl, rfl, _, rfl, ite2 (fun hlt => ?_) (fun hlt => ?_)⟩
      · have hlt : i + k < l.length := by have := of_decide_eq_true hlt; omega
        obtain ⟨d, u, e1, ed, eu⟩ := drop_cons hlt
        refine ⟨_, rfl, c, rfl, _, rfl, ?_⟩
        rw [hD]
        · refine iteF ?_
          refine ⟨_, rfl, _, rfl, ixn hl ed ⟨d, rfl, _, rfl, ite2 (fun hp => ?_) (fun hp => ?_)⟩⟩
          · refine ⟨fun σ' H'' => σ' = [some (.str (tx l)), some (.int (i : Int)), some (.str (tx [c])), some (.int ((i + (k + 1) : Nat) : Int)), none] ∧ H = H'', fun σ' H'' z => ⟨l.length - (i + (k + 1)), by omega, k + 1, rfl, by omega, z.1, z.2, tw_step ed hp htw⟩, _, rfl, _, _, rfl, rfl, ?_, rfl⟩
            rw [show ((i + (k + 1) : Nat) : Int) = ((i + k : Nat) : Int) + 1 by omega]; rfl
          · exact after k hk (tw_stop ed (by cases z : isL d with
              | true => exact absurd z hp
              | false => rfl) htw)
      · refine iteF (after k hk (tw_end (fun z => hlt (decide_eq_true (by omega))) htw))
end
end K8
set_option Elab.async false
set_option linter.all false
set_option maxRecDepth 100000
set_option maxHeartbeats 2000000
namespace K8
open PySem PySem.Spec PyProof.Rows L2
/-! ## the signs of a text -/
theorem sgn_wd {c : Nat} {t : List Nat} {k : Str} {wd : List Nat} (h : sgn (c :: t) = some (k, wd)) : 1 ≤ wd.length ∧ ∃ r, c :: t = wd ++ r := by
  have tk : ∀ p : Nat → Bool, p c = true → 1 ≤ ((c :: t).takeWhile p).length ∧ ∃ r, c :: t = (c :: t).takeWhile p ++ r := fun p hp => by
    refine ⟨by rw [List.takeWhile_cons, if_pos hp]; exact Nat.succ_le_succ (Nat.zero_le _), (c :: t).dropWhile p, (List.takeWhile_append_dropWhile).symm⟩
  rw [sgn_cons] at h
  by_cases h1 : c = 10
  · rw [if_pos h1] at h; cases h; subst h1; exact ⟨Nat.le_refl _, t, rfl⟩
  rw [if_neg h1] at h
  by_cases h2 : (c :: t).take 2 = [60, 61]
  · rw [if_pos h2] at h; cases h; exact ⟨by decide, (c :: t).drop 2, by rw [← h2, List.take_append_drop]⟩
  rw [if_neg h2] at h
  by_cases h3 : c ∈ marks
  · rw [if_pos h3] at h; cases h; exact ⟨Nat.le_refl _, t, rfl⟩
  rw [if_neg h3] at h
  cases hD : isD c with
  | true =>
    rw [if_pos hD] at h
    cases hr : runOk ((c :: t).takeWhile isD) with
    | true => rw [if_pos hr] at h; cases h; exact tk isD hD
    | false => rw [if_neg (by rw [hr]; exact Bool.false_ne_true)] at h; cases h
  | false =>
    rw [if_neg (by rw [hD]; exact Bool.false_ne_true)] at h
    cases hL : isL c with
    | true =>
      rw [if_pos hL] at h
      cases hr : runOk ((c :: t).takeWhile isL) with
      | true => rw [if_pos hr] at h; cases h; exact tk isL hL
      | false => rw [if_neg (by rw [hr]; exact Bool.false_ne_true)] at h; cases h
    | false => rw [if_neg (by rw [hL]; exact Bool.false_ne_true)] at h; cases h
theorem scan_fuel : ∀ (n m : Nat) (l : List Nat) (i : Nat), l.length ≤ n → l.length ≤ m → scan n l i = scan m l i := by
  intro n
  induction n with
  | zero =>
    intro m l i h1 h2
    have : l = [] := List.length_eq_zero_iff.mp (Nat.le_zero.mp h1)
    subst this
    cases m <;> rfl
  | succ n ih =>
    intro m l i h1 h2
    cases l with
    | nil => cases m <;> rfl
    | cons c t =>
      cases m with
      | zero => exact absurd h2 (by simp)
      | succ m =>
        have g1 : t.length ≤ n := by simpa using h1
        have g2 : t.length ≤ m := by simpa using h2
        unfold scan
        by_cases hc : c = 32
        · rw [if_pos hc, if_pos hc]; exact ih m t (i + 1) g1 g2
        · rw [if_neg hc, if_neg hc]
          cases hs : sgn (c :: t) with
          | none => rfl
          | some kw =>
            obtain ⟨k, wd⟩ := kw
            have hw := (sgn_wd hs).1
            have e := ih m ((c :: t).drop wd.length) (i + wd.length) (by rw [List.length_drop, List.length_cons]; omega) (by rw [List.length_drop, List.length_cons]; omega)
            simp only [e]
def scanF (l : List Nat) (i : Nat) : List Sg × Option Nat := scan l.length l i
theorem scanF_nil (i : Nat) : scanF [] i = ([], none) := rfl
theorem scanF_sp (t : List Nat) (i : Nat) : scanF (32 :: t) i = scanF t (i + 1) := rfl
theorem scanF_no {c : Nat} {t : List Nat} {i : Nat} (hc : c ≠ 32) (h : sgn (c :: t) = none) : scanF (c :: t) i = ([], some i) := by
  show scan (t.length + 1) (c :: t) i = _
  unfold scan
  rw [if_neg hc, h]
theorem scanF_yes {c : Nat} {t : List Nat} {i : Nat} {k : Str} {wd : List Nat} (hc : c ≠ 32) (h : sgn (c :: t) = some (k, wd)) :
    scanF (c :: t) i = ((k, wd, i) :: (scanF ((c :: t).drop wd.length) (i + wd.length)).1, (scanF ((c :: t).drop wd.length) (i + wd.length)).2) := by
  have hw := (sgn_wd h).1
  have e := scan_fuel t.length ((c :: t).drop wd.length).length ((c :: t).drop wd.length) (i + wd.length) (by rw [List.length_drop, List.length_cons]; omega) (Nat.le_refl _)
  show scan (t.length + 1) (c :: t) i = _
  unfold scan
  rw [if_neg hc, h]
  simp only [e]
  rfl
theorem Sgs.lst {H : Hp} {p : Addr} {ys zs : List V} {xs : List V} {gs : List Sg} (hp : H p = some (.lst ys)) (h : Sgs H xs gs) : Sgs (upd H p (.lst zs)) xs gs :=
  L2.Paired.mapP h fun v g ⟨a, e1, e2⟩ => ⟨a, e1, by rw [upd_ne (fun z => by rw [z, hp] at e2; cases e2)]; exact e2⟩
end K8
set_option Elab.async false
set_option linter.all false
set_option maxRecDepth 100000
set_option maxHeartbeats 2000000
namespace K8
open PySem PySem.Spec PyProof.Rows L2
theorem Sgs.snoc {H : Hp} {xs : List V} {gs : List Sg} (h : Sgs H xs gs) {a : Addr} {g : Sg} (e : H a = some (.tup [.str g.1, .str (tx g.2.1), .int (g.2.2 : Nat)])) : Sgs H (xs ++ [.ref a]) (gs ++ [g]) := by
  induction h with
  | nil => exact .cons ⟨a, rfl, e⟩ .nil
  | cons c _ ih => exact .cons c ih
section
variable {P : Program} {w : World} {K : PySem.W.Frag} {mg : Str → Option Value} {base : Heap} {f : Addr} {fd : FuncData} {CN fN CT fT : Addr}
theorem ok_signsIn (T : Txt P K mg CN fN CT fT) (cS : Cl P w K mg base CX0 3 "sign_at" ["string", "spot"] spSignAt) (F : Fun K "signs_in" "signs_in" sSignsIn f fd) : FnOk P w K mg base CX0 4 f fd ["string"] spSignsIn := by
  refine F.ok scSignsIn (fun vs H Q E h => ?_) (fun cdv A outer s H vs Q E hr h => ?_)
  · obtain ⟨l, rfl, _⟩ := h; rfl
  · refine ⟨_, PSs.nox (pss_cons (ps_par (i := 1) (j := 2) rfl scSignsIn.nd rfl rfl (by decide) rfl rfl (pa_cons (pe_lst pa_nil) (pa_cons pe_int pa_nil)) (by rfl))
      (pss_cons (ps_while PassesOwn.never (pt_cmpR op_lt (pv 2) (pe_callB call_len rfl T.nLen (by decide +kernel) (pa_cons (pv 0) pa_nil)) (by rfl))
        (pss_one (ps_if (pt_cmpR op_eq (pe_ix ix_str (pv 0) (pv 2) (fun _ _ => rfl)) pe_str (by rfl)) (pss_one (ps_aug (i := 2) scSignsIn.nd rfl (Or.inl rfl) pe_int ip_add))
          (pss_cons (ps_set (i := 3) scSignsIn.nd rfl (Or.inl rfl) (pe_cl cS hr (by decide) rfl pass0 (pa_cons (pv 0) (pa_cons (pv 2) pa_nil))))
          (pss_cons (ps_if (pt_cmpR op_isN (pv 3) pe_non (by rfl)) (pss_one (ps_ret (pe_tup (pa_cons (pv 1) (pa_cons (pv 2) pa_nil))))) pss_nil)
          (pss_cons (ps_expr (pe_bm PySem.F.plainAttrs_list PySem.F.slot_list_append PySem.F.type_list_append mt_append (pv 1) (pa_cons (pe_tup (pa_cons (pe_ix ix_tup (pv 3) pe_int (fun _ _ => rfl)) (pa_cons (pe_ix ix_tup (pv 3) pe_int (fun _ _ => rfl)) (pa_cons (pv 2) pa_nil)))) pa_nil)))
          (pss_one (ps_aug (i := 2) scSignsIn.nd rfl (Or.inl rfl) (pe_callB call_len rfl T.nLen (by decide +kernel) (pa_cons (pe_ix ix_tup (pv 3) pe_int (fun _ _ => rfl)) pa_nil)) ip_add))))))))
      (pss_one (ps_ret (pe_tup (pa_cons (pv 1) (pa_cons pe_non pa_nil))))))), ?_⟩
    obtain ⟨l, rfl, hl, q⟩ := h
    have q : ∀ (H' : Hp) (t p : Addr) (xs : List V), Same H H' → H' p = some (.lst xs) → Sgs H' xs (scanF l 0).1 → H' t = some (.tup [.ref p, spotV (scanF l 0).2]) → Q (.ref t) H' := q
    dsimp only [L2.tSeq, L2.tIfS, L2.tOr, L2.tAnd, L2.tNot, L2.tB, L2.tTest, L2.tCB, L2.tCons, L2.tNil, L2.tVar, L2.tC, L2.tRet, L2.tNext, L2.tAsg, L2.gName, L2.tCall, L2.tOp, L2.tOrV, L2.tAndV, L2.tNotV, L2.tChain, L2.tIf, L2.tDrop, L2.tAug, L2.tYes, L2.tIfT, L2.tPar3, L2.tDisp, L2.tPairs, L2.tDGet, L2.sDPut, L2.tThen, L2.kTup, L2.gTup, L2.gCons, L2.gNil, L2.tPar, L2.tLst, L2.tBM, L2.tTup, L2.tSl, L2.tPart, L2.tNoPart, List.map, List.append_nil]
    refine ⟨by decide, fun p hp => ⟨_, _, rfl, while_gen fun D eD => ?_⟩⟩
    have ret : ∀ v H', Q v H' → D.rt v H' := by rw [eD]; exact fun _ _ h => h
    have after : ∀ (o : Option V) (k : Nat) (H' : Hp) (xs : List V), Same H H' → H' p = some (.lst xs) → Sgs H' xs (scanF l 0).1 → (scanF l 0).2 = none → D.nx [some (.str (tx l)), some (.ref p), some (.int (k : Int)), o] H' := by
      intro o k H' xs e1 e2 e3 e4
      rw [eD]
      dsimp only [L2.tSeq, L2.tIfS, L2.tOr, L2.tAnd, L2.tNot, L2.tB, L2.tTest, L2.tCB, L2.tCons, L2.tNil, L2.tVar, L2.tC, L2.tRet, L2.tNext, L2.tAsg, L2.gName, L2.tCall, L2.tOp, L2.tOrV, L2.tAndV, L2.tNotV, L2.tChain, L2.tIf, L2.tDrop, L2.tAug, L2.tYes, L2.tIfT, L2.tPar3, L2.tDisp, L2.tPairs, L2.tDGet, L2.sDPut, L2.tThen, L2.kTup, L2.gTup, L2.gCons, L2.gNil, L2.tPar, L2.tLst, L2.tBM, L2.tTup, L2.tSl, L2.tPart, L2.tNoPart, List.map, List.append_nil]
      refine ⟨_, rfl, (show 2 ≤ sizeLine by decide), fun t ht => q _ t p xs (e1.trans (Same.upd (Same.refl _) ht)) ?_ (Sgs.ex (Same.upd (Same.refl _) ht) e3) (by rw [e4]; exact upd_same)⟩
      rw [upd_ne (fun z => by rw [z, ht] at e2; cases e2)]; exact e2
    refine ⟨fun m σ H' => ∃ (o : Option V) (k : Nat) (xs : List V) (gs : List Sg), m = l.length - k ∧ k ≤ l.length ∧ σ = [some (.str (tx l)), some (.ref p), some (.int (k : Int)), o] ∧ Same H H' ∧ H' p = some (.lst xs) ∧ Sgs H' xs gs ∧ xs.length ≤ k ∧
      scanF l 0 = (gs ++ (scanF (l.drop k) k).1, (scanF (l.drop k) k).2), ⟨_, none, 0, [], [], rfl, Nat.zero_le _, rfl, Same.upd (Same.refl _) hp, upd_same, .nil, Nat.le_refl _, rfl⟩, ?_⟩
    rintro m σ H' ⟨o, k, xs, gs, rfl, hk, rfl, e1, e2, e3, e4, e5⟩
    dsimp only [L2.tSeq, L2.tIfS, L2.tOr, L2.tAnd, L2.tNot, L2.tB, L2.tTest, L2.tCB, L2.tCons, L2.tNil, L2.tVar, L2.tC, L2.tRet, L2.tNext, L2.tAsg, L2.gName, L2.tCall, L2.tOp, L2.tOrV, L2.tAndV, L2.tNotV, L2.tChain, L2.tIf, L2.tDrop, L2.tAug, L2.tYes, L2.tIfT, L2.tPar3, L2.tDisp, L2.tPairs, L2.tDGet, L2.sDPut, L2.tThen, L2.kTup, L2.gTup, L2.gCons, L2.gNil, L2.tPar, L2.tLst, L2.tBM, L2.tTup, L2.tSl, L2.tPart, L2.tNoPart, List.map, List.append_nil]
    refine ⟨_, rfl, _, rfl, _, _, rfl, len_tx hl, _, _, rfl, rfl, _, rfl, ite2 (fun hlt => ?_) (fun hlt => ?_)⟩
    · have hlt : k < l.length := by have := of_decide_eq_true hlt; omega
      obtain ⟨c, t, d1, d2, d3⟩ := drop_cons hlt
      refine ⟨fun σ' H'' => ∃ (o : Option V) (k' : Nat) (xs : List V) (gs : List Sg), k < k' ∧ k' ≤ l.length ∧ σ' = [some (.str (tx l)), some (.ref p), some (.int (k' : Int)), o] ∧ Same H H'' ∧ H'' p = some (.lst xs) ∧ Sgs H'' xs gs ∧ xs.length ≤ k' ∧
        scanF l 0 = (gs ++ (scanF (l.drop k') k').1, (scanF (l.drop k') k').2), ?_, ?_⟩
      · rintro σ' H'' ⟨o, k', xs, gs, g1, g2, g3⟩
        exact ⟨l.length - k', by omega, o, k', xs, gs, rfl, g2, g3⟩
      refine ⟨_, rfl, _, rfl, ixn hl d2 ⟨rfl, _, rfl, ite_eqs (b := [32]) (fun h1 => ?_) (fun h1 => ?_)⟩⟩
      · have h1 : c = 32 := by simpa using h1
        subst h1
        refine ⟨_, rfl, _, _, rfl, rfl, o, k + 1, xs, gs, by omega, by omega, rfl, e1, e2, e3, by omega, ?_⟩
        rw [e5, d1, scanF_sp, d3]
      · have h1 : c ≠ 32 := fun z => h1 (by rw [z])
        refine ⟨_, rfl, _, rfl, l, k, rfl, hlt, hl, fun v H2 s2 sv => ?_⟩
        rw [d1] at sv
        cases hs : sgn (c :: t) with
        | none =>
          rw [hs] at sv
          obtain rfl : v = .non := sv
          refine ⟨_, rfl, rfl, _, rfl, iteT ⟨_, rfl, _, rfl, (show 2 ≤ sizeLine by decide), fun u hu => ?_⟩⟩
          have e6 : scanF l 0 = (gs, some k) := by rw [e5, d1, scanF_no h1 hs, List.append_nil]
          have e7 : H2 p = some (.lst xs) := s2 _ _ e2
          refine ret _ _ (q _ u p xs ((e1.trans s2).trans (Same.upd (Same.refl _) hu)) ?_ ?_ (by rw [e6]; exact upd_same))
          · rw [upd_ne (fun z => by rw [z, hu] at e7; cases e7)]; exact e7
          · rw [e6]; exact Sgs.ex (Same.upd (Same.refl _) hu) (Sgs.ex s2 e3)
        | some kw =>
          obtain ⟨kk, wd⟩ := kw
          rw [hs] at sv
          obtain ⟨a, rfl, ea⟩ := sv
          obtain ⟨w1, r, w2⟩ := sgn_wd hs
          have w3 : k + wd.length ≤ l.length := by
            have := congrArg List.length w2
            rw [← d1, List.length_drop, List.length_append] at this
            omega
          refine ⟨_, rfl, rfl, _, rfl, ?_⟩
          refine ite2 (fun z => nomatch (of_decide_eq_true z)) (fun _ => ?_)
          have e7 : H2 p = some (.lst xs) := s2 _ _ e2
          have ap : a ≠ p := fun z => by rw [z, e7] at ea; cases ea
          refine ⟨_, rfl, .inl ⟨rfl, _, SqL.of e7⟩, _, rfl, a, _, 0, _, rfl, rfl, SqT.of ea, rfl, _, rfl, a, _, 1, _, rfl, rfl, SqT.of ea, rfl, _, rfl, (show 3 ≤ sizeLine by decide), fun b hb => ?_⟩
          have ab : a ≠ b := fun z => by rw [z, hb] at ea; cases ea
          have pb : p ≠ b := fun z => by rw [z, hb] at e7; cases e7
          refine ⟨p, xs, _, rfl, rfl, (upd_ne pb).trans e7, Nat.lt_of_le_of_lt (Nat.le_trans e4 (Nat.le_trans hk hl)) (by decide), _, rfl, _, rfl, a, _, 1, _, rfl, rfl, SqT.of (((upd_ne ap).trans (upd_ne ab)).trans ea), rfl, _, _, rfl, len_tx (by omega), _, _, rfl, rfl, ?_⟩
          refine ⟨some (.ref a), k + wd.length, xs ++ [.ref b], gs ++ [(kk, wd, k)], by omega, w3, rfl, Same.upd (Same.upd (e1.trans s2) ((e1.trans s2).free hb)) hp, upd_same, ?_, by rw [List.length_append]; simp only [List.length_singleton]; omega, ?_⟩
          · exact Sgs.lst ((upd_ne pb).trans e7) (Sgs.snoc (Sgs.ex (Same.upd (Same.refl _) hb) (Sgs.ex s2 e3)) (g := (kk, wd, k)) upd_same)
          · rw [e5, d1, scanF_yes h1 hs, ← List.drop_drop, d1, List.append_assoc]; rfl
    · have z : l.drop k = [] := List.drop_eq_nil_of_le (Nat.le_of_not_lt fun c => hlt (decide_eq_true (by omega)))
      rw [z, scanF_nil, List.append_nil] at e5
      exact after o k H' xs e1 e2 (by rw [e5]; exact e3) (by rw [e5])
end
end K8
set_option Elab.async false
set_option linter.all false
set_option maxRecDepth 100000
set_option maxHeartbeats 2000000
namespace K8
open PySem PySem.Spec PyProof.Rows L2
section
variable {P : Program} {w : World} {K : PySem.W.Frag} {mg : Str → Option Value} {base : Heap} {f : Addr} {fd : FuncData} {CN fN CT fT : Addr}
theorem ok_signsOf (T : Txt P K mg CN fN CT fT) (cI : Cl P w K mg base CX0 4 "signs_in" ["string"] spSignsIn) (cN : Cl P w K mg base (L2.CX P w) 3 "need_string" ["string"] (spNeedString K CT))
    (F : Fun K "signs_of" "signs_of" sSignsOf f fd) : FnOk P w K mg base (L2.CX P w) 5 f fd ["string"] (spSignsOf K CT) := by
  refine F.okX scSignsOf (fun vs H Q E h => ?_) (fun cdv A outer s H vs Q E hr h => ?_)
  · obtain ⟨c, rfl, _⟩ := h; rfl
  · refine ⟨_, pss_cons (ps_asg (pe_cl cI hr (by decide) rfl pass0 (pa_cons (pe_cl cN hr (by decide) rfl (passes_call (takes_of rfl rfl rfl rfl) (fun _ _ _ _ z => z)) (pa_cons (pv 0) pa_nil)) pa_nil))
        (pg_tup (by rfl) (pgs_cons (pg_name (i := 1) scSignsOf.nd rfl (Or.inl rfl)) (pgs_cons (pg_name (i := 2) scSignsOf.nd rfl (Or.inl rfl)) pgs_nil))))
      (pss_cons (ps_if (pt_cmpR op_notN (pv 2) pe_non (by rfl)) (pss_one (ps_raiseSup rfl T.text hr (takes_of rfl rfl rfl rfl) (pa_cons (pv 2) pa_nil) rfl)) pss_nil)
      (pss_one (ps_ret (pe_tupleOf rfl T.nTup (pv 1))))), ?_⟩
    obtain ⟨x, rfl, ⟨z, rfl, hz, q1, q2, q3⟩ | ⟨t, ty, k, q⟩⟩ := h
    · dsimp only [L2.tSeq, L2.tIfS, L2.tOr, L2.tAnd, L2.tNot, L2.tB, L2.tTest, L2.tCB, L2.tCons, L2.tNil, L2.tVar, L2.tC, L2.tRet, L2.tNext, L2.tAsg, L2.gName, L2.tCall, L2.tOp, L2.tOrV, L2.tAndV, L2.tNotV, L2.tChain, L2.tIf, L2.tDrop, L2.tAug, L2.tYes, L2.tIfT, L2.tPar3, L2.tDisp, L2.tPairs, L2.tDGet, L2.sDPut, L2.tThen, L2.kTup, L2.gTup, L2.gCons, L2.gNil, L2.tPar, L2.tLst, L2.tBM, L2.tTup, L2.tSl, L2.tPart, L2.tNoPart, List.map, List.append_nil]
      refine ⟨_, rfl, _, rfl, .inl ⟨z, rfl, hz, fun hm => ⟨z, rfl, hz, fun H' t p xs e1 e2 e3 e4 => ?_⟩, q3⟩⟩
      refine ⟨t, _, rfl, SqT.of e4, rfl, _, _, rfl, _, _, rfl, rfl, ?_⟩
      cases hs : (scan z.length z 0).2 with
      | none =>
        refine ⟨_, rfl, rfl, _, rfl, iteF ⟨_, rfl, .inl ⟨p, xs, rfl, SqL.of e2, fun u hu => q1 hm hs _ u xs (e1.trans (Same.upd (Same.refl _) hu)) upd_same (Sgs.ex (Same.upd (Same.refl _) hu) e3)⟩⟩⟩
      | some i =>
        refine ⟨_, rfl, rfl, _, rfl, iteT ⟨_, rfl, _, rfl, fun d hd => q2 hm i hs H' d e1 hd⟩⟩
    · dsimp only [L2.tSeq, L2.tIfS, L2.tOr, L2.tAnd, L2.tNot, L2.tB, L2.tTest, L2.tCB, L2.tCons, L2.tNil, L2.tVar, L2.tC, L2.tRet, L2.tNext, L2.tAsg, L2.gName, L2.tCall, L2.tOp, L2.tOrV, L2.tAndV, L2.tNotV, L2.tChain, L2.tIf, L2.tDrop, L2.tAug, L2.tYes, L2.tIfT, L2.tPar3, L2.tDisp, L2.tPairs, L2.tDGet, L2.sDPut, L2.tThen, L2.kTup, L2.gTup, L2.gCons, L2.gNil, L2.tPar, L2.tLst, L2.tBM, L2.tTup, L2.tSl, L2.tPart, L2.tNoPart, List.map, List.append_nil]
      exact ⟨_, rfl, _, rfl, .inr ⟨t, ty, k, q⟩⟩
end
end K8
set_option Elab.async false
set_option linter.all false
set_option maxRecDepth 100000
set_option maxHeartbeats 2000000
namespace K8
open PySem PySem.Spec PyProof.Rows L2
abbrev sBegun : Stmt := top 26
abbrev sDraw : Stmt := top 27
abbrev sOf : Stmt := top 28
theorem scBegun : FnScope ["script", "turn", "cells", "great", "cell", "stir"] ["script", "turn"] (defScope sBegun) := ⟨rfl, rfl, rfl, by decide +kernel, rfl, by decide +kernel, by decide +kernel⟩
theorem scDraw : FnScope ["m", "span", "found", "spot", "cells", "cell", "blend"] ["m", "span"] (defScope sDraw) := ⟨rfl, rfl, rfl, by decide +kernel, rfl, by decide +kernel, by decide +kernel⟩
theorem scOf : FnScope ["m", "some"] ["m", "some"] (defScope sOf) := ⟨rfl, rfl, rfl, by decide +kernel, rfl, by decide +kernel, by decide +kernel⟩
section
variable {P : Program} {w : World} {K : PySem.W.Frag} {mg : Str → Option Value} {base : Heap} {f : Addr} {fd : FuncData}
theorem ok_of (nL : mg "len" = none) (cD : Cl P w K mg base CX0 1 "_law_draw" ["m", "span"] spDraw) (F : Fun K "_law_of" "_law_of" sOf f fd) : FnOk P w K mg base CX0 2 f fd ["m", "some"] (spOf K) := by
  refine F.ok scOf (fun vs H Q E h => ?_) (fun cdv A outer s H vs Q E hr h => ?_)
  · obtain ⟨m, c, n, p, xs, rfl, _⟩ := h; rfl
  · refine ⟨_, PSs.nox (pss_one (ps_ret (pe_ix ix_list (pv 1) (pe_cl cD hr (by decide) rfl pass0 (pa_cons (pv 0) (pa_cons (pe_callB call_len rfl nL (by decide +kernel) (pa_cons (pv 1) pa_nil)) pa_nil))) (fun _ _ => rfl)))), ?_⟩
    obtain ⟨m, c, n, p, xs, rfl, hs, hpm, hne, hl, hm, hn, q⟩ := h
    dsimp only [L2.tSeq, L2.tIfS, L2.tOr, L2.tAnd, L2.tNot, L2.tB, L2.tTest, L2.tCB, L2.tCons, L2.tNil, L2.tVar, L2.tC, L2.tRet, L2.tNext, L2.tAsg, L2.gName, L2.tCall, L2.tOp, L2.tOrV, L2.tAndV, L2.tNotV, L2.tChain, L2.tIf, L2.tDrop, L2.tAug, L2.tYes, L2.tIfT, L2.tPar3, L2.tDisp, L2.tPairs, L2.tDGet, L2.sDPut, L2.tThen, L2.kTup, L2.gTup, L2.gCons, L2.gNil, L2.tPar, L2.tLst, L2.tBM, L2.tTup, L2.tSl, L2.tPart, L2.tNoPart, List.map, List.append_nil]
    refine ⟨_, rfl, _, rfl, _, rfl, _, _, rfl, .inl ⟨xs, hs, rfl⟩, m, c, n, xs.length, rfl, hm, hn, List.length_pos_iff.mpr hne, Nat.lt_trans hl (by decide), fun r H' h1 h2 h3 => ?_⟩
    refine ⟨p, xs, r, xs[r], rfl, rfl, ?_, ?_, q _ _ (List.getElem_mem h1) h2 h3⟩
    · rcases hs with (hs | ⟨o, hs⟩) | hs
      · exact .inl (.inl ((h3 p hpm).trans hs))
      · exact .inl (.inr ⟨o, (h3 p hpm).trans hs⟩)
      · exact .inr hs
    · exact (atI_nat (List.getElem?_eq_getElem h1))
theorem ok_draw (nL : mg "len" = none) (nI : mg "int" = none) (F : Fun K "_law_draw" "_law_draw" sDraw f fd) : FnOk P w K mg base CX0 1 f fd ["m", "span"] spDraw := by
  refine F.ok scDraw (fun vs H Q E h => ?_) (fun cdv A outer s H vs Q E hr h => ?_)
  · obtain ⟨m, c, n, sp, rfl, _⟩ := h; rfl
  · have hu := hu_of hr
    refine ⟨_, PSs.nox (pss_cons (ps_if (pt_cmpR op_gt (pe_dget hu (pv 0) pe_str (fun _ _ => rfl)) pe_int (by rfl))
        (pss_cons (ps_set (i := 2) scDraw.nd rfl (Or.inl rfl) (pe_op op_mod (pe_callTy call_int1 rfl nI (by decide +kernel) (pa_cons (pe_dget hu (pv 0) pe_str (fun _ _ => rfl)) pa_nil)) (pv 1)))
        (pss_cons (ps_dput hu (pv 0) pe_str (pe_op op_fdiv (pe_dget hu (pv 0) pe_str (fun _ _ => rfl)) (pv 1)) (by rfl))
        (pss_one (ps_ret (pv 2))))) pss_nil)
      (pss_cons (ps_set (i := 3) scDraw.nd rfl (Or.inl rfl) (pe_dget hu (pv 0) pe_str (fun _ _ => rfl)))
      (pss_cons (ps_dput hu (pv 0) pe_str (pe_op op_add (pv 3) pe_int) (by rfl))
      (pss_cons (ps_set (i := 4) scDraw.nd rfl (Or.inl rfl) (pe_dget hu (pv 0) pe_str (fun _ _ => rfl)))
      (pss_cons (ps_set (i := 5) scDraw.nd rfl (Or.inl rfl) (pe_ix ix_list (pv 4) (pe_op op_mod (pe_callTy call_int1 rfl nI (by decide +kernel) (pa_cons (pv 3) pa_nil)) (pe_callB call_len rfl nL (by decide +kernel) (pa_cons (pv 4) pa_nil))) (fun _ _ => rfl)))
      (pss_cons (ps_set (i := 6) scDraw.nd rfl (Or.inl rfl) (pe_op op_mod (pe_callTy call_int1 rfl nI (by decide +kernel) (pa_cons (pe_op op_add (pe_op op_add (pe_op op_mul (pv 5) (pe_op op_add (pe_op op_mul pe_int (pv 3)) pe_int)) (pe_dget hu (pv 0) pe_str (fun _ _ => rfl))) (pe_op op_mul (pe_op op_mul pe_int (pv 3)) (pv 3))) pa_nil)) pe_int))
      (pss_cons (ps_set (i := 6) scDraw.nd rfl (Or.inl rfl) (pe_op op_mod (pe_callTy call_int1 rfl nI (by decide +kernel) (pa_cons (pe_op op_add (pe_op op_add (pe_op op_mul (pv 6) (pv 6)) (pe_op op_mul pe_int (pv 3))) (pe_dget hu (pv 0) pe_str (fun _ _ => rfl))) pa_nil)) pe_int))
      (pss_one (ps_ret (pe_op op_mod (pe_op op_fdiv (pe_op op_mod (pe_callTy call_int1 rfl nI (by decide +kernel) (pa_cons (pe_op op_add (pe_op op_mul (pv 6) pe_int) (pv 3)) pa_nil)) pe_int) pe_int) (pv 1))))))))))), ?_⟩
    obtain ⟨m, c, n, span, rfl, ⟨L, S, cells, spot, hm, hc, hne, hcl, hsp⟩, hn, hs0, hs1, q⟩ := h
    dsimp only [L2.tSeq, L2.tIfS, L2.tOr, L2.tAnd, L2.tNot, L2.tB, L2.tTest, L2.tCB, L2.tCons, L2.tNil, L2.tVar, L2.tC, L2.tRet, L2.tNext, L2.tAsg, L2.gName, L2.tCall, L2.tOp, L2.tOrV, L2.tAndV, L2.tNotV, L2.tChain, L2.tIf, L2.tDrop, L2.tAug, L2.tYes, L2.tIfT, L2.tPar3, L2.tDisp, L2.tPairs, L2.tDGet, L2.sDPut, L2.tThen, L2.kTup, L2.gTup, L2.gCons, L2.gNil, L2.tPar, L2.tLst, L2.tBM, L2.tTup, L2.tSl, L2.tPart, L2.tNoPart, List.map, List.append_nil]
    have cm : c ≠ m := fun z => by rw [z, hm] at hc; cases hc
    refine ⟨_, rfl, m, _, rfl, mk_left hm, _, _, rfl, rfl, _, rfl, ite2 (fun h1 => ?_) (fun h1 => ?_)⟩
    · refine ⟨_, rfl, m, _, rfl, mk_left hm, .inl ⟨_, rfl, _, rfl, _, _, rfl, rfl, (by omega : (0 : Int) < span), ?_⟩⟩
      dsimp only [L2.tSeq, L2.tIfS, L2.tOr, L2.tAnd, L2.tNot, L2.tB, L2.tTest, L2.tCB, L2.tCons, L2.tNil, L2.tVar, L2.tC, L2.tRet, L2.tNext, L2.tAsg, L2.gName, L2.tCall, L2.tOp, L2.tOrV, L2.tAndV, L2.tNotV, L2.tChain, L2.tIf, L2.tDrop, L2.tAug, L2.tYes, L2.tIfT, L2.tPar3, L2.tDisp, L2.tPairs, L2.tDGet, L2.sDPut, L2.tThen, L2.kTup, L2.gTup, L2.gCons, L2.gNil, L2.tPar, L2.tLst, L2.tBM, L2.tTup, L2.tSl, L2.tPart, L2.tNoPart, List.map, List.append_nil]
      refine ⟨_, rfl, m, _, rfl, mk_left hm, _, rfl, _, _, rfl, rfl, ⟨by omega, by omega⟩, _, rfl, m, _, rfl, put_left hm, _, rfl, ?_⟩
      have e : L % (span : Int) = ((L % (span : Int)).toNat : Int) := (Int.toNat_of_nonneg (Int.emod_nonneg _ (by omega))).symm
      have l : (L % (span : Int)).toNat < span := by
        have := Int.emod_lt_of_pos L (show (0 : Int) < span by omega)
        omega
      rw [e]
      exact q _ _ l ⟨_, S, cells, spot, upd_same, (upd_ne cm).trans hc, hne, hcl, by omega⟩ (fun b hb => upd_ne hb)
    · refine ⟨_, rfl, m, _, rfl, mk_spot hm, _, rfl, _, _, rfl, rfl, _, rfl, m, _, rfl, put_spot hm, _, rfl, m, _, rfl, mk_cells (upd_same (o := .dK (mKvs L S c ((spot : Int) + 1)))), ?_⟩
      have hm2 : upd H m (.dK (mKvs L S c ((spot : Int) + 1))) m = some (.dK (mKvs L S c ((spot : Int) + 1))) := upd_same
      have hc2 : upd H m (.dK (mKvs L S c ((spot : Int) + 1))) c = some (.lst (cells.map V.int)) := (upd_ne cm).trans hc
      have hcp : 0 < cells.length := List.length_pos_iff.mpr hne
      have gi : cells[spot % cells.length]? = some (cells[spot % cells.length]'(Nat.mod_lt _ hcp)) := List.getElem?_eq_getElem _
      have ai : atI (cells.map V.int) ((spot : Int) % ((cells.map V.int).length : Int)) = some (.int (cells[spot % cells.length]'(Nat.mod_lt _ hcp))) := by
        rw [List.length_map, ← Int.natCast_emod]
        exact atI_nat (by rw [List.getElem?_map, gi]; rfl)
      generalize cells[spot % cells.length]'(Nat.mod_lt _ hcp) = cell at ai
      have fin : ∀ B3 : Int, Q (.int (B3 % (span : Int))) (upd H m (.dK (mKvs L S c ((spot : Int) + 1)))) := fun B3 => by
        have e : B3 % (span : Int) = ((B3 % (span : Int)).toNat : Int) := (Int.toNat_of_nonneg (Int.emod_nonneg _ (by omega))).symm
        have l : (B3 % (span : Int)).toNat < span := by
          have := Int.emod_lt_of_pos B3 (show (0 : Int) < span by omega)
          omega
        rw [e]
        exact q _ _ l ⟨L, S, cells, spot + 1, upd_same, hc2, hne, hcl, by omega⟩ (fun b hb => upd_ne hb)
      have sp64 : (spot : Int) < 2 ^ 33 := by omega
      refine ⟨_, rfl, _, rfl, .inl ⟨_, rfl, _, rfl, _, _, rfl, .inl ⟨_, SqL.of hc2, rfl⟩, _, _, rfl, rfl, (by rw [List.length_map]; omega), c, _, _, .int cell, rfl, rfl, SqL.of hc2, ai, ?_⟩⟩
      refine ⟨_, rfl, _, rfl, _, _, rfl, rfl, .inl (by constructor <;> decide), _, _, rfl, rfl, _, _, rfl, rfl, .inr (by constructor <;> omega), _, rfl, m, _, rfl, mk_stir hm2, _, _, rfl, rfl, _, rfl, _, _, rfl, rfl, .inl (by constructor <;> decide), _, rfl, _, _, rfl, rfl, .inr (by constructor <;> omega), _, _, rfl, rfl, .inl ⟨_, rfl, _, _, rfl, rfl, (show (0 : Int) < 2147483563 by decide), ?_⟩⟩
      have b0 := Int.emod_nonneg (cell * (2 * (spot : Int) + 5) + S + 30011 * spot * spot) (show (2147483563 : Int) ≠ 0 by decide)
      have b1 := Int.emod_lt_of_pos (cell * (2 * (spot : Int) + 5) + S + 30011 * spot * spot) (show (0 : Int) < 2147483563 by decide)
      refine ⟨_, rfl, _, rfl, _, _, rfl, rfl, .inl (by constructor <;> omega), _, rfl, _, _, rfl, rfl, .inl (by constructor <;> decide), _, _, rfl, rfl, _, rfl, m, _, rfl, mk_stir hm2, _, _, rfl, rfl, .inl ⟨_, rfl, _, _, rfl, rfl, (show (0 : Int) < 2147483399 by decide), ?_⟩⟩
      refine ⟨_, rfl, _, _, rfl, rfl, .inr (by constructor <;> decide), _, rfl, _, _, rfl, rfl, .inl ⟨_, rfl, _, _, rfl, rfl, (show (0 : Int) < 2147483563 by decide), _, _, rfl, rfl, (by constructor <;> decide), _, rfl, _, _, rfl, rfl, (by omega : (0 : Int) < span), ?_⟩⟩
      exact fin _
end
end K8
set_option Elab.async false
set_option linter.all false
set_option maxRecDepth 100000
set_option maxHeartbeats 2000000
namespace K8
open PySem PySem.Spec PyProof.Rows L2
theorem cut_from (zs : List V) (t : Nat) : cutV zs (some (t : Int)) none = zs.drop t := by
  unfold cutV
  rw [HT.sIx_nat, HT.sIx_none]
  by_cases h : t ≤ zs.length
  · rw [Nat.min_eq_left h, List.take_of_length_le (by rw [List.length_drop]; exact Nat.le_refl _)]
  · rw [Nat.min_eq_right (by omega), List.drop_length, List.drop_eq_nil_of_le (by omega)]; simp
theorem cut_to (zs : List V) (t : Nat) : cutV zs none (some (t : Int)) = zs.take t := by
  unfold cutV
  rw [HT.sIx_nat, HT.sIx_none, List.drop_zero, Nat.sub_zero]
  by_cases h : t ≤ zs.length
  · rw [Nat.min_eq_left h]
  · rw [Nat.min_eq_right (by omega), List.take_of_length_le (by omega), List.take_of_length_le (by omega)]
section
variable {P : Program} {w : World} {K : PySem.W.Frag} {mg : Str → Option Value} {base : Heap} {f : Addr} {fd : FuncData}
theorem ok_begun (nL : mg "len" = none) (nI : mg "int" = none) (F : Fun K "_law_begun" "_law_begun" sBegun f fd) : FnOk P w K mg base CX0 1 f fd ["script", "turn"] (spBegun K) := by
  refine F.ok scBegun (fun vs H Q E h => ?_) (fun cdv A outer s H vs Q E hr h => ?_)
  · obtain ⟨p, zs, t, rfl, _⟩ := h; rfl
  · have hu := hu_of hr
    refine ⟨_, PSs.nox (pss_cons (ps_set (i := 2) scBegun.nd rfl (Or.inl rfl) (pe_op op_cat (pe_slice sl_list (pv 0) (po_some (pv 1)) po_none) (pe_slice sl_list (pv 0) po_none (po_some (pv 1)))))
      (pss_cons (ps_setLc (i := 3) (own := [("cell", 4)]) (g := gName 4) (by rfl) scBegun.nd rfl rfl (sw_true rfl rfl rfl (by decide +kernel)) (pi_list (pv 0)) (blkOk_by (N := ["script", "turn", "cells", "great", "cell", "stir"]) (sc := defScope sBegun) (by decide +kernel))
          (fun _ _ _ _ _ => pg_name (i := 4) scBegun.nd rfl (Or.inl rfl)) (fun _ _ _ _ _ => pts_one (pt_cmpR op_ge (pv 4) (pe_op op_pow pe_int pe_int) (by rfl))) (fun _ _ _ _ _ => pv 4))
      (pss_cons (ps_set (i := 5) scBegun.nd rfl (Or.inl rfl) (pe_op op_add pe_int (pe_op op_mul pe_int (pv 1))))
      (pss_cons (ps_for PassesOwn.never rfl (pi_list (pv 2)) (pg_name (i := 4) scBegun.nd rfl (Or.inl rfl)) (pss_one (ps_set (i := 5) scBegun.nd rfl (Or.inl rfl)
          (pe_op op_mod (pe_callTy call_int1 rfl nI (by decide +kernel) (pa_cons (pe_op op_add (pe_op op_mul (pv 5) pe_int) (pv 4)) pa_nil)) pe_int))))
      (pss_one (ps_ret (pe_disp (pps_cons pe_str (pe_ifExp (pt_cmpR op_lt (pv 1) (pe_callB call_len rfl nL (by decide +kernel) (pa_cons (pv 3) pa_nil)) (by rfl)) (pe_ix ix_list (pv 3) (pv 1) (fun _ _ => rfl)) pe_int) (pps_cons pe_str (pv 5)
        (pps_cons pe_str (pe_op op_cat (pv 2) (pe_lst (pa_cons (pe_op op_add (pe_op op_mul pe_int (pv 1)) pe_int) pa_nil))) (pps_cons pe_str pe_int pps_nil)))) (by rfl) (by rfl) (fun z => by cases z) (by decide)))))))), ?_⟩
    obtain ⟨p, zs, t, rfl, hs, hl, ht, q⟩ := h
    dsimp only [L2.tSeq, L2.tIfS, L2.tOr, L2.tAnd, L2.tNot, L2.tB, L2.tTest, L2.tCB, L2.tCons, L2.tNil, L2.tVar, L2.tC, L2.tRet, L2.tNext, L2.tAsg, L2.gName, L2.tCall, L2.tOp, L2.tOrV, L2.tAndV, L2.tNotV, L2.tChain, L2.tIf, L2.tDrop, L2.tAug, L2.tYes, L2.tIfT, L2.tPar3, L2.tDisp, L2.tPairs, L2.tDGet, L2.sDPut, L2.tThen, L2.kTup, L2.gTup, L2.gCons, L2.gNil, L2.tPar, L2.tLst, L2.tBM, L2.tTup, L2.tSl, L2.tPart, L2.tNoPart, List.map, List.append_nil]
    refine ⟨_, rfl, _, rfl, _, rfl, p, _, rfl, hs, fun a ha => ?_⟩
    rw [cut_from]
    have s1 : Same H (upd H a (.lst ((zs.map V.int).drop t))) := same_upd (Same.refl H) ha
    refine ⟨_, rfl, _, rfl, _, rfl, p, _, rfl, s1.seq hs, fun b hb => ?_⟩
    rw [cut_to]
    have s2 := s1.trans (same_upd (o := .lst ((zs.map V.int).take t)) (Same.refl _) hb)
    have ab : a ≠ b := fun z => by rw [z, upd_same] at hb; cases hb
    have l1 : ((zs.map V.int).drop t).length + ((zs.map V.int).take t).length = zs.length := by rw [List.length_drop, List.length_take, List.length_map]; omega
    refine ⟨a, b, _, _, rfl, rfl, (upd_ne ab).trans upd_same, upd_same, Nat.le_trans (Nat.le_of_eq l1) (Nat.le_trans hl (by decide)), fun c hc => ?_⟩
    have s3 := s2.trans (same_upd (o := .lst ((zs.map V.int).drop t ++ (zs.map V.int).take t)) (Same.refl _) hc)
    have ec : (zs.map V.int).drop t ++ (zs.map V.int).take t = (zs.drop t ++ zs.take t).map V.int := by rw [List.map_append, List.map_drop, List.map_take]
    rw [ec] at s3 ⊢
    have hc3 : upd (upd (upd H a (.lst ((zs.map V.int).drop t))) b (.lst ((zs.map V.int).take t))) c (.lst ((zs.drop t ++ zs.take t).map V.int)) c = some (.lst ((zs.drop t ++ zs.take t).map V.int)) := upd_same
    have l2 : (zs.drop t ++ zs.take t).length = zs.length := by rw [List.length_append, List.length_drop, List.length_take]; omega
    generalize upd (upd (upd H a (.lst ((zs.map V.int).drop t))) b (.lst ((zs.map V.int).take t))) c (.lst ((zs.drop t ++ zs.take t).map V.int)) = H3 at s3 hc3 ⊢
    generalize zs.drop t ++ zs.take t = cs at hc3 l2
    refine ⟨_, rfl, p, rfl, ⟨_, s3.seq hs⟩, fun D hD => lc_list (xs := zs.map V.int) (fun i H' => ∃ acc : List Int, H' D = some (.lst (acc.map V.int)) ∧ acc.length ≤ i ∧ Same H3 H') ⟨[], upd_same, Nat.le_refl _, same_upd (Same.refl _) hD⟩
      (fun i H' hi hP => by obtain ⟨acc, e1, e2, e3⟩ := hP; exact (s3.trans e3).seq hs) (fun i x H' hx hP => ?_) (fun H4 hP => ?_)⟩
    · obtain ⟨acc, e1, e2, e3⟩ := hP
      rw [List.getElem?_map] at hx
      obtain ⟨z, hz, rfl⟩ := Option.map_eq_some_iff.mp hx
      have hi : i < zs.length := (List.getElem?_eq_some_iff.mp hz).1
      refine ⟨rfl, ?_⟩
      dsimp only [L2.tSeq, L2.tIfS, L2.tOr, L2.tAnd, L2.tNot, L2.tB, L2.tTest, L2.tCB, L2.tCons, L2.tNil, L2.tVar, L2.tC, L2.tRet, L2.tNext, L2.tAsg, L2.gName, L2.tCall, L2.tOp, L2.tOrV, L2.tAndV, L2.tNotV, L2.tChain, L2.tIf, L2.tDrop, L2.tAug, L2.tYes, L2.tIfT, L2.tPar3, L2.tDisp, L2.tPairs, L2.tDGet, L2.sDPut, L2.tThen, L2.kTup, L2.gTup, L2.gCons, L2.gNil, L2.tPar, L2.tLst, L2.tBM, L2.tTup, L2.tSl, L2.tPart, L2.tNoPart, List.map, List.append_nil]
      refine ⟨_, rfl, _, _, rfl, rfl, (by refine ⟨by decide, by decide, by decide⟩), _, _, rfl, rfl, _, rfl, ite2 (fun h => ⟨_, rfl, acc.map V.int, e1, ?_, acc ++ [z], ?_, ?_, same_upd e3 hD⟩) (fun h => ⟨acc, e1, Nat.le_succ_of_le e2, e3⟩)⟩
      · rw [List.length_map]; exact Nat.lt_of_le_of_lt e2 (Nat.lt_of_lt_of_le hi (Nat.le_trans hl (by decide)))
      · rw [List.map_append]; exact upd_same
      · rw [List.length_append]; simp only [List.length_singleton]; omega
    · obtain ⟨great, e1, e2, e3⟩ := hP
      have hc4 : H4 c = some (.lst (cs.map V.int)) := e3 _ _ hc3
      have hcD : c ≠ D := fun z => by rw [z, hD] at hc3; cases hc3
      refine ⟨_, rfl, _, _, rfl, rfl, .inl (by constructor <;> decide), _, _, rfl, rfl, _, rfl, c, rfl, ⟨_, SqL.of hc4⟩, for_list (xs := cs.map V.int) (fun i σ H' => H' = H4 ∧ ∃ (o : Option V) (S : Int), σ = [some (.ref p), some (.int (t : Int)), some (.ref c), some (.ref D), o, some (.int S)])
        ⟨rfl, none, _, rfl⟩ (fun i σ H' hi hP => by obtain ⟨rfl, _⟩ := hP; exact SqL.of hc4) (fun i x σ H' hx hP => ?_) (fun σ H' hP => ?_)⟩
      · obtain ⟨rfl, o, S, rfl⟩ := hP
        rw [List.getElem?_map] at hx
        obtain ⟨z, hz, rfl⟩ := Option.map_eq_some_iff.mp hx
        dsimp only [L2.tSeq, L2.tIfS, L2.tOr, L2.tAnd, L2.tNot, L2.tB, L2.tTest, L2.tCB, L2.tCons, L2.tNil, L2.tVar, L2.tC, L2.tRet, L2.tNext, L2.tAsg, L2.gName, L2.tCall, L2.tOp, L2.tOrV, L2.tAndV, L2.tNotV, L2.tChain, L2.tIf, L2.tDrop, L2.tAug, L2.tYes, L2.tIfT, L2.tPar3, L2.tDisp, L2.tPairs, L2.tDGet, L2.sDPut, L2.tThen, L2.kTup, L2.gTup, L2.gCons, L2.gNil, L2.tPar, L2.tLst, L2.tBM, L2.tTup, L2.tSl, L2.tPart, L2.tNoPart, List.map, List.append_nil]
        exact ⟨_, rfl, _, _, rfl, rfl, .inr (by constructor <;> decide), _, rfl, _, _, rfl, rfl, .inl ⟨_, rfl, _, _, rfl, rfl, (show (0 : Int) < 2147483563 by decide), rfl, _, _, rfl⟩⟩
      · obtain ⟨rfl, o, S, rfl⟩ := hP
        dsimp only [L2.tSeq, L2.tIfS, L2.tOr, L2.tAnd, L2.tNot, L2.tB, L2.tTest, L2.tCB, L2.tCons, L2.tNil, L2.tVar, L2.tC, L2.tRet, L2.tNext, L2.tAsg, L2.gName, L2.tCall, L2.tOp, L2.tOrV, L2.tAndV, L2.tNotV, L2.tChain, L2.tIf, L2.tDrop, L2.tAug, L2.tYes, L2.tIfT, L2.tPar3, L2.tDisp, L2.tPairs, L2.tDGet, L2.sDPut, L2.tThen, L2.kTup, L2.gTup, L2.gCons, L2.gNil, L2.tPar, L2.tLst, L2.tBM, L2.tTup, L2.tSl, L2.tPart, L2.tNoPart, List.map, List.append_nil]
        refine fun m hm => ?_
        have mc : c ≠ m := fun z => by rw [z, hm] at hc4; cases hc4
        have mD : D ≠ m := fun z => by rw [z, hm] at e1; cases e1
        have s4 : Same H H' := s3.trans e3
        have s5 := s4.trans (same_upd (o := .dK []) (Same.refl _) hm)
        have key : ∀ L : Int, tPairs [(tC (V.str (Str.ofString "stir")), tVar 5), (tC (V.str (Str.ofString "cells")), tOp rCat (tVar 2) (tLst (tCons (tOp (rI0 fun i j => V.int (i + j)) (tOp (rI CMul fun i j => V.int (i * j)) (tC (V.int 29)) (tVar 1)) (tC (V.int 11))) tNil))), (tC (V.str (Str.ofString "spot")), tC (V.int 0))]
            [some (.ref p), some (.int (t : Int)), some (.ref c), some (.ref D), o, some (.int S)] (upd H' m (.dK [])) fun ps H2 => H2 m = some (.dK []) ∧ ∃ kvs : List (Key × V), (V.str (Str.ofString "left"), V.int L) :: ps = kvs.map (fun kv => (kV kv.1, kv.2)) ∧ kvs.length ≤ 15 ∧ Q (.ref m) (upd H2 m (.dK (mergeK [] kvs))) := by
          intro L
          dsimp only [L2.tSeq, L2.tIfS, L2.tOr, L2.tAnd, L2.tNot, L2.tB, L2.tTest, L2.tCB, L2.tCons, L2.tNil, L2.tVar, L2.tC, L2.tRet, L2.tNext, L2.tAsg, L2.gName, L2.tCall, L2.tOp, L2.tOrV, L2.tAndV, L2.tNotV, L2.tChain, L2.tIf, L2.tDrop, L2.tAug, L2.tYes, L2.tIfT, L2.tPar3, L2.tDisp, L2.tPairs, L2.tDGet, L2.sDPut, L2.tThen, L2.kTup, L2.gTup, L2.gCons, L2.gNil, L2.tPar, L2.tLst, L2.tBM, L2.tTup, L2.tSl, L2.tPart, L2.tNoPart, List.map, List.append_nil]
          refine ⟨_, rfl, _, rfl, _, rfl, _, _, rfl, rfl, .inl (by constructor <;> decide), _, _, rfl, rfl, (show 1 ≤ sizeLine by decide), fun b2 hb2 => ?_⟩
          have m1 : m ≠ b2 := fun z => by rw [z] at hb2; rw [← z, upd_same] at hb2; cases hb2
          have cb : c ≠ b2 := fun z => by
            have z2 : upd H' m (.dK []) c = some (.lst (cs.map V.int)) := (upd_ne mc).trans hc4
            rw [z, hb2] at z2; cases z2
          have h0 : H m = none := s4.free hm
          refine ⟨c, b2, _, _, rfl, rfl, (upd_ne cb).trans ((upd_ne mc).trans hc4), upd_same, ?_, fun c2 hc2 => ?_⟩
          · rw [List.length_map]; show cs.length + 1 ≤ _; rw [l2]; exact Nat.le_trans (Nat.succ_le_succ hl) (by decide)
          have m2 : m ≠ c2 := fun z => by rw [← z, upd_ne m1, upd_same] at hc2; cases hc2
          refine ⟨(upd_ne m2).trans ((upd_ne m1).trans upd_same), [(.inr "left", .int L), (.inr "stir", .int S), (.inr "cells", .ref c2), (.inr "spot", .int 0)], rfl, (show 4 ≤ 15 by decide), q m c2 _ h0 (((same_upd s5 (s5.free hb2))).free hc2) ⟨L, S, cs ++ [29 * (t : Int) + 11], 0, upd_same, ?_, by simp, ?_, Nat.le_refl _⟩ ?_⟩
          · rw [upd_ne (Ne.symm m2), upd_same, List.map_append]; rfl
          · rw [List.length_append, l2]; simp only [List.length_singleton]; omega
          · exact same_upd (same_upd (same_upd s5 (s5.free hb2)) ((same_upd s5 (s5.free hb2)).free hc2)) h0
        refine ⟨_, rfl, _, rfl, _, _, rfl, .inl ⟨_, SqL.of ((upd_ne mD).trans e1), rfl⟩, _, _, rfl, rfl, _, rfl, ite2 (fun h => ?_) (fun h => key 0)⟩
        have h : t < great.length := by
          have := of_decide_eq_true h
          rw [List.length_map] at this
          omega
        exact ⟨_, rfl, _, rfl, D, _, _, .int great[t], rfl, rfl, SqL.of ((upd_ne mD).trans e1), atI_nat (by rw [List.getElem?_map, List.getElem?_eq_getElem h]; rfl), key _⟩
end
end K8
set_option Elab.async false
set_option linter.all false
set_option maxRecDepth 100000
set_option maxHeartbeats 2000000
namespace K8
open PySem PySem.Spec PyProof.Rows L2
abbrev sSign : Stmt := top 31
theorem scSign : FnScope ["m", "pick", "digits", "letters"] ["m"] (defScope sSign) := ⟨rfl, rfl, rfl, by decide +kernel, rfl, by decide +kernel, by decide +kernel⟩
/-- what is a sign of its sort -/
def Good (k : Str) (wd : List Nat) : Prop := (k = S' "line" ∧ wd = [10]) ∨ (k = S' "number" ∧ wd ≠ [] ∧ wd.all isD = true ∧ runOk wd = true ∧ wd.length ≤ 100) ∨ (k = S' "word" ∧ wd ≠ [] ∧ wd.all isL = true ∧ wd.length ≤ 16) ∨ (k = S' "mark" ∧ ((∃ c, c ∈ marks ∧ wd = [c]) ∨ wd = [60, 61]))
def spSign : Sp := fun vs H Q _ => ∃ (m c : Addr) (n : Nat), vs = [.ref m] ∧ MSt H m c n ∧ n < 2 ^ 31 ∧
  ∀ t k wd H', H' t = some (.tup [.str k, .str (tx wd)]) → Good k wd → MSt H' m c (n + 6) → But m H H' → Q (.ref t) H'
theorem flat_one (n c : Nat) : (List.replicate n [c]).flatten = List.replicate n c := by
  induction n with
  | zero => rfl
  | succ n ih => rw [List.replicate_succ, List.flatten_cons, ih]; rfl
theorem good_num (a b d : Nat) (ha : a < 9) (hb : b < 10) (h1 : 1 ≤ d) (h2 : d ≤ 100) : Good (S' "number") ([49 + a] ++ (List.replicate (d - 1) [48 + b]).flatten) := by
  rw [flat_one]
  have e1 : isD (49 + a) = true := by unfold isD; rw [Bool.and_eq_true]; exact ⟨decide_eq_true (by omega), decide_eq_true (by omega)⟩
  have e2 : isD (48 + b) = true := by unfold isD; rw [Bool.and_eq_true]; exact ⟨decide_eq_true (by omega), decide_eq_true (by omega)⟩
  have l : ([49 + a] ++ List.replicate (d - 1) (48 + b)).length ≤ 100 := by rw [List.length_append, List.length_replicate]; simp only [List.length_singleton]; omega
  refine .inr (.inl ⟨rfl, by simp, ?_, ?_, l⟩)
  · rw [List.all_append, List.all_replicate]
    simp [e1, e2]
  · show (if isD (49 + a) then _ else _) = true
    rw [if_pos e1]
    rw [Bool.and_eq_true, Bool.or_eq_true]
    exact ⟨decide_eq_true l, .inl (by rw [decide_eq_false (by omega)]; rfl)⟩
theorem good_word (a c d : Nat) (ha : a < 26) (hc : isL c = true) (h1 : 1 ≤ d) (h2 : d ≤ 16) : Good (S' "word") ((List.replicate (d - 1) [97 + a]).flatten ++ [c]) := by
  rw [flat_one]
  have e1 : isL (97 + a) = true := by unfold isL; rw [Bool.and_eq_true]; exact ⟨decide_eq_true (by omega), decide_eq_true (by omega)⟩
  refine .inr (.inr (.inl ⟨rfl, by simp, ?_, ?_⟩))
  · rw [List.all_append, List.all_replicate, e1]
    simp [hc]
  · rw [List.length_append, List.length_replicate]; simp only [List.length_singleton]; omega
theorem dig_str (a : Nat) (h : a < 9) : Str.ofString (toString (1 + (a : Int))) = tx [49 + a] := by
  match a, h with
  | 0, _ => rfl | 1, _ => rfl | 2, _ => rfl | 3, _ => rfl | 4, _ => rfl | 5, _ => rfl | 6, _ => rfl | 7, _ => rfl | 8, _ => rfl
theorem dig_at (b : Nat) (h : b < 10) : atI (Str.ofString "0123456789").cps.toList (b : Int) = some (48 + b) := by
  match b, h with
  | 0, _ => rfl | 1, _ => rfl | 2, _ => rfl | 3, _ => rfl | 4, _ => rfl | 5, _ => rfl | 6, _ => rfl | 7, _ => rfl | 8, _ => rfl | 9, _ => rfl
theorem let_at (b : Nat) (h : b < 26) : atI (Str.ofString "abcdefghijklmnopqrstuvwxyz").cps.toList (b : Int) = some (97 + b) := by
  exact (by decide : ∀ b : Nat, b < 26 → atI (Str.ofString "abcdefghijklmnopqrstuvwxyz").cps.toList (b : Int) = some (97 + b)) b h
section
variable {P : Program} {w : World} {K : PySem.W.Frag} {mg : Str → Option Value} {base : Heap} {f : Addr} {fd : FuncData}
theorem ok_sign (nStr : mg "str" = none) (cD : Cl P w K mg base CX0 1 "_law_draw" ["m", "span"] spDraw) (cO : Cl P w K mg base CX0 2 "_law_of" ["m", "some"] (spOf K)) (F : Fun K "_law_sign" "_law_sign" sSign f fd) : FnOk P w K mg base CX0 3 f fd ["m"] spSign := by
  refine F.ok scSign (fun vs H Q E h => ?_) (fun cdv A outer s H vs Q E hr h => ?_)
  · obtain ⟨m, c, n, rfl, _⟩ := h; rfl
  · refine ⟨_, PSs.nox (pss_cons (ps_set (i := 1) scSign.nd rfl (Or.inl rfl) (pe_cl cD hr (by decide) rfl pass0 (pa_cons (pv 0) (pa_cons pe_int pa_nil))))
      (pss_cons (ps_if (pt_cmpR op_eq (pv 1) pe_int (by rfl)) (pss_one (ps_ret (pe_tup (pa_cons pe_str (pa_cons pe_str pa_nil))))) pss_nil)
      (pss_cons (ps_if (pt_cmpR op_eq (pv 1) pe_int (by rfl)) (pss_cons (ps_set (i := 2) scSign.nd rfl (Or.inl rfl) (pe_cl cO hr (by decide) rfl pass0 (pa_cons (pv 0) (pa_cons (pe_lst (pa_cons pe_int (pa_cons pe_int (pa_cons pe_int (pa_cons pe_int (pa_cons pe_int (pa_cons pe_int pa_nil))))))) pa_nil))))
          (pss_one (ps_ret (pe_tup (pa_cons pe_str (pa_cons (pe_ifExp (PW.pt (pw_and (pt_cmpR op_eq (pv 2) pe_int (by rfl)) (pw_and1 (pt_cmpR op_eq (pe_cl cD hr (by decide) rfl pass0 (pa_cons (pv 0) (pa_cons pe_int pa_nil))) pe_int (by rfl))))) pe_str
            (pe_op op_add_str (pe_callTy call_str_int rfl nStr (by decide +kernel) (pa_cons (pe_op op_add pe_int (pe_cl cD hr (by decide) rfl pass0 (pa_cons (pv 0) (pa_cons pe_int pa_nil)))) pa_nil))
              (pe_op op_repS (pe_ix ix_str pe_str (pe_cl cD hr (by decide) rfl pass0 (pa_cons (pv 0) (pa_cons pe_int pa_nil))) (fun _ _ => rfl)) (pe_op op_sub (pv 2) pe_int)))) pa_nil)))))) pss_nil)
      (pss_cons (ps_if (pt_cmpR op_eq (pv 1) pe_int (by rfl)) (pss_cons (ps_set (i := 3) scSign.nd rfl (Or.inl rfl) (pe_cl cO hr (by decide) rfl pass0 (pa_cons (pv 0) (pa_cons (pe_lst (pa_cons pe_int (pa_cons pe_int (pa_cons pe_int (pa_cons pe_int (pa_cons pe_int pa_nil)))))) pa_nil))))
          (pss_one (ps_ret (pe_tup (pa_cons pe_str (pa_cons (pe_op op_add_str (pe_op op_repS (pe_ix ix_str pe_str (pe_cl cD hr (by decide) rfl pass0 (pa_cons (pv 0) (pa_cons pe_int pa_nil))) (fun _ _ => rfl)) (pe_op op_sub (pv 3) pe_int))
            (pe_cl cO hr (by decide) rfl pass0 (pa_cons (pv 0) (pa_cons (pe_lst (pa_cons pe_str (pa_cons pe_str (pa_cons pe_str pa_nil)))) pa_nil)))) pa_nil)))))) pss_nil)
      (pss_cons (ps_if (pt_cmpR op_eq (pv 1) pe_int (by rfl)) (pss_one (ps_ret (pe_tup (pa_cons pe_str (pa_cons (pe_cl cO hr (by decide) rfl pass0 (pa_cons (pv 0) (pa_cons (pe_lst (pa_cons pe_str (pa_cons pe_str (pa_cons pe_str (pa_cons pe_str (pa_cons pe_str (pa_cons pe_str (pa_cons pe_str pa_nil)))))))) pa_nil))) pa_nil))))) pss_nil)
      (pss_one (ps_ret (pe_tup (pa_cons pe_str (pa_cons (pe_cl cO hr (by decide) rfl pass0 (pa_cons (pv 0) (pa_cons (pe_lst (pa_cons pe_str (pa_cons pe_str (pa_cons pe_str (pa_cons pe_str (pa_cons pe_str (pa_cons pe_str (pa_cons pe_str (pa_cons pe_str (pa_cons pe_str (pa_cons pe_str (pa_cons pe_str (pa_cons pe_str (pa_cons pe_str pa_nil)))))))))))))) pa_nil))) pa_nil)))))))))), ?_⟩
    obtain ⟨m, c, n, rfl, hm, hn, q⟩ := h
    have fin : ∀ (H1 : Hp) (j : Nat) (k : Str) (wd : List Nat), MSt H1 m c (n + j) → j ≤ 6 → But m H H1 → Good k wd → ∀ p, H1 p = none → Q (.ref p) (upd H1 p (.tup [.str k, .str (tx wd)])) := by
      intro H1 j k wd h1 hj hb hg p hp
      have pm : p ≠ m := fun z => by
        obtain ⟨o, ho⟩ := h1.has
        rw [z, ho] at hp; cases hp
      exact q p k wd _ upd_same hg ((h1.but (same_upd (Same.refl _) hp)).mono (by omega)) (But.upd hb (.inl (hb.free pm hp)))
    dsimp only [L2.tSeq, L2.tIfS, L2.tOr, L2.tAnd, L2.tNot, L2.tB, L2.tTest, L2.tCB, L2.tCons, L2.tNil, L2.tVar, L2.tC, L2.tRet, L2.tNext, L2.tAsg, L2.gName, L2.tCall, L2.tOp, L2.tOrV, L2.tNotV, L2.tChain, L2.tDrop, L2.tAug, L2.tYes, L2.tIfT, L2.tPar3, L2.tDisp, L2.tPairs, L2.tDGet, L2.sDPut, L2.tThen, L2.kTup, L2.gTup, L2.gCons, L2.gNil, L2.tPar, L2.tLst, L2.tBM, L2.tTup, L2.tSl, L2.tPart, L2.tNoPart, List.map, List.append_nil]
    refine ⟨_, rfl, draw_at 6 hm (by omega) (by decide) (by decide) fun r H1 hr1 hm1 b1 => ?_⟩
    refine ⟨_, rfl, rfl, _, rfl, ite_eqi (m := 0) (fun hr => ⟨(show 2 ≤ sizeLine by decide), fin H1 1 _ [10] hm1 (by decide) b1 (.inl ⟨rfl, rfl⟩)⟩) (fun hr => ?_)⟩
    refine ⟨_, rfl, rfl, _, rfl, ite_eqi (m := 1) (fun hr => ?_) (fun hr => ?_)⟩
    · refine ⟨_, rfl, of_lit hm1 (by omega) (by simp) (by simp) fun v H2 hv hm2 b2 => ?_⟩
      obtain ⟨d, rfl, d1, d2⟩ : ∃ d : Nat, v = .int (d : Int) ∧ 1 ≤ d ∧ d ≤ 100 := by
        simp only [List.mem_cons, List.not_mem_nil, or_false] at hv
        rcases hv with rfl | rfl | rfl | rfl | rfl | rfl
        · exact ⟨1, rfl, by decide, by decide⟩
        · exact ⟨1, rfl, by decide, by decide⟩
        · exact ⟨2, rfl, by decide, by decide⟩
        · exact ⟨3, rfl, by decide, by decide⟩
        · exact ⟨99, rfl, by decide, by decide⟩
        · exact ⟨100, rfl, by decide, by decide⟩
      refine tIf_gen fun ta' tb' Q' ea eb eQ => ?_
      have other : ∀ (H3 : Hp) (j : Nat), MSt H3 m c (n + j) → j ≤ 3 → But m H H3 → tb' [some (.ref m), some (.int (r : Int)), some (.int (d : Int)), none] H3 Q' := by
        intro H3 j h3 hj b3
        subst eb eQ
        dsimp only [L2.tSeq, L2.tIfS, L2.tOr, L2.tAnd, L2.tNot, L2.tB, L2.tTest, L2.tCB, L2.tCons, L2.tNil, L2.tVar, L2.tC, L2.tRet, L2.tNext, L2.tAsg, L2.gName, L2.tCall, L2.tOp, L2.tOrV, L2.tAndV, L2.tNotV, L2.tChain, L2.tIf, L2.tDrop, L2.tAug, L2.tYes, L2.tIfT, L2.tPar3, L2.tDisp, L2.tPairs, L2.tDGet, L2.sDPut, L2.tThen, L2.kTup, L2.gTup, L2.gCons, L2.gNil, L2.tPar, L2.tLst, L2.tBM, L2.tTup, L2.tSl, L2.tPart, L2.tNoPart, List.map, List.append_nil]
        refine ⟨_, rfl, draw_at 9 h3 (by omega) (by decide) (by decide) fun r1 H4 l1 h4 b4 => ⟨_, _, rfl, rfl, _, rfl, ?_, _, rfl, draw_at 10 h4 (by omega) (by decide) (by decide) fun r2 H5 l2 h5 b5 => ?_⟩⟩
        · have : (1 + (r1 : Int)).natAbs ≤ 9 := by omega
          have := Nat.log2_self_le (n := (1 + (r1 : Int)).natAbs)
          exact Nat.lt_of_le_of_lt (Nat.log2_le_self _) (by omega)
        · refine ⟨_, _, _, rfl, rfl, (by decide), dig_at r2 l2, _, rfl, _, _, rfl, rfl, [48 + r2], d - 1, rfl, congrArg V.int (by omega), (by simp only [List.length_singleton]; omega), (by omega), _, _, rfl, rfl, ?_, ?_⟩
          · rw [dig_str r1 l1, tx_len, tx_len, flat_one, List.length_replicate]; simp only [List.length_singleton]; exact Nat.le_trans (show 1 + (d - 1) ≤ 1000 by omega) (by decide)
          · rw [dig_str r1 l1, tx_app]
            exact ⟨(show 2 ≤ sizeLine by decide), fin H5 (j + 1 + 1) _ _ h5 (by omega) ((b3.trans b4).trans b5) (good_num r1 r2 d l1 l2 d1 d2)⟩
      dsimp only [L2.tSeq, L2.tIfS, L2.tOr, L2.tAnd, L2.tNot, L2.tB, L2.tTest, L2.tCB, L2.tCons, L2.tNil, L2.tVar, L2.tC, L2.tRet, L2.tNext, L2.tAsg, L2.gName, L2.tCall, L2.tOp, L2.tOrV, L2.tAndV, L2.tNotV, L2.tChain, L2.tIf, L2.tDrop, L2.tAug, L2.tYes, L2.tIfT, L2.tPar3, L2.tDisp, L2.tPairs, L2.tDGet, L2.sDPut, L2.tThen, L2.kTup, L2.gTup, L2.gCons, L2.gNil, L2.tPar, L2.tLst, L2.tBM, L2.tTup, L2.tSl, L2.tPart, L2.tNoPart, List.map, List.append_nil]
      refine ⟨_, rfl, rfl, _, rfl, ite_eqi (m := 1) (fun hd => ⟨_, rfl, draw_at 3 hm2 (by omega) (by decide) (by decide) fun r0 H3 l0 h3 b3 => ⟨rfl, _, rfl, ite_eqi (m := 0) (fun h0 => ?_) (fun h0 => other _ 3 h3 (by decide) ((b1.trans b2).trans b3))⟩⟩) (fun hd => iteF (other _ 2 hm2 (by decide) (b1.trans b2)))⟩
      subst ea eQ
      exact ⟨(show 2 ≤ sizeLine by decide), fin H3 (1 + 1 + 1) _ [48] h3 (by omega) ((b1.trans b2).trans b3) (.inr (.inl ⟨rfl, by decide, by decide, by decide, by decide⟩))⟩
    refine ⟨_, rfl, rfl, _, rfl, ite_eqi (m := 2) (fun hr => ?_) (fun hr => ?_)⟩
    · refine ⟨_, rfl, of_lit hm1 (by omega) (by simp) (by simp) fun v H2 hv hm2 b2 => ?_⟩
      obtain ⟨d, rfl, d1, d2⟩ : ∃ d : Nat, v = .int (d : Int) ∧ 1 ≤ d ∧ d ≤ 16 := by
        simp only [List.mem_cons, List.not_mem_nil, or_false] at hv
        rcases hv with rfl | rfl | rfl | rfl | rfl
        · exact ⟨1, rfl, by decide, by decide⟩
        · exact ⟨2, rfl, by decide, by decide⟩
        · exact ⟨3, rfl, by decide, by decide⟩
        · exact ⟨15, rfl, by decide, by decide⟩
        · exact ⟨16, rfl, by decide, by decide⟩
      refine ⟨_, rfl, draw_at 26 hm2 (by omega) (by decide) (by decide) fun r2 H5 l2 h5 b5 => ⟨_, _, _, rfl, rfl, (by decide), let_at r2 l2, _, rfl, _, _, rfl, rfl, [97 + r2], d - 1, rfl, congrArg V.int (by omega), (by simp only [List.length_singleton]; omega), (by omega), _, rfl, of_lit h5 (by omega) (by simp) (by simp) fun v H6 hv h6 b6 => ?_⟩⟩
      obtain ⟨ch, rfl, hc⟩ : ∃ c : Nat, v = .str (tx [c]) ∧ isL c = true := by
        simp only [List.mem_cons, List.not_mem_nil, or_false] at hv
        rcases hv with rfl | rfl | rfl
        · exact ⟨97, rfl, rfl⟩
        · exact ⟨120, rfl, rfl⟩
        · exact ⟨122, rfl, rfl⟩
      refine ⟨_, _, rfl, rfl, ?_, ?_⟩
      · rw [tx_len, tx_len, flat_one, List.length_replicate]; simp only [List.length_singleton]; exact Nat.le_trans (show d - 1 + 1 ≤ 1000 by omega) (by decide)
      · rw [tx_app]
        exact ⟨(show 2 ≤ sizeLine by decide), fin H6 (1 + 1 + 1 + 1) _ _ h6 (by omega) (((b1.trans b2).trans b5).trans b6) (good_word r2 ch d l2 hc d1 d2)⟩
    refine ⟨_, rfl, rfl, _, rfl, ite_eqi (m := 3) (fun hr => ?_) (fun hr => ?_)⟩
    · refine ⟨_, rfl, of_lit hm1 (by omega) (by simp) (by simp) fun v H2 hv hm2 b2 => ?_⟩
      obtain ⟨wd, rfl, hg⟩ : ∃ wd : List Nat, v = .str (tx wd) ∧ Good (S' "word") wd := by
        simp only [List.mem_cons, List.not_mem_nil, or_false] at hv
        rcases hv with rfl | rfl | rfl | rfl | rfl | rfl | rfl
        · exact ⟨[103, 105, 118, 101, 110], rfl, .inr (.inr (.inl ⟨rfl, by decide, by decide, by decide⟩))⟩
        · exact ⟨[105, 102], rfl, .inr (.inr (.inl ⟨rfl, by decide, by decide, by decide⟩))⟩
        · exact ⟨[120], rfl, .inr (.inr (.inl ⟨rfl, by decide, by decide, by decide⟩))⟩
        · exact ⟨[115, 116, 101, 112, 115], rfl, .inr (.inr (.inl ⟨rfl, by decide, by decide, by decide⟩))⟩
        · exact ⟨[116, 111, 114], rfl, .inr (.inr (.inl ⟨rfl, by decide, by decide, by decide⟩))⟩
        · exact ⟨[114, 117, 108, 101], rfl, .inr (.inr (.inl ⟨rfl, by decide, by decide, by decide⟩))⟩
        · exact ⟨[105, 110], rfl, .inr (.inr (.inl ⟨rfl, by decide, by decide, by decide⟩))⟩
      exact ⟨(show 2 ≤ sizeLine by decide), fin H2 (1 + 1) _ _ hm2 (by omega) (b1.trans b2) hg⟩
    · refine ⟨_, rfl, of_lit hm1 (by omega) (by simp) (by simp) fun v H2 hv hm2 b2 => ?_⟩
      obtain ⟨wd, rfl, hg⟩ : ∃ wd : List Nat, v = .str (tx wd) ∧ Good (S' "mark") wd := by
        simp only [List.mem_cons, List.not_mem_nil, or_false] at hv
        rcases hv with rfl | rfl | rfl | rfl | rfl | rfl | rfl | rfl | rfl | rfl | rfl | rfl | rfl
        · exact ⟨[43], rfl, .inr (.inr (.inr ⟨rfl, .inl ⟨43, by decide, rfl⟩⟩))⟩
        · exact ⟨[45], rfl, .inr (.inr (.inr ⟨rfl, .inl ⟨45, by decide, rfl⟩⟩))⟩
        · exact ⟨[42], rfl, .inr (.inr (.inr ⟨rfl, .inl ⟨42, by decide, rfl⟩⟩))⟩
        · exact ⟨[58], rfl, .inr (.inr (.inr ⟨rfl, .inl ⟨58, by decide, rfl⟩⟩))⟩
        · exact ⟨[94], rfl, .inr (.inr (.inr ⟨rfl, .inl ⟨94, by decide, rfl⟩⟩))⟩
        · exact ⟨[40], rfl, .inr (.inr (.inr ⟨rfl, .inl ⟨40, by decide, rfl⟩⟩))⟩
        · exact ⟨[41], rfl, .inr (.inr (.inr ⟨rfl, .inl ⟨41, by decide, rfl⟩⟩))⟩
        · exact ⟨[91], rfl, .inr (.inr (.inr ⟨rfl, .inl ⟨91, by decide, rfl⟩⟩))⟩
        · exact ⟨[93], rfl, .inr (.inr (.inr ⟨rfl, .inl ⟨93, by decide, rfl⟩⟩))⟩
        · exact ⟨[44], rfl, .inr (.inr (.inr ⟨rfl, .inl ⟨44, by decide, rfl⟩⟩))⟩
        · exact ⟨[59], rfl, .inr (.inr (.inr ⟨rfl, .inl ⟨59, by decide, rfl⟩⟩))⟩
        · exact ⟨[61], rfl, .inr (.inr (.inr ⟨rfl, .inl ⟨61, by decide, rfl⟩⟩))⟩
        · exact ⟨[60, 61], rfl, .inr (.inr (.inr ⟨rfl, .inr rfl⟩))⟩
      exact ⟨(show 2 ≤ sizeLine by decide), fin H2 (1 + 1) _ _ hm2 (by omega) (b1.trans b2) hg⟩
end
end K8
set_option Elab.async false
set_option linter.all false
set_option maxRecDepth 100000
set_option maxHeartbeats 2000000
namespace K8
open PySem PySem.Spec PyProof.Rows L2
/-! ## signs side by side -/
/-- what may stand behind a sign of that sort -/
def Fol (k : Str) (r : List Nat) : Prop := ∀ c t, r = c :: t → (k = S' "number" → isD c = false) ∧ (k = S' "word" → isL c = false)
theorem fol_nil (k : Str) : Fol k [] := fun c t h => by cases h
theorem fol_sp (k : Str) (r : List Nat) : Fol k (32 :: r) := fun c t h => by cases h; exact ⟨fun _ => rfl, fun _ => rfl⟩
theorem tw_all {p : Nat → Bool} : ∀ (wd r : List Nat), wd.all p = true → (∀ c t, r = c :: t → p c = false) → (wd ++ r).takeWhile p = wd
  | [], r, _, h => by
    cases r with
    | nil => rfl
    | cons c t => rw [List.nil_append, List.takeWhile_cons, if_neg (by rw [h c t rfl]; exact Bool.false_ne_true)]
  | c :: wd, r, ha, h => by
    rw [List.all_cons, Bool.and_eq_true] at ha
    rw [List.cons_append, List.takeWhile_cons, if_pos ha.1, tw_all wd r ha.2 h]
theorem isD_of {c : Nat} (h : isD c = true) : 48 ≤ c ∧ c ≤ 57 := by
  unfold isD at h; rw [Bool.and_eq_true] at h; exact ⟨of_decide_eq_true h.1, of_decide_eq_true h.2⟩
theorem isL_of {c : Nat} (h : isL c = true) : 97 ≤ c ∧ c ≤ 122 := by
  unfold isL at h; rw [Bool.and_eq_true] at h; exact ⟨of_decide_eq_true h.1, of_decide_eq_true h.2⟩
theorem marks_lt {c : Nat} (h : c ∈ marks) : c ≠ 10 ∧ c ≠ 60 ∧ c ≠ 32 ∧ isD c = false ∧ isL c = false := by
  have : ∀ c ∈ marks, c ≠ 10 ∧ c ≠ 60 ∧ c ≠ 32 ∧ isD c = false ∧ isL c = false := by decide
  exact this c h
theorem sgn_app {k : Str} {wd r : List Nat} (g : Good k wd) (f : Fol k r) : sgn (wd ++ r) = some (k, wd) := by
  rcases g with ⟨rfl, rfl⟩ | ⟨rfl, hn, ha, hr, _⟩ | ⟨rfl, hn, ha, hl⟩ | ⟨rfl, ⟨c, hc, rfl⟩ | rfl⟩
  · rfl
  · cases wd with
    | nil => exact absurd rfl hn
    | cons c t =>
      have hD : isD c = true := by rw [List.all_cons, Bool.and_eq_true] at ha; exact ha.1
      have b := isD_of hD
      have e := tw_all (c :: t) r ha fun d u e => (f d u e).1 rfl
      rw [List.cons_append] at e ⊢
      have h2 : (c :: (t ++ r)).take 2 ≠ [60, 61] := fun z => by
        rw [List.take_succ_cons] at z; have := (List.cons.inj z).1; omega
      have hm : ¬ c ∈ marks := fun z => by have := (marks_lt z).2.2.2.1; rw [hD] at this; cases this
      rw [sgn_cons, if_neg (by omega), if_neg h2, if_neg hm, if_pos hD, e, if_pos hr]
  · cases wd with
    | nil => exact absurd rfl hn
    | cons c t =>
      have hL : isL c = true := by rw [List.all_cons, Bool.and_eq_true] at ha; exact ha.1
      have b := isL_of hL
      have e := tw_all (c :: t) r ha fun d u e => (f d u e).2 rfl
      have hD : isD c = false := by
        cases z : isD c with
        | false => rfl
        | true => have := isD_of z; omega
      have hr : runOk (c :: t) = true := by
        show (if isD c then _ else _) = true
        rw [if_neg (by rw [hD]; exact Bool.false_ne_true)]
        exact decide_eq_true hl
      rw [List.cons_append] at e ⊢
      have h2 : (c :: (t ++ r)).take 2 ≠ [60, 61] := fun z => by
        rw [List.take_succ_cons] at z; have := (List.cons.inj z).1; omega
      have hm : ¬ c ∈ marks := fun z => by have := (marks_lt z).2.2.2.2; rw [hL] at this; cases this
      rw [sgn_cons, if_neg (by omega), if_neg h2, if_neg hm, if_neg (by rw [hD]; exact Bool.false_ne_true), if_pos hL, e, if_pos hr]
  · obtain ⟨m1, m2, _⟩ := marks_lt hc
    have h2 : (c :: r).take 2 ≠ [60, 61] := fun z => by
      rw [List.take_succ_cons] at z; exact m2 (List.cons.inj z).1
    show sgn (c :: r) = _
    rw [sgn_cons, if_neg m1, if_neg h2, if_pos hc]
  · rfl
theorem good_head {k : Str} {wd : List Nat} (g : Good k wd) : ∃ c t, wd = c :: t ∧ c ≠ 32 ∧ (isD c = true → k = S' "number") ∧ (isL c = true → k = S' "word") := by
  rcases g with ⟨rfl, rfl⟩ | ⟨rfl, hn, ha, _⟩ | ⟨rfl, hn, ha, _⟩ | ⟨rfl, ⟨c, hc, rfl⟩ | rfl⟩
  · exact ⟨10, [], rfl, by decide, fun h => (by cases h), fun h => (by cases h)⟩
  · cases wd with
    | nil => exact absurd rfl hn
    | cons c t =>
      rw [List.all_cons, Bool.and_eq_true] at ha
      have b := isD_of ha.1
      exact ⟨c, t, rfl, by omega, fun _ => rfl, fun h => by have := isL_of h; omega⟩
  · cases wd with
    | nil => exact absurd rfl hn
    | cons c t =>
      rw [List.all_cons, Bool.and_eq_true] at ha
      have b := isL_of ha.1
      exact ⟨c, t, rfl, by omega, fun h => by have := isD_of h; omega, fun _ => rfl⟩
  · obtain ⟨_, _, m3, m4, m5⟩ := marks_lt hc
    exact ⟨c, [], rfl, m3, fun h => (by rw [m4] at h; cases h), fun h => (by rw [m5] at h; cases h)⟩
  · exact ⟨60, [61], rfl, by decide, fun h => (by cases h), fun h => (by cases h)⟩
theorem good_len {k : Str} {wd : List Nat} (g : Good k wd) : wd.length ≤ 100 := by
  rcases g with ⟨rfl, rfl⟩ | ⟨rfl, hn, ha, _, h⟩ | ⟨rfl, hn, ha, h⟩ | ⟨rfl, ⟨c, hc, rfl⟩ | rfl⟩
  · decide
  · exact h
  · omega
  · exact (by decide : 1 ≤ 100)
  · decide
theorem scanF_app {k : Str} {wd r : List Nat} {i : Nat} (g : Good k wd) (f : Fol k r) : scanF (wd ++ r) i = ((k, wd, i) :: (scanF r (i + wd.length)).1, (scanF r (i + wd.length)).2) := by
  have h := sgn_app g f
  obtain ⟨c, t, rfl, hc, _⟩ := good_head g
  rw [List.cons_append] at h ⊢
  rw [scanF_yes hc h, ← List.cons_append, List.drop_left]
def sps (b : Nat) : List Nat := List.replicate b 32
theorem scanF_sps (r : List Nat) : ∀ (b i : Nat), scanF (sps b ++ r) i = scanF r (i + b)
  | 0, i => rfl
  | b + 1, i => by
    show scanF (32 :: (sps b ++ r)) i = _
    rw [scanF_sp, scanF_sps r b (i + 1)]
    congr 1; omega
/-- a text that has been built: what it holds, and what may come next -/
structure Row (l : List Nat) (gs : List Sg) (last : Str) : Prop where
  go : ∀ r, Fol last r → scanF (l ++ r) 0 = (gs ++ (scanF r l.length).1, (scanF r l.length).2)
  at_ : ∀ g ∈ gs, g.2.2 ≤ l.length ∧ ∀ r, (scanF (l.take g.2.2 ++ 32 :: r) 0).2 = (scanF (32 :: r) g.2.2).2
theorem Row.start (b : Nat) : Row (sps b) [] (S' "") := by
  refine ⟨fun r _ => ?_, fun g h => by cases h⟩
  rw [scanF_sps]
  show scanF r (0 + b) = _
  unfold sps
  rw [List.length_replicate, Nat.zero_add]
  rfl
theorem fol_mix {last k : Str} {wd : List Nat} (g : Good k wd) (b : Nat) (r : List Nat) (h : b = 0 → last = k → ¬ (k = S' "number" ∨ k = S' "word")) : Fol last (sps b ++ (wd ++ r)) := by
  cases b with
  | succ b => exact fol_sp last _
  | zero =>
    obtain ⟨c, t, rfl, hc, c1, c2⟩ := good_head g
    intro d u e
    have e : c :: (t ++ r) = d :: u := e
    cases e
    refine ⟨fun z => ?_, fun z => ?_⟩
    · cases y : isD c with
      | false => rfl
      | true => exact absurd (.inl (c1 y)) (h rfl (z.trans (c1 y).symm))
    · cases y : isL c with
      | false => rfl
      | true => exact absurd (.inr (c2 y)) (h rfl (z.trans (c2 y).symm))
theorem fol_sps (last : Str) (b : Nat) (r : List Nat) : Fol last (sps b ++ 32 :: r) := by
  cases b with
  | succ b => exact fol_sp last _
  | zero => exact fol_sp last _
theorem Row.step {l : List Nat} {gs : List Sg} {last k : Str} {wd : List Nat} (R : Row l gs last) (g : Good k wd) (b : Nat) (h : b = 0 → last = k → ¬ (k = S' "number" ∨ k = S' "word")) :
    Row (l ++ sps b ++ wd) (gs ++ [(k, wd, (l ++ sps b).length)]) k := by
  have lb : (l ++ sps b).length = l.length + b := by rw [List.length_append]; unfold sps; rw [List.length_replicate]
  refine ⟨fun r f => ?_, fun s hs => ?_⟩
  · rw [List.append_assoc, List.append_assoc, R.go _ (fol_mix g b r h), scanF_sps, scanF_app g f, List.append_assoc]
    have : (l ++ sps b ++ wd).length = l.length + b + wd.length := by rw [List.length_append, lb]
    rw [this, lb]; rfl
  · rcases List.mem_append.mp hs with hs | hs
    · obtain ⟨a1, a2⟩ := R.at_ s hs
      refine ⟨Nat.le_trans a1 (by rw [List.length_append, lb]; omega), fun r => ?_⟩
      rw [List.append_assoc, List.take_append_of_le_length a1]
      exact a2 r
    · obtain rfl := List.mem_singleton.mp hs
      refine ⟨by rw [List.length_append (as := l ++ sps b)]; exact Nat.le_add_right _ _, fun r => ?_⟩
      show (scanF ((l ++ sps b ++ wd).take (l ++ sps b).length ++ 32 :: r) 0).2 = _
      rw [List.take_left, List.append_assoc, R.go _ (fol_sps last b r), scanF_sps, lb]
theorem Row.done {l : List Nat} {gs : List Sg} {last : Str} (R : Row l gs last) (b : Nat) : scanF (l ++ sps b) 0 = (gs, none) := by
  have f : Fol last (sps b) := by
    cases b with
    | zero => exact fol_nil last
    | succ b => exact fol_sp last _
  rw [R.go _ f]
  have : ∀ b i, scanF (sps b) i = ([], none) := fun b i => by
    have := scanF_sps [] b i
    rw [List.append_nil] at this
    rw [this, scanF_nil]
  rw [this, List.append_nil]
end K8
set_option Elab.async false
set_option linter.all false
set_option maxRecDepth 100000
set_option maxHeartbeats 2000000
namespace K8
open PySem PySem.Spec PyProof.Rows L2
abbrev sRowOf : Stmt := top 32
theorem scRowOf : FnScope ["m", "many", "text", "found", "last", "again", "sort", "word", "touch"] ["m", "many"] (defScope sRowOf) := ⟨rfl, rfl, rfl, by decide +kernel, rfl, by decide +kernel, by decide +kernel⟩
theorem in_at {K : PySem.W.Frag} {H : Hp} {a : Addr} {l : List Str} {z : Str} {Q : VK} (h : H a = some (.tup (l.map V.str))) (q : Q (.bl (decide (z ∈ l))) H) : rIn K false (.str z) (.ref a) H Q :=
  ⟨a, _, rfl, .inr (SqT.of h), rfl, flat_strs l, by rw [if_neg Bool.false_ne_true, inV_str]; exact q⟩
theorem Sgs.but {m c : Addr} {n : Nat} {H H' : Hp} (hm : MSt H m c n) (e : But m H H') {xs : List V} {gs : List Sg} (h : Sgs H xs gs) : Sgs H' xs gs := L2.Paired.mapP h fun v g ⟨a, e1, e2⟩ => ⟨a, e1, e a _ (hm.net e2) e2⟩
def GoodAll (gs : List Sg) : Prop := ∀ g ∈ gs, Good g.1 g.2.1
def spRowOf : Sp := fun vs H Q _ => ∃ (m c : Addr) (n many : Nat), vs = [.ref m, .int (many : Int)] ∧ many ≤ 60 ∧ MSt H m c n ∧ n < 2 ^ 30 ∧
  ∀ (t p : Addr) (l : List Nat) (xs : List V) (gs : List Sg) (last : Str) (b : Nat) H', H' t = some (.tup [.str (tx (l ++ sps b)), .ref p]) → H' p = some (.lst xs) → Sgs H' xs gs → Row l gs last → GoodAll gs → gs.length = many → b < 2 →
    l.length ≤ 2 + 104 * many → MSt H' m c (n + 2 + 7 * many) → But m H H' → Q (.ref t) H'
section
variable {P : Program} {w : World} {K : PySem.W.Frag} {mg : Str → Option Value} {base : Heap} {f : Addr} {fd : FuncData}
theorem ok_rowOf (nL : mg "len" = none) (nR : mg "range" = none) (cD : Cl P w K mg base CX0 1 "_law_draw" ["m", "span"] spDraw) (cS : Cl P w K mg base CX0 3 "_law_sign" ["m"] spSign) (F : Fun K "_law_row_of" "_law_row_of" sRowOf f fd) :
    FnOk P w K mg base CX0 4 f fd ["m", "many"] spRowOf := by
  refine F.ok scRowOf (fun vs H Q E h => ?_) (fun cdv A outer s H vs Q E hr h => ?_)
  · obtain ⟨m, c, n, many, rfl, _⟩ := h; rfl
  · refine ⟨_, PSs.nox (pss_cons (ps_par3 (i := 2) (j := 3) (l := 4) rfl scRowOf.nd rfl rfl rfl (by decide) (by decide) (by decide) rfl rfl rfl
        (pa_cons (pe_op op_repS pe_str (pe_cl cD hr (by decide) rfl pass0 (pa_cons (pv 0) (pa_cons pe_int pa_nil)))) (pa_cons (pe_lst pa_nil) (pa_cons pe_str pa_nil))) (by rfl))
      (pss_cons (ps_for PassesOwn.never rfl (pi_range1 rfl nR (pa_cons (pv 1) pa_nil)) (pg_name (i := 5) scRowOf.nd rfl (Or.inl rfl))
        (pss_cons (ps_asg (pe_cl cS hr (by decide) rfl pass0 (pa_cons (pv 0) pa_nil)) (pg_tup (by rfl) (pgs_cons (pg_name (i := 6) scRowOf.nd rfl (Or.inl rfl)) (pgs_cons (pg_name (i := 7) scRowOf.nd rfl (Or.inl rfl)) pgs_nil))))
        (pss_cons (ps_set (i := 8) scRowOf.nd rfl (Or.inl rfl) (pe_and (pe_cmpR op_eq (pv 6) (pv 4) (by rfl)) (pe_one (pe_cmpR op_in_seq (pv 6) (pe_tup (pa_cons pe_str (pa_cons pe_str pa_nil))) (by rfl)))))
        (pss_cons (ps_set (i := 2) scRowOf.nd rfl (Or.inl rfl) (pe_op op_add_str (pv 2) (pe_op op_repS pe_str (pe_op op_add (pe_cl cD hr (by decide) rfl pass0 (pa_cons (pv 0) (pa_cons pe_int pa_nil))) (pe_ifExp (pt_val (pv 8)) pe_int pe_int)))))
        (pss_cons (ps_expr (pe_bm PySem.F.plainAttrs_list PySem.F.slot_list_append PySem.F.type_list_append mt_append (pv 3) (pa_cons (pe_tup (pa_cons (pv 6) (pa_cons (pv 7) (pa_cons (pe_callB call_len rfl nL (by decide +kernel) (pa_cons (pv 2) pa_nil)) pa_nil)))) pa_nil)))
        (pss_one (ps_par (i := 2) (j := 4) rfl scRowOf.nd rfl rfl (by decide) rfl rfl (pa_cons (pe_op op_add_str (pv 2) (pv 7)) (pa_cons (pv 6) pa_nil)) (by rfl))))))))
      (pss_one (ps_ret (pe_tup (pa_cons (pe_op op_add_str (pv 2) (pe_op op_repS pe_str (pe_cl cD hr (by decide) rfl pass0 (pa_cons (pv 0) (pa_cons pe_int pa_nil))))) (pa_cons (pv 3) pa_nil))))))), ?_⟩
    obtain ⟨m, c, n, many, rfl, hmany, hm, hn, q⟩ := h
    dsimp only [L2.tSeq, L2.tIfS, L2.tOr, L2.tAnd, L2.tNot, L2.tB, L2.tTest, L2.tCB, L2.tCons, L2.tNil, L2.tVar, L2.tC, L2.tRet, L2.tNext, L2.tAsg, L2.gName, L2.tCall, L2.tOp, L2.tOrV, L2.tAndV, L2.tNotV, L2.tChain, L2.tIf, L2.tDrop, L2.tAug, L2.tYes, L2.tIfT, L2.tPar3, L2.tDisp, L2.tPairs, L2.tDGet, L2.sDPut, L2.tThen, L2.kTup, L2.gTup, L2.gCons, L2.gNil, L2.tPar, L2.tLst, L2.tBM, L2.tTup, L2.tSl, L2.tPart, L2.tNoPart, List.map, List.append_nil]
    refine ⟨_, rfl, draw_at 3 hm (by omega) (by decide) (by decide) fun r0 H1 l0 hm1 b1 => ?_⟩
    refine ⟨[32], r0, rfl, rfl, (by simp only [List.length_singleton]; omega), (by omega), (by decide), fun p hp => ⟨_, _, _, rfl, _, rfl, many, rfl, (by omega), (by omega), ?_⟩⟩
    rw [flat_one]
    have pm : p ≠ m := hm1.new hp
    have pc : p ≠ c := hm1.newc hp
    refine for_range (lo := 0) (n := many) (fun i σ H' => ∃ (l : List Nat) (xs : List V) (gs : List Sg) (last : Str) (o5 o6 o7 o8 : Option V), σ = [some (.ref m), some (.int (many : Int)), some (.str (tx l)), some (.ref p), some (.str last), o5, o6, o7, o8] ∧
      H' p = some (.lst xs) ∧ Sgs H' xs gs ∧ Row l gs last ∧ GoodAll gs ∧ gs.length = i ∧ xs.length = i ∧ l.length ≤ 2 + 104 * i ∧ MSt H' m c (n + 1 + 7 * i) ∧ But m H H')
      ⟨sps r0, [], [], S' "", none, none, none, none, rfl, upd_same, .nil, Row.start r0, fun g hg => (by cases hg), rfl, rfl, (by unfold sps; rw [List.length_replicate]; omega), hm1.put pm pc, But.upd b1 (.inl (b1.free pm hp))⟩ (fun i σ H' hi hP => ?_) (fun σ H' hP => ?_)
    · obtain ⟨l, xs, gs, last, o5, o6, o7, o8, rfl, e1, e2, e3, e4, e5, e6, e7, e8, e9⟩ := hP
      dsimp only [L2.tSeq, L2.tIfS, L2.tOr, L2.tAnd, L2.tNot, L2.tB, L2.tTest, L2.tCB, L2.tCons, L2.tNil, L2.tVar, L2.tC, L2.tRet, L2.tNext, L2.tAsg, L2.gName, L2.tCall, L2.tOp, L2.tOrV, L2.tNotV, L2.tChain, L2.tDrop, L2.tAug, L2.tYes, L2.tIfT, L2.tPar3, L2.tDisp, L2.tPairs, L2.tDGet, L2.sDPut, L2.tThen, L2.kTup, L2.gTup, L2.gCons, L2.gNil, L2.tPar, L2.tLst, L2.tBM, L2.tTup, L2.tSl, L2.tPart, L2.tNoPart, List.map, List.append_nil]
      refine ⟨_, rfl, m, c, n + 1 + 7 * i, rfl, e8, by omega, fun t k wd H2 ht hg hm2 b2 => ⟨t, _, rfl, SqT.of ht, rfl, _, _, rfl, _, _, rfl, rfl, ?_⟩⟩
      refine gen_Q fun Q' eQ => ?_
      have rest : ∀ (T : Bool) (H3 : Hp), Same H2 H3 → (T = false → last = k → ¬ (k = S' "number" ∨ k = S' "word")) → Q' (.bl T) H3 := by
        intro T H3 s3 hT
        rw [eQ]
        dsimp only [L2.tSeq, L2.tIfS, L2.tOr, L2.tAnd, L2.tNot, L2.tB, L2.tTest, L2.tCB, L2.tCons, L2.tNil, L2.tVar, L2.tC, L2.tRet, L2.tNext, L2.tAsg, L2.gName, L2.tCall, L2.tOp, L2.tOrV, L2.tAndV, L2.tNotV, L2.tChain, L2.tIf, L2.tDrop, L2.tAug, L2.tYes, L2.tIfT, L2.tPar3, L2.tDisp, L2.tPairs, L2.tDGet, L2.sDPut, L2.tThen, L2.kTup, L2.gTup, L2.gCons, L2.gNil, L2.tPar, L2.tLst, L2.tBM, L2.tTup, L2.tSl, L2.tPart, L2.tNoPart, List.map, List.append_nil]
        have hp3 : H3 p = some (.lst xs) := s3 _ _ (b2 _ _ pm e1)
        have hm3 : MSt H3 m c (n + 1 + 7 * i + 6) := hm2.but s3
        refine ⟨_, rfl, _, rfl, draw_at 3 hm3 (by omega) (by decide) (by decide) fun r1 H4 l1 hm4 b4 => ⟨_, rfl, T, rfl, add_if ?_⟩⟩
        have hT2 : r1 + (if T then 1 else 0) = 0 → last = k → ¬ (k = S' "number" ∨ k = S' "word") := by
          intro z
          cases T with
          | true => simp at z
          | false => exact hT rfl
        have hb : r1 + (if T then 1 else 0) ≤ 3 := by cases T <;> simp <;> omega
        generalize r1 + (if T then 1 else 0) = b at hT2 hb ⊢
        have hp4 : H4 p = some (.lst xs) := b4 _ _ pm hp3
        have hwd : wd.length ≤ 100 := good_len hg
        have lb : (l ++ sps b).length = l.length + b := by rw [List.length_append]; unfold sps; rw [List.length_replicate]
        refine ⟨[32], b, rfl, rfl, (by simp only [List.length_singleton]; omega), (by omega), _, _, rfl, rfl, ?_, ?_⟩
        · rw [flat_one, tx_len, tx_len, List.length_replicate]; exact Nat.le_trans (show l.length + b ≤ 10000 by omega) (by decide)
        rw [flat_one, tx_app]
        refine ⟨_, rfl, .inl ⟨rfl, _, SqL.of hp4⟩, _, rfl, _, rfl, _, rfl, _, _, rfl, len_tx (z := l ++ sps b) (by omega), (show 3 ≤ sizeLine by decide), fun u hu => ?_⟩
        have up : p ≠ u := fun z => by rw [z, hu] at hp4; cases hp4
        have um : u ≠ m := hm4.new hu
        have uc : u ≠ c := hm4.newc hu
        refine ⟨p, xs, _, rfl, rfl, (upd_ne up).trans hp4, Nat.lt_of_le_of_lt (show xs.length ≤ 60 by omega) (by decide), _, rfl, _, rfl, _, _, rfl, rfl, ?_, _, rfl, _, _, rfl, ?_⟩
        · rw [tx_len, tx_len]; exact Nat.le_trans (show (l ++ sps b).length + wd.length ≤ 10000 by omega) (by decide)
        have bb : But m H H4 := ((e9.trans b2).trans (Same.but s3)).trans b4
        have hpn : H p = none := b1.free pm hp
        refine ⟨l ++ sps b ++ wd, xs ++ [.ref u], gs ++ [(k, wd, (l ++ sps b).length)], k, some (.int (0 + (i : Int))), some (.str k), some (.str (tx wd)), some (.bl T), ?_, upd_same, ?_, e3.step hg b hT2, ?_, ?_, ?_, ?_, ?_, ?_⟩
        · rw [← tx_app (l ++ sps b) wd]; rfl
        · refine Sgs.lst ((upd_ne up).trans hp4) (Sgs.snoc ?_ (g := (k, wd, (l ++ sps b).length)) upd_same)
          exact Sgs.ex (same_upd (Same.refl _) hu) (Sgs.but hm3 b4 (Sgs.ex s3 (Sgs.but e8 b2 e2)))
        · intro g hgm
          rcases List.mem_append.mp hgm with hgm | hgm
          · exact e4 g hgm
          · obtain rfl := List.mem_singleton.mp hgm; exact hg
        · rw [List.length_append, e5]; rfl
        · rw [List.length_append, e6]; rfl
        · rw [List.length_append, lb]; omega
        · exact ((hm4.put um uc).put pm pc).mono (by omega)
        · exact But.upd (But.upd bb (.inl (bb.free um hu))) (.inl hpn)
      dsimp only [L2.tSeq, L2.tIfS, L2.tOr, L2.tAnd, L2.tNot, L2.tB, L2.tTest, L2.tCB, L2.tCons, L2.tNil, L2.tVar, L2.tC, L2.tRet, L2.tNext, L2.tAsg, L2.gName, L2.tCall, L2.tOp, L2.tOrV, L2.tAndV, L2.tNotV, L2.tChain, L2.tIf, L2.tDrop, L2.tAug, L2.tYes, L2.tIfT, L2.tPar3, L2.tDisp, L2.tPairs, L2.tDGet, L2.sDPut, L2.tThen, L2.kTup, L2.gTup, L2.gCons, L2.gNil, L2.tPar, L2.tLst, L2.tBM, L2.tTup, L2.tSl, L2.tPart, L2.tNoPart, List.map, List.append_nil]
      refine ⟨_, rfl, _, rfl, rfl, _, rfl, ?_⟩
      have es : decide (V.str k = V.str last) = decide (k = last) := by
        rw [decide_eq_decide]
        exact ⟨fun z => by injection z, fun z => by rw [z]⟩
      rw [es]
      refine ite2 (fun hs => ⟨_, rfl, (show 2 ≤ sizeLine by decide), fun u hu => ?_⟩) (fun hs => rest false H2 (Same.refl _) fun _ z => absurd (decide_eq_true z.symm) hs)
      refine in_at (l := [S' "number", S' "word"]) upd_same (rest _ _ (same_upd (Same.refl _) hu) fun z _ => ?_)
      intro y
      have := of_decide_eq_false z
      exact this (by rcases y with rfl | rfl <;> simp)
    · obtain ⟨l, xs, gs, last, o5, o6, o7, o8, rfl, e1, e2, e3, e4, e5, e6, e7, e8, e9⟩ := hP
      dsimp only [L2.tSeq, L2.tIfS, L2.tOr, L2.tAnd, L2.tNot, L2.tB, L2.tTest, L2.tCB, L2.tCons, L2.tNil, L2.tVar, L2.tC, L2.tRet, L2.tNext, L2.tAsg, L2.gName, L2.tCall, L2.tOp, L2.tOrV, L2.tAndV, L2.tNotV, L2.tChain, L2.tIf, L2.tDrop, L2.tAug, L2.tYes, L2.tIfT, L2.tPar3, L2.tDisp, L2.tPairs, L2.tDGet, L2.sDPut, L2.tThen, L2.kTup, L2.gTup, L2.gCons, L2.gNil, L2.tPar, L2.tLst, L2.tBM, L2.tTup, L2.tSl, L2.tPart, L2.tNoPart, List.map, List.append_nil]
      refine ⟨_, rfl, _, rfl, draw_at 2 e8 (by omega) (by decide) (by decide) fun b H4 l1 hm4 b4 => ⟨[32], b, rfl, rfl, (by simp only [List.length_singleton]; omega), (by omega), _, _, rfl, rfl, ?_, _, rfl, (show 2 ≤ sizeLine by decide), fun t ht => ?_⟩⟩
      · rw [flat_one, tx_len, tx_len, List.length_replicate]; exact Nat.le_trans (show l.length + b ≤ 10000 by omega) (by decide)
      rw [flat_one, tx_app]
      have hp4 : H4 p = some (.lst xs) := b4 _ _ pm e1
      have pt : p ≠ t := fun z => by rw [z, ht] at hp4; cases hp4
      have bb : But m H H4 := e9.trans b4
      exact q t p l xs gs last b _ upd_same ((upd_ne pt).trans hp4) (Sgs.ex (same_upd (Same.refl _) ht) (Sgs.but e8 b4 e2)) e3 e4 e5 l1 e7 ((hm4.put (hm4.new ht) (hm4.newc ht)).mono (by omega)) (But.upd bb (.inl (bb.free (hm4.new ht) ht)))
end
end K8
set_option Elab.async false
set_option linter.all false
set_option maxRecDepth 100000
set_option maxHeartbeats 2000000
namespace K8
open PySem PySem.Spec PyProof.Rows L2
abbrev sLike : Stmt := top 29
theorem scLike : FnScope ["told", "due"] ["told", "due"] (defScope sLike) := ⟨rfl, rfl, rfl, by decide +kernel, rfl, by decide +kernel, by decide +kernel⟩
section
variable {P : Program} {w : World} {K : PySem.W.Frag} {mg : Str → Option Value} {base : Heap} {f : Addr} {fd : FuncData}
theorem ok_like (nRp : mg "repr" = none) (F : Fun K "_law_like" "_law_like" sLike f fd) : FnG P w K mg base CX0 1 f fd ["told", "due"] (spLike K) := by
  refine Fun.okG F scLike (fun vs H Q E h => ?_) (fun cdv A outer s H vs Q E lk hr hG h => ?_)
  · obtain ⟨v, v', d, rfl, _⟩ := h; rfl
  · have hu : (A.deeper (envOfC "_law_like" (defScope sLike) s.heap.objs.size f cdv)).units + 100 < cLine := by have := hr.un; omega
    refine ⟨_, PSs.nox (pss_one (ps_ret (pe_and (pe_cmpR (op_eqD (by exact Nat.lt_of_le_of_lt (Nat.add_le_add_left (by decide) _) hu)) (pv 0) (pv 1) (by rfl))
      (pe_one (pe_cmpR op_eq (pe_callB (cr_repr (by exact hG) (by exact hu)) rfl nRp (by decide +kernel) (pa_cons (pv 0) pa_nil)) (pe_callB (cr_repr (by exact hG) (by exact hu)) rfl nRp (by decide +kernel) (pa_cons (pv 1) pa_nil)) (by rfl)))))), ?_⟩
    obtain ⟨v, v', d, rfl, h1, h2, h3, h4, h5, q⟩ := h
    dsimp only [L2.tSeq, L2.tIfS, L2.tOr, L2.tAnd, L2.tNot, L2.tB, L2.tTest, L2.tCB, L2.tCons, L2.tNil, L2.tVar, L2.tC, L2.tRet, L2.tNext, L2.tAsg, L2.gName, L2.tCall, L2.tOp, L2.tOrV, L2.tAndV, L2.tNotV, L2.tChain, L2.tIf, L2.tDrop, L2.tAug, L2.tYes, L2.tIfT, L2.tPar3, L2.tDisp, L2.tPairs, L2.tDGet, L2.sDPut, L2.tThen, L2.kTup, L2.gTup, L2.gCons, L2.gNil, L2.tPar, L2.tLst, L2.tBM, L2.tTup, L2.tSl, L2.tPart, L2.tNoPart, List.map, List.append_nil]
    have e := SeqAt.eqv_refl d h5.lay
    refine ⟨_, rfl, _, rfl, d, d, h1, h2, h5.shaped (by decide), h5.shaped (by decide), true, congrArg V.bl e, iteT ⟨_, rfl, v, d, rfl, h1, h3, h5, _, rfl, v', d, rfl, h2, h4, h5, rfl, ?_⟩⟩
    rw [decide_eq_true rfl]; exact q
end
end K8
set_option Elab.async false
set_option linter.all false
set_option maxRecDepth 100000
set_option maxHeartbeats 2000000
namespace K8
open PySem PySem.Spec PyProof.Rows L2 LamX
abbrev sTold : Stmt := top 30
theorem scTold : FnScope ["call", "error"] ["call"] (defScope sTold) := ⟨rfl, rfl, rfl, by decide +kernel, rfl, by decide +kernel, by decide +kernel⟩
/-- what told makes of the lambda's reading: [v], or the sort of the error and what it keeps -/
def TTell (CN CT : Addr) : (XK → Hp → VK → Prop) → Hp → VK → Prop := fun tl H Q =>
  tl (fun cls d H' => ∃ (C dd : Addr) (f s : Str) (v : V), cls = .ref C ∧ d = some dd ∧ ((C = CT ∧ f = S' "number" ∧ s = S' "text") ∨ (C = CN ∧ f = S' "value" ∧ s = S' "name")) ∧ H' dd = some (.xd [(f, v)]) ∧ ∀ t, H' t = none → Q (.ref t) (upd H' t (.tup [.str s, v])))
    H (fun v H' => [v].length ≤ sizeLine ∧ ∀ p, H' p = none → Q (.ref p) (upd H' p (.lst [v])))
theorem told_tells {X : Cx} {CN fN CT fT g : Addr} {cdg : Value} {q : Str} (T : Txt X.prog X.K X.mg CN fN CT fT) (mNT : PySem.W.exmOne X.K (.ref CN) (.ref CT) = some false) :
    GivesTo X ["call", "error"] "_law_told" (defScope sTold) g cdg (defBody sTold) "call" q (TTell CN CT) := by
  intro f c' s H Q tl act hc h
  refine ⟨_, pss_one (ps_try_each (X := (cxOf C8.CX0 X.prog X.w X.K X.mg X.base ["call", "error"] "_law_told" (defScope sTold) g cdg X.A X.stack s H C8.E0).nox)
      (tb := fun W D σ H => ∃ Ech : XK, (∀ cls d σ' H', Ech cls d H' → W cls d σ' H') ∧ σ[0]? = some (some (.ref f)) ∧ H c' = some (CodeO c' q) ∧ tl Ech H fun v H' => [v].length ≤ sizeLine ∧ ∀ p, H' p = none → D.rt (.ref p) (upd H' p (.lst [v])))
      (l := [⟨.ref CT, 1, fun a cls d => tRet (tTup (tCons (tC (.str (S' "text"))) (tCons (tXf a cls d CT "number" (tVar 1)) tNil)))⟩, ⟨.ref CN, 1, fun a cls d => tRet (tTup (tCons (tC (.str (S' "name"))) (tCons (tXf a cls d CN "value" (tVar 1)) tNil)))⟩])
      rfl rfl scTold.nd L2.takes0 (fun W pn xe tk _ => ?_)
      (.cons (n := "error") ⟨rfl, by decide, .inl T.text.gC⟩ rfl rfl (fun a oe cls d pn hz hf => ?_) (.cons (n := "error") ⟨rfl, by decide, .inl T.name.gC⟩ rfl rfl (fun a oe cls d pn hz hf => ?_) .nil))), ?_⟩
  · refine ⟨fun pins s' σ H' D I h' => ?_⟩
    obtain ⟨Ech, hW, h1, h2, h3⟩ := h'
    exact (pss_one (ps_ret (pe_lst (pa_cons (act W pn xe Ech _ _ tk hW) pa_nil)))).run pins s' σ H' D I ⟨h1, h2, h3⟩
  · show PSs _ _ (tRet (tTup (tCons (tC (.str (S' "text"))) (tCons (tXf a cls d CT "number" (tVar 1)) tNil))))
    exact pss_one (ps_ret (pe_tup (pa_cons pe_str (pa_cons (pe_xf (X := (cxOf C8.CX0 X.prog X.w X.K X.mg X.base ["call", "error"] "_law_told" (defScope sTold) g cdg X.A X.stack s H C8.E0).nox) (a := a) (pn := pn) (L2.SupX.SupTxt.xf T.text) T.text.noN hz hf (pv 1)) pa_nil))))
  · show PSs _ _ (tRet (tTup (tCons (tC (.str (S' "name"))) (tCons (tXf a cls d CN "value" (tVar 1)) tNil))))
    exact pss_one (ps_ret (pe_tup (pa_cons pe_str (pa_cons (pe_xf (X := (cxOf C8.CX0 X.prog X.w X.K X.mg X.base ["call", "error"] "_law_told" (defScope sTold) g cdg X.A X.stack s H C8.E0).nox) (a := a) (pn := pn) (L2.SupX.SupTxt.xf T.name) T.name.noN hz hf (pv 1)) pa_nil))))
  · refine ⟨_, fun cls d σ' H' z => ?_, rfl, hc, h⟩
    obtain ⟨C, dd, fl, st, v, rfl, rfl, hk, hd, hq⟩ := z
    have fin : ∀ (a : Addr) (D : Ends) (σ'' : L2.St), D.rt = Q → 1 < σ''.length → tRet (tTup (tCons (tC (.str st)) (tCons (tXf a (.ref C) (some dd) C fl (tVar 1)) tNil))) D (σ''.set 1 (some (.ref a))) H' := by
      intro a D σ'' hD hs
      dsimp only [L2.tSeq, L2.tIfS, L2.tOr, L2.tAnd, L2.tNot, L2.tB, L2.tTest, L2.tCB, L2.tCons, L2.tNil, L2.tVar, L2.tC, L2.tRet, L2.tNext, L2.tAsg, L2.gName, L2.tCall, L2.tOp, L2.tOrV, L2.tAndV, L2.tNotV, L2.tChain, L2.tIf, L2.tDrop, L2.tAug, L2.tYes, L2.tIfT, L2.tPar3, L2.tDisp, L2.tPairs, L2.tDGet, L2.sDPut, L2.tThen, L2.kTup, L2.gTup, L2.gCons, L2.gNil, L2.tPar, L2.tLst, L2.tBM, L2.tTup, L2.tSl, L2.tPart, L2.tNoPart, List.map, List.append_nil]
      refine ⟨.ref a, by rw [List.getElem?_set, if_pos rfl, if_pos hs], rfl, rfl, dd, _, v, rfl, hd, ?_, (show 2 ≤ sizeLine by decide), by rw [hD]; exact hq⟩
      show List.lookup fl [(fl, v)] = some v
      rw [List.lookup_cons, beq_self_eq_true]
    rcases hk with ⟨rfl, rfl, rfl⟩ | ⟨rfl, rfl, rfl⟩
    · exact ⟨true, T.text.te, fun _ hl a ha => fin a _ _ rfl hl, fun z => (by cases z)⟩
    · exact ⟨false, mNT, fun z => (by cases z), fun _ => ⟨true, T.name.te, fun _ hl a ha => fin a _ _ rfl hl, fun z => (by cases z)⟩⟩
end K8
set_option Elab.async false
set_option linter.all false
set_option maxRecDepth 100000
set_option maxHeartbeats 2000000
namespace K8
open PySem PySem.Spec PyProof.Rows L2 LamX
/-- all but m and the tables stays -/
def ButN (m : Addr) (H H' : Hp) : Prop := ∀ b o, b ≠ m → H b = some o → (∀ ps, o ≠ .tbl ps) → H' b = some o
theorem ButN.refl (m : Addr) (H : Hp) : ButN m H H := fun _ _ _ h _ => h
theorem ButN.trans {m : Addr} {H H1 H2 : Hp} (a : ButN m H H1) (b : ButN m H1 H2) : ButN m H H2 := fun x o hx h n => b x o hx (a x o hx h n) n
theorem But.n {m : Addr} {H H' : Hp} (a : But m H H') : ButN m H H' := fun b o hb h _ => a b o hb h
theorem ExtN.n {m : Addr} {H H' : Hp} (a : ExtN H H') : ButN m H H' := fun b o _ h n => a b o h n
theorem MSt.ext {H H' : Hp} {m c : Addr} {n : Nat} (h : MSt H m c n) (e : ExtN H H') : MSt H' m c n := by
  obtain ⟨L, S, cells, spot, h1, h2, h3⟩ := h
  exact ⟨L, S, cells, spot, e _ _ h1 (fun ps z => by cases z), e _ _ h2 (fun ps z => by cases z), h3⟩
theorem Tabs.but {T : List (Addr × Str)} {H H' : Hp} {m c : Addr} {n : Nat} (t : Tabs T H) (hm : MSt H m c n) (e : But m H H') : Tabs T H' := fun p hp => by
  obtain ⟨L, S, cells, spot, h1, _⟩ := hm
  obtain ⟨ps, a1, a2, a3⟩ := t p hp
  refine ⟨ps, e _ _ (fun z => by rw [z, h1] at a1; cases a1) a1, a2, fun pos cv hc => ?_⟩
  obtain ⟨c, b1, b2⟩ := a3 pos cv hc
  exact ⟨c, b1, e _ _ (fun z => by rw [z, h1] at b2; unfold CodeO at b2; cases b2) b2⟩
theorem Sgs.ext {H H' : Hp} (e : ExtN H H') {xs : List V} {gs : List Sg} (h : Sgs H xs gs) : Sgs H' xs gs := L2.Paired.mapP h fun v g ⟨a, e1, e2⟩ => ⟨a, e1, e a _ e2 (fun ps z => by cases z)⟩
section
variable {X : Cx} {CN fN CT fT g : Addr} {fd : FuncData}
/-- _law_told(lambda: body) -/
theorem pe_told {Tb : List (Addr × Str)} {c P : Addr} {k : Nat} {params : Arguments} {body : Expr} {scope : Scope} {t : XK → TE} {p lpos pos : Pos} (T : Txt X.prog X.K X.mg CN fN CT fT) (mNT : PySem.W.exmOne X.K (.ref CN) (.ref CT) = some false)
    (F : Fun X.K "_law_told" "_law_told" sTold g fd) (hm : X.mg "_law_told" = some (.ref g)) (hg : Gl X "_law_told")
    (TB : TabB X.base X.mg c P) (hcode : X.env.code = .ref c) (hmT : (P, X.env.qual ++ "<lambda>") ∈ Tb) (hu : ∀ p ∈ Tb, p.1 = P → p.2 = X.env.qual ++ "<lambda>") (hr : Room (k + 2) X.A) (L : LamS X.env.scope scope) (hdef : defaultsOf params X.env = ([], []))
    (hbind : ∀ (q : Str) (cl : List (Str × Addr)) (pm cv ctv : Value), bindArgs (PySem.W.kla_fn "<lambda>" q params body scope cl pm cv ctv) ⟨[], []⟩ = pure [])
    (hbody : ∀ (A : Around) (outer : List Env) (s : Shared) (H : Hp) (E : XK) (f c' : Addr), Room k (A.deeper (lamEnv X scope s.heap.objs.size f c')) → PE (lamCx X A outer s H E scope f c') body (t E)) :
    PE X (.Call (.Name "_law_told" p) [.Lambda params body scope lpos] [] pos) (tLam Tb (TTell CN CT) t) := by
  have b := F.binds (ps := ["call"]) fun _ _ _ _ _ _ us hl => match us, hl with | [_], _ => rfl
  obtain ⟨oc, od, kV, doc, pm, an, cdv, ct, osl, e, lk, hcd⟩ := F.ex
  subst e
  exact pe_lamcall hg hm F.kp lk hcd b scTold rfl (.inl rfl) (told_tells T mNT) TB hcode hmT hu hr L hdef hbind hbody
end
abbrev sSpoil : Stmt := top 33
abbrev qS : Str := Str.ofString "_law_spoiled_right" ++ ".<locals>." ++ "<lambda>"
theorem scSpoil : FnScope ["m", "text", "found", "bad", "k", "ahead", "odd"] ["m", "text", "found"] (defScope sSpoil) := ⟨rfl, rfl, rfl, by decide +kernel, rfl, by decide +kernel, by decide +kernel⟩
/-- what begins no sign -/
def Bad (w : List Nat) : Prop := w.length ≤ 101 ∧ ∃ c t, w = c :: t ∧ c ≠ 32 ∧ ∀ r, sgn (w ++ 32 :: r) = none
/-- up to there all is right -/
def Pre (pre : List Nat) : Prop := ∀ r, (scanF (pre ++ 32 :: r) 0).2 = (scanF (32 :: r) pre.length).2
theorem pre_bad {pre w : List Nat} (h : Pre pre) (hb : Bad w) (r : List Nat) : (scanF (pre ++ [32] ++ w ++ 32 :: r) 0).2 = some (pre ++ [32]).length := by
  obtain ⟨_, c, t, rfl, hc, hs⟩ := hb
  have e : pre ++ [32] ++ (c :: t) ++ 32 :: r = pre ++ 32 :: ((c :: t) ++ 32 :: r) := by simp
  rw [e, h, scanF_sp]
  have h2 := hs r
  rw [List.cons_append] at h2 ⊢
  rw [scanF_no hc h2, List.length_append]; rfl
theorem Row.pre_all {l : List Nat} {gs : List Sg} {last : Str} (R : Row l gs last) (b : Nat) : Pre (l ++ sps b) := fun r => by
  have lb : (l ++ sps b).length = l.length + b := by rw [List.length_append]; unfold sps; rw [List.length_replicate]
  rw [List.append_assoc, R.go _ (fol_sps last b r), scanF_sps, lb]
theorem Row.pre_at {l : List Nat} {gs : List Sg} {last : Str} (R : Row l gs last) (b : Nat) {g : Sg} (h : g ∈ gs) : g.2.2 ≤ l.length ∧ Pre ((l ++ sps b).take g.2.2) := by
  obtain ⟨h1, h2⟩ := R.at_ g h
  refine ⟨h1, fun r => ?_⟩
  rw [List.take_append_of_le_length h1, h2 r, List.length_take, Nat.min_eq_left h1]
theorem Sgs.at_ {H : Hp} : ∀ {xs : List V} {gs : List Sg}, Sgs H xs gs → ∀ (i : Nat), i < xs.length → ∃ a g, xs[i]? = some (.ref a) ∧ g ∈ gs ∧ H a = some (.tup [.str g.1, .str (tx g.2.1), .int (g.2.2 : Nat)])
  | _, _, .nil, i, h => absurd h (Nat.not_lt_zero _)
  | _, _, .cons (a := x) (b := g) c r, i, h => by
    cases i with
    | zero =>
      obtain ⟨a, e1, e2⟩ := c
      exact ⟨a, g, by rw [e1]; rfl, List.mem_cons_self, e2⟩
    | succ i =>
      obtain ⟨a, g', e1, e2, e3⟩ := Sgs.at_ r i (Nat.lt_of_succ_lt_succ h)
      exact ⟨a, g', e1, List.mem_cons_of_mem _ e2, e3⟩
theorem Sgs.len {H : Hp} : ∀ {xs : List V} {gs : List Sg}, Sgs H xs gs → xs.length = gs.length
  | _, _, .nil => rfl
  | _, _, .cons _ r => congrArg Nat.succ (Sgs.len r)
theorem cut0 {l : List Nat} {j : Nat} {H : Hp} {Q : VK} (hl : l.length ≤ 100000) (hj : j ≤ l.length) (q : Q (.str (tx (l.take j))) H) : rSlS (.str (tx l)) none (some (j : Int)) H Q := by
  refine ⟨_, rfl, Nat.le_trans (Nat.le_of_eq (tx_len _)) (sz100 hl), ?_⟩
  have e : cutS (tx l) none (some (j : Int)) = tx (l.take j) := by
    have := tx_cut l 0 j (Nat.zero_le _) (Nat.zero_le _)
    rw [List.drop_zero, Nat.sub_zero] at this
    rw [← this]
    unfold cutS
    rw [HT.sIx_nat, HT.sIx_none, show ((0 : Nat) : Int) = 0 from rfl, show HT.sIx (tx l).length 0 (some 0) = 0 from (HT.sIx_nat _ _ 0).trans (Nat.zero_min _)]
  rw [e]; exact q
theorem txlen2 (a b : List Nat) (n : Nat) (h : a.length + b.length ≤ n) (hn : n ≤ 100000) : (tx a).length + (tx b).length ≤ sizeLine := by
  rw [tx_len, tx_len]; exact Nat.le_trans (Nat.le_trans h hn) (by decide)
def spSpoil (T : List (Addr × Str)) : Sp := fun vs H Q _ => ∃ (m c p : Addr) (n : Nat) (l : List Nat) (xs : List V) (gs : List Sg) (last : Str) (b : Nat), vs = [.ref m, .str (tx (l ++ sps b)), .ref p] ∧ MSt H m c n ∧ n < 2 ^ 30 ∧ H p = some (.lst xs) ∧ Sgs H xs gs ∧ Row l gs last ∧ gs.length ≤ 60 ∧ (l ++ sps b).length < 2000 ∧ Tabs T H ∧
  ∀ H', MSt H' m c (n + 4) → ButN m H H' → Tabs T H' → Q (.bl true) H'
section
variable {P : Program} {w : World} {K : PySem.W.Frag} {mg : Str → Option Value} {base : Heap} {f cS pS g CN fN CT fT : Addr} {fd fdT : FuncData} {Tb : List (Addr × Str)}
theorem ok_spoil (T : Txt P K mg CN fN CT fT) (mNT : PySem.W.exmOne K (.ref CN) (.ref CT) = some false) (FT : Fun K "_law_told" "_law_told" sTold g fdT) (gT : mg "_law_told" = some (.ref g))
    (cD : Cl P w K mg base CX0 1 "_law_draw" ["m", "span"] spDraw) (cO : Cl P w K mg base CX0 2 "_law_of" ["m", "some"] (spOf K)) (cK : ClG P w K mg base CX0 1 "_law_like" ["told", "due"] (spLike K)) (cS5 : Cl P w K mg base (L2.CX P w) 5 "signs_of" ["string"] (spSignsOf K CT))
    (TB : TabB base mg cS pS) (hC : codeOf K f = some (.ref cS)) (hmT : (pS, qS) ∈ Tb) (hu : ∀ p ∈ Tb, p.1 = pS → p.2 = qS)
    (F : Fun K "_law_spoiled_right" "_law_spoiled_right" sSpoil f fd) : FnG P w K mg base CX0 8 f fd ["m", "text", "found"] (spSpoil Tb) := by
  refine Fun.okG F scSpoil (fun vs H Q E h => ?_) (fun cdv A outer s H vs Q E lk hr hG h => ?_)
  · obtain ⟨m, c, p, n, l, xs, gs, last, b, rfl, _⟩ := h; rfl
  · have ecd : cdv = .ref cS := by rw [hC] at lk; exact (Option.some.inj lk).symm
    subst ecd
    refine ⟨_, PSs.nox (pss_cons (ps_set (i := 3) scSpoil.nd rfl (Or.inl rfl) (pe_cl cO hr (by decide) rfl pass0 (pa_cons (pv 0) (pa_cons (pe_lst (pa_cons pe_str (pa_cons pe_str (pa_cons (pe_op op_repS pe_str pe_int) (pa_cons (pe_op op_repS pe_str pe_int) (pa_cons (pe_op op_repS pe_str pe_int)
        (pa_cons pe_str (pa_cons pe_str (pa_cons pe_str (pa_cons pe_str (pa_cons pe_str (pa_cons pe_str (pa_cons pe_str (pa_cons pe_str (pa_cons pe_str (pa_cons pe_str (pa_cons pe_str (pa_cons pe_str (pa_cons pe_str pa_nil))))))))))))))))))) pa_nil))))
      (pss_cons (ps_set (i := 4) scSpoil.nd rfl (Or.inl rfl) (pe_cl cD hr (by decide) rfl pass0 (pa_cons (pv 0) (pa_cons (pe_op op_add (pe_callB call_len rfl T.nLen (by decide +kernel) (pa_cons (pv 2) pa_nil)) pe_int) pa_nil))))
      (pss_cons (ps_set (i := 5) scSpoil.nd rfl (Or.inl rfl) (pe_ifExp (pt_cmpR op_lt (pv 4) (pe_callB call_len rfl T.nLen (by decide +kernel) (pa_cons (pv 2) pa_nil)) (by rfl)) (pe_slice sl_str (pv 1) po_none (po_some (pe_ix ix_tup (pe_ix ix_list (pv 2) (pv 4) (fun _ _ => rfl)) pe_int (fun _ _ => rfl)))) (pv 1)))
      (pss_cons (ps_set (i := 5) scSpoil.nd rfl (Or.inl rfl) (pe_op op_add_str (pv 5) pe_str))
      (pss_cons (ps_set (i := 6) scSpoil.nd rfl (Or.inr rfl) (pe_op op_add_str (pe_op op_add_str (pe_op op_add_str (pv 5) (pv 3)) (pe_cl cO hr (by decide) rfl pass0 (pa_cons (pv 0) (pa_cons (pe_lst (pa_cons pe_str (pa_cons pe_str pa_nil))) pa_nil))))
        (pe_ifExp (pt_cmpR op_eq (pe_cl cD hr (by decide) rfl pass0 (pa_cons (pv 0) (pa_cons pe_int pa_nil))) pe_int (by rfl)) (pe_op op_add_str pe_str (pv 1)) pe_str)))
      (pss_one (ps_ret (pe_clG cK hr (by exact hG) (by decide) rfl pass0 (pa_cons (pe_told T mNT FT gT rfl TB rfl (by exact hmT) (by exact hu) hr (lamS_by (sc := defScope sSpoil) (by decide +kernel)) rfl (fun _ _ _ _ _ => rfl)
          (fun A outer s H E f c' hr2 => pe_cl cS5 hr2 (by decide) rfl (passes_call (takes_of rfl rfl rfl rfl) (fun _ _ _ _ z => z)) (pa_cons (pv 6) pa_nil)))
        (pa_cons (pe_tup (pa_cons pe_str (pa_cons (pe_callB call_len rfl T.nLen (by decide +kernel) (pa_cons (pv 5) pa_nil)) pa_nil))) pa_nil)))))))))), ?_⟩
    obtain ⟨m, c, p, n, l, xs, gs, last, b, rfl, hm, hn, hp, hsg, R, hg60, hl, hT, q⟩ := h
    have hxs : xs.length = gs.length := hsg.len
    dsimp only [L2.tSeq, L2.tIfS, L2.tOr, L2.tAnd, L2.tNot, L2.tB, L2.tTest, L2.tCB, L2.tCons, L2.tNil, L2.tVar, L2.tC, L2.tRet, L2.tNext, L2.tAsg, L2.gName, L2.tCall, L2.tOp, L2.tOrV, L2.tNotV, L2.tChain, L2.tDrop, L2.tAug, L2.tYes, L2.tIfT, L2.tPar3, L2.tDisp, L2.tPairs, L2.tDGet, L2.sDPut, L2.tThen, L2.kTup, L2.gTup, L2.gCons, L2.gNil, L2.tPar, L2.tLst, L2.tBM, L2.tTup, L2.tSl, L2.tPart, L2.tNoPart, List.map, List.append_nil]
    refine ⟨_, rfl, [57], 101, rfl, rfl, (by decide), (by decide), [48], 2, rfl, rfl, (by decide), (by decide), [113], 17, rfl, rfl, (by decide), (by decide), of_lit hm (by omega) (by simp) (by simp) fun v H1 hv hm1 b1 => ?_⟩
    obtain ⟨wd, rfl, hbad⟩ : ∃ wd : List Nat, v = .str (tx wd) ∧ Bad wd := by
      simp only [List.mem_cons, List.not_mem_nil, or_false] at hv
      rcases hv with rfl | rfl | rfl | rfl | rfl | rfl | rfl | rfl | rfl | rfl | rfl | rfl | rfl | rfl | rfl | rfl | rfl | rfl
      · exact ⟨[48, 48], rfl, by decide, 48, [48], rfl, by decide, fun r => rfl⟩
      · exact ⟨[48, 49], rfl, by decide, 48, [49], rfl, by decide, fun r => rfl⟩
      · exact ⟨(List.replicate 101 [57]).flatten, rfl, by decide, 57, (List.replicate 100 [57]).flatten, rfl, by decide, fun r => rfl⟩
      · exact ⟨(List.replicate 2 [48]).flatten, rfl, by decide, 48, (List.replicate 1 [48]).flatten, rfl, by decide, fun r => rfl⟩
      · exact ⟨(List.replicate 17 [113]).flatten, rfl, by decide, 113, (List.replicate 16 [113]).flatten, rfl, by decide, fun r => rfl⟩
      · exact ⟨[65], rfl, by decide, 65, [], rfl, by decide, fun r => rfl⟩
      · exact ⟨[60], rfl, by decide, 60, [], rfl, by decide, fun r => rfl⟩
      · exact ⟨[60, 60, 61], rfl, by decide, 60, [60, 61], rfl, by decide, fun r => rfl⟩
      · exact ⟨[33], rfl, by decide, 33, [], rfl, by decide, fun r => rfl⟩
      · exact ⟨[95], rfl, by decide, 95, [], rfl, by decide, fun r => rfl⟩
      · exact ⟨[46], rfl, by decide, 46, [], rfl, by decide, fun r => rfl⟩
      · exact ⟨[47], rfl, by decide, 47, [], rfl, by decide, fun r => rfl⟩
      · exact ⟨[126], rfl, by decide, 126, [], rfl, by decide, fun r => rfl⟩
      · exact ⟨[9], rfl, by decide, 9, [], rfl, by decide, fun r => rfl⟩
      · exact ⟨[35], rfl, by decide, 35, [], rfl, by decide, fun r => rfl⟩
      · exact ⟨[39], rfl, by decide, 39, [], rfl, by decide, fun r => rfl⟩
      · exact ⟨[123], rfl, by decide, 123, [], rfl, by decide, fun r => rfl⟩
      · exact ⟨[124], rfl, by decide, 124, [], rfl, by decide, fun r => rfl⟩
    have hp1 : H1 p = some (.lst xs) := b1 _ _ (hm.nel hp) hp
    refine ⟨_, rfl, _, rfl, _, _, rfl, .inl ⟨xs, SqL.of hp1, rfl⟩, _, _, rfl, rfl, draw_at (xs.length + 1) hm1 (by omega) (by omega) (by omega) fun k H2 hk hm2 b2 => ?_⟩
    have hp2 : H2 p = some (.lst xs) := b2 _ _ (hm1.nel hp1) hp1
    have sg2 : Sgs H2 xs gs := Sgs.but hm1 b2 (Sgs.but hm b1 hsg)
    have T2 : Tabs Tb H2 := Tabs.but (Tabs.but hT hm b1) hm1 b2
    refine gen_Q fun Q' eQ => ?_
    have rest : ∀ pre : List Nat, Pre pre → pre.length < 2000 → Q' (.str (tx pre)) H2 := by
      intro pre hpre hpl
      rw [eQ]
      dsimp only [L2.tSeq, L2.tIfS, L2.tOr, L2.tAnd, L2.tNot, L2.tB, L2.tTest, L2.tCB, L2.tCons, L2.tNil, L2.tVar, L2.tC, L2.tRet, L2.tNext, L2.tAsg, L2.gName, L2.tCall, L2.tOp, L2.tOrV, L2.tNotV, L2.tChain, L2.tDrop, L2.tAug, L2.tYes, L2.tIfT, L2.tPar3, L2.tDisp, L2.tPairs, L2.tDGet, L2.sDPut, L2.tThen, L2.kTup, L2.gTup, L2.gCons, L2.gNil, L2.tPar, L2.tLst, L2.tBM, L2.tTup, L2.tSl, L2.tPart, L2.tNoPart, List.map, List.append_nil]
      refine ⟨_, rfl, _, _, rfl, rfl, txlen2 pre [32] 3000 (by simp only [List.length_singleton]; omega) (by decide), _, rfl, _, rfl, _, _, rfl, rfl, ?_, _, rfl, of_lit hm2 (by omega) (by simp) (by simp) fun v H3 hv hm3 b3 => ?_⟩
      · rw [show (tx pre ++ Str.ofString " ") = tx (pre ++ [32]) from tx_app pre [32]]
        exact txlen2 _ _ 3000 (by have := hbad.1; rw [List.length_append]; simp only [List.length_singleton]; omega) (by decide)
      obtain ⟨z, rfl, hz⟩ : ∃ z : List Nat, v = .str (tx z) ∧ (z = [] ∨ z = [32]) := by
        simp only [List.mem_cons, List.not_mem_nil, or_false] at hv
        rcases hv with rfl | rfl
        · exact ⟨[], rfl, .inl rfl⟩
        · exact ⟨[32], rfl, .inr rfl⟩
      have e1 : (tx pre ++ Str.ofString " ") = tx (pre ++ [32]) := tx_app pre [32]
      rw [e1, tx_app]
      have lw := hbad.1
      have lz : z.length ≤ 1 := by rcases hz with rfl | rfl <;> decide
      refine ⟨_, _, rfl, rfl, txlen2 _ _ 3000 (by rw [List.length_append, List.length_append]; simp only [List.length_singleton]; omega) (by decide), ?_⟩
      rw [tx_app]
      have hp3 : H3 p = some (.lst xs) := b3 _ _ (hm2.nel hp2) hp2
      have T3 : Tabs Tb H3 := Tabs.but T2 hm2 b3
      refine gen_Q fun Q2 eQ2 => ?_
      have rest2 : ∀ (u : List Nat) (H4 : Hp), (∃ r, u = 32 :: r) → u.length ≤ 2000 → MSt H4 m c (n + 1 + 1 + 1 + 1) → But m H3 H4 → Q2 (.str (tx u)) H4 := by
        intro u H4 hu hul hm4 b4
        rw [eQ2]
        have T4 : Tabs Tb H4 := Tabs.but T3 hm3 b4
        have lo : (pre ++ [32] ++ wd ++ z ++ u).length ≤ 5000 := by rw [List.length_append, List.length_append, List.length_append, List.length_append]; simp only [List.length_singleton]; omega
        dsimp only [L2.tSeq, L2.tIfS, L2.tOr, L2.tAnd, L2.tNot, L2.tB, L2.tTest, L2.tCB, L2.tCons, L2.tNil, L2.tVar, L2.tC, L2.tRet, L2.tNext, L2.tAsg, L2.gName, L2.tCall, L2.tOp, L2.tOrV, L2.tAndV, L2.tNotV, L2.tChain, L2.tIf, L2.tDrop, L2.tAug, L2.tYes, L2.tIfT, L2.tPar3, L2.tDisp, L2.tPairs, L2.tDGet, L2.sDPut, L2.tThen, L2.kTup, L2.gTup, L2.gCons, L2.gNil, L2.tPar, L2.tLst, L2.tBM, L2.tTup, L2.tSl, L2.tPart, L2.tNoPart, List.map, List.append_nil]
        refine ⟨_, _, rfl, rfl, txlen2 _ _ 5000 (by rw [← List.length_append]; exact lo) (by decide), ?_⟩
        rw [tx_app]
        have stop : (scanF (pre ++ [32] ++ wd ++ z ++ u) 0).2 = some (pre ++ [32]).length := by
          obtain ⟨r, rfl⟩ := hu
          rcases hz with rfl | rfl
          · rw [List.append_nil]; exact pre_bad hpre hbad r
          · rw [List.append_assoc (pre ++ [32] ++ wd)]; exact pre_bad hpre hbad (32 :: r)
        refine ⟨T4, fun H5 e5 T5 => ?_⟩
        unfold TTell
        dsimp only [L2.tSeq, L2.tIfS, L2.tOr, L2.tAnd, L2.tNot, L2.tB, L2.tTest, L2.tCB, L2.tCons, L2.tNil, L2.tVar, L2.tC, L2.tRet, L2.tNext, L2.tAsg, L2.gName, L2.tCall, L2.tOp, L2.tOrV, L2.tAndV, L2.tNotV, L2.tChain, L2.tIf, L2.tDrop, L2.tAug, L2.tYes, L2.tIfT, L2.tPar3, L2.tDisp, L2.tPairs, L2.tDGet, L2.sDPut, L2.tThen, L2.kTup, L2.gTup, L2.gCons, L2.gNil, L2.tPar, L2.tLst, L2.tBM, L2.tTup, L2.tSl, L2.tPart, L2.tNoPart, List.map, List.append_nil]
        refine ⟨_, rfl, _, rfl, .inl ⟨_, rfl, Nat.le_trans lo (by decide), fun _ h2 => ?_, fun _ i hi H6 d s6 hd => ?_, fun h => absurd lo (Nat.not_le_of_lt h)⟩⟩
        · have : (scanF (pre ++ [32] ++ wd ++ z ++ u) 0).2 = none := h2
          rw [stop] at this; cases this
        · have hi : (scanF (pre ++ [32] ++ wd ++ z ++ u) 0).2 = some i := hi
          rw [stop] at hi
          cases hi
          refine ⟨CT, d, S' "number", S' "text", _, rfl, rfl, .inl ⟨rfl, rfl, rfl⟩, upd_same, fun t ht => ?_⟩
          have hpl2 : (pre ++ [32]).length ≤ 3000 := by rw [List.length_append]; simp only [List.length_singleton]; omega
          refine ⟨_, rfl, _, _, rfl, len_tx (z := pre ++ [32]) (by omega), (show 2 ≤ sizeLine by decide), fun u2 hu2 => ?_⟩
          have s7 : Same H5 (upd H6 d (.xd [(S' "number", .int ((pre ++ [32]).length : Nat))])) := same_upd s6 (s6.free hd)
          have s8 := s7.trans (same_upd (o := .tup [.str (S' "text"), .int ((pre ++ [32]).length : Nat)]) (Same.refl _) ht)
          have s9 := s8.trans (same_upd (o := .tup [.str (S' "text"), .int ((pre ++ [32]).length : Nat)]) (Same.refl _) hu2)
          have tu : t ≠ u2 := fun z => by rw [← z, upd_same] at hu2; cases hu2
          have dd : ∀ (H : Hp) (a : Addr), H a = some (.tup [.str (S' "text"), .int ((pre ++ [32]).length : Nat)]) → Dp K H (.ref a) (.tuple [.str (S' "text"), .int ((pre ++ [32]).length : Nat)]) := fun H a h => .tup (SqT.of h) (.cons (.str _) (.cons (.int _) .nil))
          refine ⟨.ref t, .ref u2, _, rfl, dd _ t ((upd_ne tu).trans upd_same), dd _ u2 upd_same, .inl ⟨t, rfl⟩, .inl ⟨u2, rfl⟩, ?_, ?_⟩
          · refine Lk.mono (k' := 60) (n' := 2 ^ 20) (Lk.tup (LkAll.cons (Lk.mono (Lk.str (l := [116, 101, 120, 116]) (by decide)) (Nat.zero_le 1) (show 4 ≤ 10 by decide)) (LkAll.cons ((Lk.int (i := ((pre ++ [32]).length : Nat)) (by omega)).mono (Nat.zero_le 1) (Nat.le_refl 60)) (LkAll.nil 1)))) (by decide) (by decide)
          · exact q _ (L2.MSt.but (MSt.ext hm4 e5) s9) (ButN.trans (ButN.trans (But.n (((b1.trans b2).trans b3).trans b4)) (ExtN.n e5)) (But.n (Same.but s9))) (Tabs.ext T5 s9)
      dsimp only [L2.tSeq, L2.tIfS, L2.tOr, L2.tAnd, L2.tNot, L2.tB, L2.tTest, L2.tCB, L2.tCons, L2.tNil, L2.tVar, L2.tC, L2.tRet, L2.tNext, L2.tAsg, L2.gName, L2.tCall, L2.tOp, L2.tOrV, L2.tAndV, L2.tNotV, L2.tChain, L2.tIf, L2.tDrop, L2.tAug, L2.tYes, L2.tIfT, L2.tPar3, L2.tDisp, L2.tPairs, L2.tDGet, L2.sDPut, L2.tThen, L2.kTup, L2.gTup, L2.gCons, L2.gNil, L2.tPar, L2.tLst, L2.tBM, L2.tTup, L2.tSl, L2.tPart, L2.tNoPart, List.map, List.append_nil]
      refine ⟨_, rfl, draw_at 2 hm3 (by omega) (by decide) (by decide) fun r0 H4 _ hm4 b4 => ⟨rfl, _, rfl, ite_eqi (m := 0) (fun _ => ⟨_, rfl, _, _, rfl, rfl, txlen2 [32] (l ++ sps b) 3000 (by simp only [List.length_singleton]; omega) (by decide), ?_⟩) (fun _ => rest2 [32, 33] H4 ⟨_, rfl⟩ (by decide) hm4 b4)⟩⟩
      rw [show (Str.ofString " " ++ tx (l ++ sps b)) = tx ([32] ++ (l ++ sps b)) from tx_app [32] _]
      exact rest2 _ H4 ⟨_, rfl⟩ (by rw [List.length_append]; simp only [List.length_singleton]; omega) hm4 b4
    dsimp only [L2.tSeq, L2.tIfS, L2.tOr, L2.tAnd, L2.tNot, L2.tB, L2.tTest, L2.tCB, L2.tCons, L2.tNil, L2.tVar, L2.tC, L2.tRet, L2.tNext, L2.tAsg, L2.gName, L2.tCall, L2.tOp, L2.tOrV, L2.tAndV, L2.tNotV, L2.tChain, L2.tIf, L2.tDrop, L2.tAug, L2.tYes, L2.tIfT, L2.tPar3, L2.tDisp, L2.tPairs, L2.tDGet, L2.sDPut, L2.tThen, L2.kTup, L2.gTup, L2.gCons, L2.gNil, L2.tPar, L2.tLst, L2.tBM, L2.tTup, L2.tSl, L2.tPart, L2.tNoPart, List.map, List.append_nil]
    refine ⟨_, rfl, _, rfl, _, _, rfl, .inl ⟨xs, SqL.of hp2, rfl⟩, _, _, rfl, rfl, _, rfl, ite2 (fun hlt => ?_) (fun hlt => ⟨_, rfl, rest _ (R.pre_all b) hl⟩)⟩
    have hlt : k < xs.length := by have := of_decide_eq_true hlt; omega
    obtain ⟨a, g, ga, gm, gt⟩ := sg2.at_ k hlt
    obtain ⟨g1, g2⟩ := R.pre_at b gm
    have l1 : g.2.2 ≤ (l ++ sps b).length := by rw [List.length_append]; omega
    exact ⟨_, rfl, _, rfl, _, rfl, p, xs, _, _, rfl, rfl, SqL.of hp2, atI_nat ga, a, _, 2, _, rfl, rfl, SqT.of gt, rfl, _, rfl, cut0 (by omega) l1 (rest _ g2 (by rw [List.length_take]; omega))⟩
end
end K8
set_option Elab.async false
set_option linter.all false
set_option maxRecDepth 100000
set_option maxHeartbeats 2000000
namespace K8
open PySem PySem.Spec PyProof.Rows L2
abbrev sKeptW : Stmt := top 19
theorem scKeptW : FnScope [] [] (defScope sKeptW) := ⟨rfl, rfl, rfl, by decide +kernel, rfl, by decide +kernel, by decide +kernel⟩
def keptL : List Str := ["and", "ann", "back", "beside", "by", "common", "det", "divisor", "else", "ext", "false", "finite", "fitting", "frame", "free", "from", "given", "grow", "hom", "hull", "if", "in", "index", "killed", "matrix", "meet", "module", "not", "of", "or", "part", "pure", "rank", "relations", "row", "rule", "size", "span", "stack", "steps", "sum", "tell", "tensor", "then", "ties", "to", "tor", "true", "truth", "turn", "width", "x"].map S'
theorem lt_cps : ∀ a b : List Nat, ltCps a b = true ↔ a < b
  | [], [] => by simp [ltCps]
  | [], _ :: _ => by simp [ltCps]
  | _ :: _, [] => by simp [ltCps]
  | a :: r, b :: t => by
    unfold ltCps
    rw [List.cons_lt_cons_iff, ← lt_cps r t]
    simp
def leS (x y : Str) : Prop := x.cps.toList ≤ y.cps.toList
theorem leS_iff {x y : Str} : (!ltCps y.cps.toList x.cps.toList) = true ↔ leS x y := by
  unfold leS
  rw [← List.not_lt, ← lt_cps, Bool.not_eq_true', Bool.not_eq_true]
theorem rising_le : ∀ (l : List Str) (p : Str), risingS p l = true → (p :: l).Pairwise leS
  | [], p, _ => List.pairwise_singleton _ _
  | x :: l, p, h => by
    unfold risingS at h
    rw [Bool.and_eq_true] at h
    have r := rising_le l x h.2
    have px := leS_iff.mp h.1
    refine List.pairwise_cons.mpr ⟨fun y hy => ?_, r⟩
    rcases List.mem_cons.mp hy with e | e
    · rw [e]; exact px
    · exact List.le_trans px ((List.pairwise_cons.mp r).1 y e)
theorem sorted_le {l : List Str} (h : sortedS l = true) : l.Pairwise leS := by
  cases l with
  | nil => exact .nil
  | cons x l => exact rising_le l x h
theorem sorted_one {a b : List Str} (p : a.Perm b) (ha : sortedS a = true) (hb : sortedS b = true) : a = b := by
  refine p.eq_of_pairwise (le := leS) (fun x y _ _ h1 h2 => ?_) (sorted_le ha) (sorted_le hb)
  have e := List.le_antisymm h1 h2
  obtain ⟨⟨cx⟩⟩ := x
  obtain ⟨⟨cy⟩⟩ := y
  have : cx = cy := e
  rw [this]
theorem kept_perm : ((kinds ++ frameW ++ oneW ++ twoW ++ numW).foldl meet []).Perm keptL := by decide +kernel
theorem kept_sorted : sortedS keptL = true := by decide +kernel
def spKeptW : Sp := fun vs H Q _ => vs = [] ∧ ∀ t H', H' t = some (.tup (keptL.map V.str)) → Same H H' → Q (.ref t) H'
section
variable {P : Program} {w : World} {K : PySem.W.Frag} {mg : Str → Option Value} {base : Heap} {f : Addr} {fd : FuncData} {CN fN CT fT : Addr}
theorem ok_keptW (T : Txt P K mg CN fN CT fT) (F : Fun K "kept_words" "kept_words" sKeptW f fd) : FnOk P w K mg base CX0 1 f fd [] spKeptW := by
  obtain ⟨a1, g1, k1⟩ := T.kinds
  obtain ⟨a2, g2, k2⟩ := T.frameW
  obtain ⟨a3, g3, k3⟩ := T.oneW
  obtain ⟨a4, g4, k4⟩ := T.twoW
  obtain ⟨a5, g5, k5⟩ := T.numW
  refine F.ok scKeptW (fun vs H Q E h => ?_) (fun cdv A outer s H vs Q E hr h => ?_)
  · rw [h.1]; rfl
  · refine ⟨_, PSs.nox (pss_one (ps_ret (pe_tupleOf rfl T.nTup (pe_sset rfl rfl T.nSorted rfl T.nSet (pe_op op_catT (pe_op op_catT (pe_op op_catT (pe_op op_catT (pe_glob (v := .ref a1) rfl g1 rfl) (pe_glob (v := .ref a2) rfl g2 rfl))
      (pe_glob (v := .ref a3) rfl g3 rfl)) (pe_glob (v := .ref a4) rfl g4 rfl)) (pe_glob (v := .ref a5) rfl g5 rfl)))))), ?_⟩
    obtain ⟨rfl, q⟩ := h
    unfold tSSet
    dsimp only [L2.tSeq, L2.tIfS, L2.tOr, L2.tAnd, L2.tNot, L2.tB, L2.tTest, L2.tCB, L2.tCons, L2.tNil, L2.tVar, L2.tC, L2.tRet, L2.tNext, L2.tAsg, L2.gName, L2.tCall, L2.tOp, L2.tOrV, L2.tAndV, L2.tNotV, L2.tChain, L2.tIf, L2.tDrop, L2.tAug, L2.tYes, L2.tIfT, L2.tPar3, L2.tDisp, L2.tPairs, L2.tDGet, L2.sDPut, L2.tThen, L2.kTup, L2.gTup, L2.gCons, L2.gNil, L2.tPar, L2.tLst, L2.tBM, L2.tTup, L2.tSl, L2.tPart, L2.tNoPart, List.map, List.append_nil]
    refine ⟨a1, a2, _, _, rfl, rfl, k1 _, k2 _, by decide, (by decide), fun z => (by cases z), fun _ p1 n1 => ?_⟩
    have s1 := same_upd (o := .tup (kinds.map V.str ++ frameW.map V.str)) (Same.refl H) n1
    refine ⟨p1, a3, _, _, rfl, rfl, SqT.of upd_same, k3 _, by decide, (by decide), fun z => (by cases z), fun _ p2 n2 => ?_⟩
    refine ⟨p2, a4, _, _, rfl, rfl, SqT.of upd_same, k4 _, by decide, (by decide), fun z => (by cases z), fun _ p3 n3 => ?_⟩
    refine ⟨p3, a5, _, _, rfl, rfl, SqT.of upd_same, k5 _, by decide, (by decide), fun z => (by cases z), fun _ p4 n4 => ?_⟩
    refine ⟨p4, kinds ++ frameW ++ oneW ++ twoW ++ numW, rfl, SqT.of (upd_same.trans (by simp only [List.map_append])), by decide, fun ys p hy hs hp => .inl ⟨p, _, rfl, SqL.of upd_same, fun t ht => ?_⟩⟩
    have e := sorted_one (hy.trans kept_perm) hs kept_sorted
    subst e
    exact q t _ upd_same (((((s1.trans (same_upd (Same.refl _) n2)).trans (same_upd (Same.refl _) n3)).trans (same_upd (Same.refl _) n4)).trans (same_upd (Same.refl _) hp)).trans (same_upd (Same.refl _) ht))
end
end K8
set_option Elab.async false
set_option linter.all false
set_option maxRecDepth 100000
set_option maxHeartbeats 4000000
namespace K8
open PySem PySem.Spec PyProof.Rows L2 LamX
/-- a value that is no name -/
def OddV (H : Hp) (v : V) : Prop := (∃ z : List Nat, v = .str (tx z) ∧ z.length ≤ 100 ∧ z.all (fun c => decide (c < 1114112)) = true ∧ nameB z = false) ∨ v = .int 5 ∨ v = .non ∨ v = .bl true ∨ (∃ a, v = .ref a ∧ H a = some (.lst [.str (tx [97])])) ∨ (∃ a, v = .ref a ∧ H a = some (.tup [.str (tx [97])]))
theorem OddV.ext {H H' : Hp} {v : V} (h : OddV H v) (e : ExtN H H') : OddV H' v := by
  rcases h with h | h | h | h | ⟨a, h1, h2⟩ | ⟨a, h1, h2⟩
  · exact .inl h
  · exact .inr (.inl h)
  · exact .inr (.inr (.inl h))
  · exact .inr (.inr (.inr (.inl h)))
  · exact .inr (.inr (.inr (.inr (.inl ⟨a, h1, e _ _ h2 (fun ps z => by cases z)⟩))))
  · exact .inr (.inr (.inr (.inr (.inr ⟨a, h1, e _ _ h2 (fun ps z => by cases z)⟩))))
theorem lkA : Lk 1 4 (.str (tx [97])) := (Lk.str (by decide)).mono (by decide) (by decide)
theorem OddV.dat {K : PySem.W.Frag} {H : Hp} {v : V} (h : OddV H v) : ∃ d, Lk 3 200 d ∧ Dp K H v d := by
  rcases h with ⟨z, rfl, h2, h3, _⟩ | rfl | rfl | rfl | ⟨a, rfl, h2⟩ | ⟨a, rfl, h2⟩
  · exact ⟨_, (Lk.str h3).mono (by decide) (by omega), .str _⟩
  · exact ⟨_, (Lk.int (i := 5) (by decide)).mono (by decide) (by decide), .int _⟩
  · exact ⟨_, Lk.non.mono (by decide) (by decide), .non⟩
  · exact ⟨_, (Lk.bl true).mono (by decide) (by decide), .bl _⟩
  · exact ⟨_, (Lk.lst (LkAll.cons lkA (LkAll.nil 1))).mono (by decide) (by decide), .lst (SqL.of h2) (.cons (.str _) .nil)⟩
  · exact ⟨_, (Lk.tup (LkAll.cons lkA (LkAll.nil 1))).mono (by decide) (by decide), .tup (SqT.of h2) (.cons (.str _) .nil)⟩
theorem OddV.ty {K : PySem.W.Frag} {H : Hp} {v : V} (h : OddV H v) : (∃ z : List Nat, v = .str (tx z) ∧ z.length ≤ 100000 ∧ nameB z = false) ∨ ∃ t, TyX K H v t ∧ PySem.W.kitOne K t (.type "str") = some false := by
  rcases h with ⟨z, h1, h2, _, h3⟩ | rfl | rfl | rfl | ⟨a, rfl, h2⟩ | ⟨a, rfl, h2⟩
  · exact .inl ⟨z, h1, by omega, h3⟩
  · exact .inr ⟨_, .base (.int _), kit_ty (by decide +kernel)⟩
  · exact .inr ⟨_, .base .non, kit_ty (by decide +kernel)⟩
  · exact .inr ⟨_, .base (.bl _), kit_ty (by decide +kernel)⟩
  · exact .inr ⟨_, .base (.lst h2), kit_ty (by decide +kernel)⟩
  · exact .inr ⟨_, .base (.tup h2), kit_ty (by decide +kernel)⟩
theorem SqL.extN {K : PySem.W.Frag} {H H' : Hp} {a : Addr} {xs : List V} (e : ExtN H H') (h : SqL K H a xs) : SqL K H' a xs := by
  rcases h with (h | ⟨o, h⟩) | h
  · exact .inl (.inl (e _ _ h (fun ps z => by cases z)))
  · exact .inl (.inr ⟨o, e _ _ h (fun ps z => by cases z)⟩)
  · exact .inr h
theorem Tabs.lst {T : List (Addr × Str)} {H : Hp} {D : Addr} {xs ys : List V} (t : Tabs T H) (h : H D = some (.lst xs)) : Tabs T (upd H D (.lst ys)) := fun p hp => by
  obtain ⟨ps, a1, a2, a3⟩ := t p hp
  refine ⟨ps, (upd_ne (fun z => by rw [z, h] at a1; cases a1)).trans a1, a2, fun pos cv hc => ?_⟩
  obtain ⟨c, b1, b2⟩ := a3 pos cv hc
  exact ⟨c, b1, (upd_ne (fun z => by rw [z, h] at b2; unfold CodeO at b2; cases b2)).trans b2⟩
theorem Same.x {H H' : Hp} (s : Same H H') : ExtN H H' := ExtN.of s
theorem ExtN.lst {H H' : Hp} (e : ExtN H H') {D : Addr} {ys : List V} (h : H D = none) : ExtN H (upd H' D (.lst ys)) := fun b o hb n => by
  rw [upd_ne (fun z => by rw [z, h] at hb; cases hb)]; exact e b o hb n
theorem gen_heap {D : Ends} {σ : L2.St} {Hx : Hp} (F : Hp → Prop) (k : ∀ HA, F HA → D.nx σ HA) (f : F Hx) : D.nx σ Hx := k Hx f
theorem tup_at {H : Hp} {xs : List V} {C : VK} (hl : xs.length ≤ sizeLine) (k : ∀ p H', Same H H' → H' p = some (.tup xs) → C (.ref p) H') : xs.length ≤ sizeLine ∧ ∀ p, H p = none → C (.ref p) (upd H p (.tup xs)) := ⟨hl, fun p hp => k p _ (same_upd (Same.refl H) hp) upd_same⟩
theorem lst_at {H : Hp} {xs : List V} {C : VK} (hl : xs.length ≤ sizeLine) (k : ∀ p H', Same H H' → H p = none → H' p = some (.lst xs) → C (.ref p) H') : xs.length ≤ sizeLine ∧ ∀ p, H p = none → C (.ref p) (upd H p (.lst xs)) := ⟨hl, fun p hp => k p _ (same_upd (Same.refl H) hp) hp upd_same⟩
theorem tup3 {a b c : V} {σ : L2.St} {H : Hp} {Q : VK} (k : ∀ p H', Same H H' → H' p = some (.tup [a, b, c]) → Q (.ref p) H') : tTup (tCons (tC a) (tCons (tC b) (tCons (tC c) tNil))) σ H Q := ⟨(show 3 ≤ sizeLine by decide), fun p hp => k p _ (same_upd (Same.refl H) hp) upd_same⟩
theorem tTup_open {t : TA} {σ : L2.St} {H : Hp} {Q : VK} (h : t σ H fun xs H1 => xs.length ≤ sizeLine ∧ ∀ p, H1 p = none → Q (.ref p) (upd H1 p (.tup xs))) : tTup t σ H Q := h
theorem seq_gen {t u : TS} {D : Ends} {σ : L2.St} {H : Hp} (h : ∀ D', D' = { D with nx := u D } → t D' σ H) : tSeq t u D σ H := h _ rfl
/-- a comprehension whose items are all True -/
theorem lc_trues {K : PySem.W.Frag} {Tb : List (Addr × Str)} {a : Addr} {xs : List V} {te : TE} {j : Nat} {σ : L2.St} {H1 : Hp} {D : Addr} {Qd : Hp → Prop} (hD : H1 D = none) (hs : SqL K H1 a xs) (hT : Tabs Tb H1) (hn : xs.length < sizeLine)
    (step : ∀ x H', x ∈ xs → ExtN H1 H' → Tabs Tb H' → ∀ Q2 : VK, (∀ H4, ExtN H' H4 → Tabs Tb H4 → Q2 (.bl true) H4) → te ((wipe σ [j]).set j (some x)) H' Q2)
    (hw : ∀ x : V, wipe ((wipe σ [j]).set j (some x)) [j] = wipe σ [j])
    (hd : ∀ H4, H4 D = some (.lst (List.replicate xs.length (.bl true))) → ExtN H1 H4 → Tabs Tb H4 → Qd H4) :
    ∃ W : Nat → Nat → Hp → Prop, (∃ m, W 0 m (upd H1 D (.lst []))) ∧ ∀ i m H, W i m H →
      ((Itl K a).stop i H ∧ Qd H) ∨ ((Itl K a).go i H ∧ ∃ Nx : Hp → Prop, (∀ H', Nx H' → ∃ m', m' < m ∧ W (i + 1) m' H') ∧ ∀ x H', (Itl K a).yld i H x H' → gName j x (wipe σ [j]) H' fun σ2 H2 => wipe σ2 [j] = wipe σ [j] ∧ tYes σ2 H2 fun b H3 =>
        if b = true then te σ2 H3 fun y H4 => ∃ acc, H4 D = some (.lst acc) ∧ acc.length < sizeLine ∧ Nx (upd H4 D (.lst (acc ++ [y]))) else Nx H3) := by
  refine lc_list (xs := xs) (fun i H' => i ≤ xs.length ∧ H' D = some (.lst (List.replicate i (.bl true))) ∧ ExtN H1 H' ∧ Tabs Tb H') ⟨Nat.zero_le _, upd_same, ExtN.lst (ExtN.refl H1) hD, Tabs.ext hT (same_upd (Same.refl _) hD)⟩
    (fun i H' _ p => SqL.extN p.2.2.1 hs) (fun i x H' hx p => ?_) (fun H4 p => hd H4 p.2.1 p.2.2.1 p.2.2.2)
  obtain ⟨p1, p2, p3, p4⟩ := p
  have hi : i < xs.length := (List.getElem?_eq_some_iff.mp hx).1
  refine ⟨hw x, ?_⟩
  dsimp only [L2.tSeq, L2.tIfS, L2.tOr, L2.tAnd, L2.tNot, L2.tB, L2.tTest, L2.tCB, L2.tCons, L2.tNil, L2.tVar, L2.tC, L2.tRet, L2.tNext, L2.tAsg, L2.gName, L2.tCall, L2.tOp, L2.tOrV, L2.tAndV, L2.tNotV, L2.tChain, L2.tIf, L2.tDrop, L2.tAug, L2.tYes, L2.tIfT, L2.tPar3, L2.tDisp, L2.tPairs, L2.tDGet, L2.sDPut, L2.tThen, L2.kTup, L2.gTup, L2.gCons, L2.gNil, L2.tPar, L2.tLst, L2.tBM, L2.tTup, L2.tSl, L2.tPart, L2.tNoPart, List.map, List.append_nil]
  refine iteT (step x H' (List.mem_of_getElem? hx) p3 p4 _ fun H4 e4 t4 => ⟨List.replicate i (.bl true), e4 _ _ p2 (fun ps z => by cases z), by rw [List.length_replicate]; omega, by omega, ?_, ExtN.lst (p3.trans e4) hD, Tabs.lst t4 (e4 _ _ p2 (fun ps z => by cases z))⟩)
  rw [upd_same, List.replicate_succ']
/-- where the law by hand stands: its three lists, and what was told so far -/
structure HSt (Tb : List (Addr × Str)) (H0 : Hp) (a b c : Addr) (ov nv : List V) (Hn : Hp) (t n : Nat) : Prop where
  x : ExtN H0 Hn
  tb : Tabs Tb Hn
  ka : Hn a = some (.lst (keptL.map V.str))
  ob : Hn b = some (.lst ov)
  nc : Hn c = some (.lst nv)
  od : ∀ v ∈ ov, OddV Hn v
  to : Hn t = some (.lst (List.replicate n (.bl true)))
  f0 : ∀ o, H0 t = some o → (∀ ps, o ≠ .tbl ps) → False
  ol : ov.length = 13
  nl : nv.length = 15
theorem lst_nt {xs : List V} : ∀ ps, HO.lst xs ≠ .tbl ps := fun ps z => by cases z
theorem tup_nt {xs : List V} : ∀ ps, HO.tup xs ≠ .tbl ps := fun ps z => by cases z
theorem HSt.go {Tb : List (Addr × Str)} {H0 : Hp} {a b c : Addr} {ov nv : List V} {Hn : Hp} {t n : Nat} (S : HSt Tb H0 a b c ov nv Hn t n) {H' : Hp} (e : ExtN Hn H') (tb : Tabs Tb H') : HSt Tb H0 a b c ov nv H' t n :=
  ⟨S.x.trans e, tb, e _ _ S.ka lst_nt, e _ _ S.ob lst_nt, e _ _ S.nc lst_nt, fun v hv => (S.od v hv).ext e, e _ _ S.to lst_nt, S.f0, S.ol, S.nl⟩
theorem HSt.next {Tb : List (Addr × Str)} {H0 : Hp} {a b c : Addr} {ov nv : List V} {Hn : Hp} {t n : Nat} (S : HSt Tb H0 a b c ov nv Hn t n) {H' : Hp} (e : ExtN Hn H') (tb : Tabs Tb H') {t' n' : Nat} (hn : Hn t' = none) (h : H' t' = some (.lst (List.replicate n' (.bl true)))) : HSt Tb H0 a b c ov nv H' t' n' :=
  ⟨S.x.trans e, tb, e _ _ S.ka lst_nt, e _ _ S.ob lst_nt, e _ _ S.nc lst_nt, fun v hv => (S.od v hv).ext e, h, fun o ho n => (by have z := S.x _ _ ho n; rw [hn] at z; cases z), S.ol, S.nl⟩
theorem HSt.app {Tb : List (Addr × Str)} {H0 : Hp} {a b c : Addr} {ov nv : List V} {Hn : Hp} {t n : Nat} (S : HSt Tb H0 a b c ov nv Hn t n) (hn : 60 ≤ n) : HSt Tb H0 a b c ov nv (upd Hn t (.lst (List.replicate n (.bl true) ++ [.bl true]))) t (n + 1) := by
  have ne : ∀ (x : Addr) (xs : List V), Hn x = some (.lst xs) → xs.length < 60 → x ≠ t := fun x xs h hl z => by
    rw [z, S.to] at h
    have e : List.replicate n (V.bl true) = xs := by injection h with h; injection h
    rw [← e, List.length_replicate] at hl
    omega
  have net : ∀ (x : Addr) (xs : List V), Hn x = some (.tup xs) → x ≠ t := fun x xs h z => by rw [z, S.to] at h; cases h
  refine ⟨fun x o hx nt => ?_, Tabs.lst S.tb S.to, (upd_ne (ne _ _ S.ka (by decide))).trans S.ka, (upd_ne (ne _ _ S.ob (by rw [S.ol]; decide))).trans S.ob, (upd_ne (ne _ _ S.nc (by rw [S.nl]; decide))).trans S.nc, fun v hv => ?_, upd_same.trans (by rw [List.replicate_succ']), S.f0, S.ol, S.nl⟩
  · by_cases z : x = t
    · subst z; exact (S.f0 o hx nt).elim
    · rw [upd_ne z]; exact S.x _ _ hx nt
  · rcases S.od v hv with h | h | h | h | ⟨x, h1, h2⟩ | ⟨x, h1, h2⟩
    · exact .inl h
    · exact .inr (.inl h)
    · exact .inr (.inr (.inl h))
    · exact .inr (.inr (.inr (.inl h)))
    · exact .inr (.inr (.inr (.inr (.inl ⟨x, h1, (upd_ne (ne _ _ h2 (by decide))).trans h2⟩))))
    · exact .inr (.inr (.inr (.inr (.inr ⟨x, h1, (upd_ne (net _ _ h2)).trans h2⟩))))
theorem kept_odd {H : Hp} : ∀ v ∈ keptL.map V.str, OddV H v := fun v hv => by
  obtain ⟨k, hk, rfl⟩ := List.mem_map.mp hv
  have all : ∀ k ∈ keptL, k.cps.toList.length ≤ 100 ∧ k.cps.toList.all (fun c => decide (c < 1114112)) = true ∧ nameB k.cps.toList = false := by decide +kernel
  obtain ⟨h1, h2, h3⟩ := all k hk
  exact .inl ⟨k.cps.toList, by rw [← tx_of], h1, h2, h3⟩
theorem dp_strs {K : PySem.W.Frag} {H : Hp} : ∀ l : List Str, DpAll K H (l.map V.str) (l.map PyData.str)
  | [] => .nil
  | k :: l => .cons (.str k) (dp_strs l)
theorem lk_kept : Lk 60 (2 ^ 20) (.tuple (keptL.map PyData.str)) := by
  have all : ∀ k ∈ keptL, k.cps.toList.length ≤ 20 ∧ k.cps.toList.all (fun c => decide (c < 1114112)) = true := by decide +kernel
  refine Lk.mono (Lk.tup (LkAll.of (k := 0) (n := 20) fun d hd => ?_)) (by decide) (by decide)
  obtain ⟨k, hk, rfl⟩ := List.mem_map.mp hd
  obtain ⟨h1, h2⟩ := all k hk
  have := Lk.str h2
  rw [← tx_of] at this
  exact this.mono (Nat.le_refl 0) h1
theorem rep_one (n : Nat) : [V.bl true] ++ List.replicate n (.bl true) = List.replicate (n + 1) (.bl true) := by rw [List.replicate_succ]; rfl
def asL (n : Nat) : List Nat := (List.replicate n [97, 32]).flatten
def asG (i : Nat) : Sg := (S' "word", [97], 2 * i)
theorem as_succ (n : Nat) : asL (n + 1) = asL n ++ [97, 32] := by
  unfold asL; rw [List.replicate_succ', List.flatten_append]; rfl
theorem as_len (n : Nat) : (asL n).length = 2 * n := by
  induction n with
  | zero => rfl
  | succ n ih => rw [as_succ, List.length_append, ih]; rfl
theorem as_go (n : Nat) : ∀ r, scanF (asL n ++ r) 0 = ((List.range n).map asG ++ (scanF r (2 * n)).1, (scanF r (2 * n)).2) := by
  induction n with
  | zero => intro r; rfl
  | succ n ih =>
    intro r
    have g : Good (S' "word") [97] := .inr (.inr (.inl ⟨rfl, by decide, by decide, by decide⟩))
    have e : asL (n + 1) ++ r = asL n ++ ([97] ++ 32 :: r) := by rw [as_succ, List.append_assoc]; rfl
    rw [e, ih, scanF_app g (fol_sp _ r), scanF_sp, List.range_succ, List.map_append, List.append_assoc]
    rfl
theorem as_scan (n : Nat) : scanF (asL n) 0 = ((List.range n).map asG, none) := by
  have h := as_go n []
  rw [List.append_nil, scanF_nil, List.append_nil] at h
  exact h
/-- a sign as data -/
def sgD (g : Sg) : PyData := .tuple [.str g.1, .str (tx g.2.1), .int (g.2.2 : Nat)]
theorem Sgs.dp {K : PySem.W.Frag} {H : Hp} : ∀ {xs : List V} {gs : List Sg}, Sgs H xs gs → DpAll K H xs (gs.map sgD)
  | _, _, .nil => .nil
  | _, _, .cons ⟨a, e1, e2⟩ r => by
    rw [e1]
    exact .cons (.tup (SqT.of e2) (.cons (.str _) (.cons (.str _) (.cons (.int _) .nil)))) (Sgs.dp r)
theorem good_asc {k : Str} {wd : List Nat} (g : Good k wd) : wd.all (fun c => decide (c < 1114112)) = true := by
  rw [List.all_eq_true]
  intro c hc
  apply decide_eq_true
  rcases g with ⟨rfl, rfl⟩ | ⟨rfl, _, ha, _⟩ | ⟨rfl, _, ha, _⟩ | ⟨rfl, ⟨d, hd, rfl⟩ | rfl⟩
  · rw [List.mem_singleton] at hc; omega
  · have := isD_of (List.all_eq_true.mp ha c hc); omega
  · have := isL_of (List.all_eq_true.mp ha c hc); omega
  · rw [List.mem_singleton] at hc
    have : ∀ d ∈ marks, d < 1000 := by decide
    have := this d hd
    omega
  · simp only [List.mem_cons, List.not_mem_nil, or_false] at hc
    omega
theorem good_kind {k : Str} {wd : List Nat} (g : Good k wd) : Lk 0 6 (.str k) := by
  rcases g with ⟨rfl, _⟩ | ⟨rfl, _⟩ | ⟨rfl, _⟩ | ⟨rfl, _⟩
  · exact (Lk.str (l := [108, 105, 110, 101]) (by decide)).mono (Nat.le_refl _) (by decide)
  · exact (Lk.str (l := [110, 117, 109, 98, 101, 114]) (by decide)).mono (Nat.le_refl _) (by decide)
  · exact (Lk.str (l := [119, 111, 114, 100]) (by decide)).mono (Nat.le_refl _) (by decide)
  · exact (Lk.str (l := [109, 97, 114, 107]) (by decide)).mono (Nat.le_refl _) (by decide)
theorem lk_sg {g : Sg} (h : Good g.1 g.2.1) (hp : g.2.2 ≤ 100000) : Lk 1 170 (sgD g) :=
  (Lk.tup (LkAll.cons (good_kind h) (LkAll.cons ((Lk.str (good_asc h)).mono (Nat.le_refl _) (good_len h)) (LkAll.cons (Lk.int (by omega)) (LkAll.nil 0))))).mono (Nat.le_refl _) (by decide)
theorem lk_sgs {gs : List Sg} (h : GoodAll gs) (hp : ∀ g ∈ gs, g.2.2 ≤ 100000) (hl : gs.length ≤ 2500) : Lk 60 (2 ^ 20) (.tuple (gs.map sgD)) := by
  refine Lk.mono (Lk.tup (LkAll.of (k := 1) (n := 170) fun d hd => ?_)) (by decide) (by rw [List.length_map]; omega)
  obtain ⟨g, hg, rfl⟩ := List.mem_map.mp hd
  exact lk_sg (h g hg) (hp g hg)
/-- a value that is no text to be read -/
def BadT (H : Hp) (v : V) : Prop := (∃ z : List Nat, v = .str (tx z) ∧ z.length = 5001) ∨ v = .non ∨ v = .int 7 ∨ (∃ a, v = .ref a ∧ H a = some (.lst [.str (tx [97])])) ∨ (∃ a, v = .ref a ∧ H a = some (.tup [.str (tx [97])]))
theorem BadT.ty {K : PySem.W.Frag} {H H' : Hp} {v : V} (h : BadT H v) (e : ExtN H H') : (∃ z : List Nat, v = .str (tx z) ∧ z.length = 5001) ∨ ∃ t, TyX K H' v t ∧ PySem.W.kitOne K t (.type "str") = some false := by
  rcases h with h | rfl | rfl | ⟨a, rfl, h2⟩ | ⟨a, rfl, h2⟩
  · exact .inl h
  · exact .inr ⟨_, .base .non, kit_ty (by decide +kernel)⟩
  · exact .inr ⟨_, .base (.int _), kit_ty (by decide +kernel)⟩
  · exact .inr ⟨_, .base (.lst (e _ _ h2 lst_nt)), kit_ty (by decide +kernel)⟩
  · exact .inr ⟨_, .base (.tup (e _ _ h2 tup_nt)), kit_ty (by decide +kernel)⟩
theorem flat_len (n c : Nat) : (List.replicate n [c]).flatten.length = n := by rw [flat_one, List.length_replicate]
abbrev sHand : Stmt := top 34
abbrev qH : Str := Str.ofString "_law_by_hand" ++ ".<locals>." ++ "<lambda>"
abbrev hN : List Str := ["kept", "odd", "names", "told", "one", "k"]
theorem scHand : FnScope hN [] (defScope sHand) := ⟨rfl, rfl, rfl, by decide +kernel, rfl, by decide +kernel, by decide +kernel⟩
def cscope (x : String) : Scope := { kind := .function, names := [(".0", .local), (x, .cell), ("_law_like", .globalImplicit), ("_law_told", .globalImplicit)], isGenerator := false, isCoroutine := false }
end K8
set_option Elab.async false
set_option linter.all false
set_option maxRecDepth 100000
set_option maxHeartbeats 4000000
namespace K8
open PySem PySem.Spec PyProof.Rows L2 LamX
section
variable {P : Program} {w : World} {K : PySem.W.Frag} {mg : Str → Option Value} {base : Heap} {f cH pH g CN fN CT fT : Addr} {fd fdT : FuncData} {Tb : List (Addr × Str)}
theorem ok_hand (T : Txt P K mg CN fN CT fT) (mNT : PySem.W.exmOne K (.ref CN) (.ref CT) = some false) (FT : Fun K "_law_told" "_law_told" sTold g fdT) (gT : mg "_law_told" = some (.ref g)) (nR : mg "range" = none)
    (cK : ClG P w K mg base CX0 1 "_law_like" ["told", "due"] (spLike K)) (cS5 : Cl P w K mg base (L2.CX P w) 5 "signs_of" ["string"] (spSignsOf K CT)) (cI : Cl P w K mg base CX0 2 "is_name" ["value"] (spIsName K)) (cN : Cl P w K mg base (L2.CX P w) 3 "need_name" ["name"] (spNeedName K CN)) (cW : Cl P w K mg base CX0 1 "kept_words" [] spKeptW)
    (TB : TabB base mg cH pH) (hC : codeOf K f = some (.ref cH)) (hmT : (pH, qH) ∈ Tb) (hu : ∀ p ∈ Tb, p.1 = pH → p.2 = qH)
    (F : Fun K "_law_by_hand" "_law_by_hand" sHand f fd) : FnG P w K mg base CX0 8 f fd [] (fun vs H Q _ => vs = [] ∧ Tabs Tb H ∧ ∀ H', ExtN H H' → Tabs Tb H' → Q (.bl true) H') := by
  refine Fun.okG F scHand (fun vs H Q E h => ?_) (fun cdv A outer s H vs Q E lk hr hG h => ?_)
  · rw [h.1]; rfl
  · have ecd : cdv = .ref cH := by rw [hC] at lk; exact (Option.some.inj lk).symm
    subst ecd
    have hu64 : (A.deeper (envOfC "_law_by_hand" (defScope sHand) s.heap.objs.size f (.ref cH))).units + 64 < cLine := by have := hr.un; omega
    refine ⟨_, PSs.nox (pss_cons (ps_set (i := 0) scHand.nd rfl (Or.inl rfl) (pe_lst (pa_cons pe_str (pa_cons pe_str (pa_cons pe_str (pa_cons pe_str (pa_cons pe_str (pa_cons pe_str (pa_cons pe_str (pa_cons pe_str (pa_cons pe_str (pa_cons pe_str (pa_cons pe_str (pa_cons pe_str (pa_cons pe_str (pa_cons pe_str (pa_cons pe_str pa_nil)))))))))))))))))
      (pss_cons (ps_set (i := 0) scHand.nd rfl (Or.inl rfl) (pe_op op_cat (pv 0) (pe_lst (pa_cons pe_str (pa_cons pe_str (pa_cons pe_str (pa_cons pe_str (pa_cons pe_str (pa_cons pe_str (pa_cons pe_str (pa_cons pe_str (pa_cons pe_str (pa_cons pe_str (pa_cons pe_str (pa_cons pe_str (pa_cons pe_str (pa_cons pe_str (pa_cons pe_str (pa_cons pe_str pa_nil)))))))))))))))))))
      (pss_cons (ps_set (i := 0) scHand.nd rfl (Or.inl rfl) (pe_op op_cat (pv 0) (pe_lst (pa_cons pe_str (pa_cons pe_str (pa_cons pe_str (pa_cons pe_str (pa_cons pe_str (pa_cons pe_str (pa_cons pe_str (pa_cons pe_str (pa_cons pe_str (pa_cons pe_str (pa_cons pe_str (pa_cons pe_str (pa_cons pe_str (pa_cons pe_str (pa_cons pe_str (pa_cons pe_str pa_nil)))))))))))))))))))
      (pss_cons (ps_set (i := 0) scHand.nd rfl (Or.inl rfl) (pe_op op_cat (pv 0) (pe_lst (pa_cons pe_str (pa_cons pe_str (pa_cons pe_str (pa_cons pe_str (pa_cons pe_str pa_nil))))))))
      (pss_cons (ps_set (i := 1) scHand.nd rfl (Or.inl rfl) (pe_lst (pa_cons pe_str (pa_cons (pe_op op_repS pe_str pe_int) (pa_cons pe_str (pa_cons pe_str (pa_cons pe_str (pa_cons pe_str (pa_cons pe_str (pa_cons pe_int (pa_cons pe_non (pa_cons pe_bl (pa_cons (pe_lst (pa_cons pe_str pa_nil)) (pa_cons (pe_tup (pa_cons pe_str pa_nil)) (pa_cons pe_str pa_nil)))))))))))))))
      (pss_cons (ps_set (i := 2) scHand.nd rfl (Or.inl rfl) (pe_lst (pa_cons pe_str (pa_cons pe_str (pa_cons pe_str (pa_cons (pe_op op_repS pe_str pe_int) (pa_cons pe_str (pa_cons pe_str (pa_cons pe_str (pa_cons pe_str (pa_cons pe_str (pa_cons pe_str (pa_cons pe_str (pa_cons pe_str (pa_cons pe_str (pa_cons pe_str (pa_cons pe_str pa_nil)))))))))))))))))
      (pss_cons (ps_set (i := 3) scHand.nd rfl (Or.inl rfl) (pe_op op_cat (pe_lst (pa_cons (pe_clG cK hr (by exact hG) (by decide) rfl pass0 (pa_cons (pe_cl0 cW hr (by decide) rfl pass0) (pa_cons (pe_tupleOf rfl T.nTup (pv 0)) pa_nil))) pa_nil)) (pe_lc (own := [("one", 4)]) (g := gName 4) (tt := tYes) rfl scHand.nd (pi_list (pe_op op_cat (pv 0) (pv 1))) (blkOk_by (N := hN) (sc := defScope sHand) (by decide +kernel)) (fun _ _ _ _ _ => pg_name (i := 4) scHand.nd rfl (Or.inl rfl)) (fun _ _ _ _ _ => pts_nil) (fun _ _ _ _ _ => (pe_cmpR op_isBl (pe_cl cI hr (by decide) rfl pass0 (pa_cons (pv 4) pa_nil)) pe_bl (by rfl))))))
      (pss_cons (ps_set (i := 3) scHand.nd rfl (Or.inl rfl) (pe_op op_cat (pv 3) (pe_lc (own := [("one", 4)]) (g := gName 4) (tt := tYes) rfl scHand.nd (pi_list (pe_op op_cat (pv 0) (pv 1))) (blkOk_by (N := hN) (sc := defScope sHand) (by decide +kernel)) (fun _ _ _ _ _ => pg_name (i := 4) scHand.nd rfl (Or.inr rfl)) (fun _ _ _ _ _ => pts_nil) (fun _ _ _ _ _ => (pe_clG cK hr (by exact hG) (by decide) rfl pass0 (pa_cons (pe_told T mNT FT gT rfl TB rfl (by exact hmT) (by exact hu) hr (lamS_by (sc := cscope "one") (by decide +kernel)) rfl (fun _ _ _ _ _ => rfl) (fun A outer s H E f c' hr2 => pe_cl cN hr2 (by decide) rfl (passes_call (takes_of rfl rfl rfl rfl) (fun _ _ _ _ z => z)) (pa_cons (pv 4) pa_nil))) (pa_cons (pe_tup (pa_cons pe_str (pa_cons (pv 4) pa_nil))) pa_nil)))))))
      (pss_cons (ps_set (i := 3) scHand.nd rfl (Or.inl rfl) (pe_op op_cat (pv 3) (pe_lc (own := [("one", 4)]) (g := gName 4) (tt := tYes) rfl scHand.nd (pi_list (pv 2)) (blkOk_by (N := hN) (sc := defScope sHand) (by decide +kernel)) (fun _ _ _ _ _ => pg_name (i := 4) scHand.nd rfl (Or.inl rfl)) (fun _ _ _ _ _ => pts_nil) (fun _ _ _ _ _ => (pe_and (pe_cmpR op_isBl (pe_cl cI hr (by decide) rfl pass0 (pa_cons (pv 4) pa_nil)) pe_bl (by rfl)) (pe_one (pe_clG cK hr (by exact hG) (by decide) rfl pass0 (pa_cons (pe_cl cN hr (by decide) rfl passL (pa_cons (pv 4) pa_nil)) (pa_cons (pv 4) pa_nil)))))))))
      (pss_cons (ps_expr (pe_bm PySem.F.plainAttrs_list PySem.F.slot_list_append PySem.F.type_list_append mt_append (pv 3) (pa_cons (pe_clG cK hr (by exact hG) (by decide) rfl pass0 (pa_cons (pe_cl cS5 hr (by decide) rfl passL (pa_cons (pe_op op_repS pe_str pe_int) pa_nil)) (pa_cons (pe_tupleOf rfl T.nTup (pe_lc (own := [("k", 5)]) (g := gName 5) (tt := tYes) rfl scHand.nd (pi_range1 rfl nR (pa_cons pe_int pa_nil)) (blkOk_by (N := hN) (sc := defScope sHand) (by decide +kernel)) (fun _ _ _ _ _ => pg_name (i := 5) scHand.nd rfl (Or.inl rfl)) (fun _ _ _ _ _ => pts_nil) (fun _ _ _ _ _ => (pe_tup (pa_cons pe_str (pa_cons pe_str (pa_cons (pe_op op_mul pe_int (pv 5)) pa_nil))))))) pa_nil))) pa_nil)))
      (pss_cons (ps_set (i := 3) scHand.nd rfl (Or.inl rfl) (pe_op op_cat (pv 3) (pe_lc (own := [("one", 4)]) (g := gName 4) (tt := tYes) rfl scHand.nd (pi_list (pe_lst (pa_cons (pe_op op_add_str (pe_op op_repS pe_str pe_int) pe_str) (pa_cons (pe_op op_repS pe_str pe_int) (pa_cons pe_non (pa_cons pe_int (pa_cons (pe_lst (pa_cons pe_str pa_nil)) (pa_cons (pe_tup (pa_cons pe_str pa_nil)) pa_nil)))))))) (blkOk_by (N := hN) (sc := defScope sHand) (by decide +kernel)) (fun _ _ _ _ _ => pg_name (i := 4) scHand.nd rfl (Or.inr rfl)) (fun _ _ _ _ _ => pts_nil) (fun _ _ _ _ _ => (pe_clG cK hr (by exact hG) (by decide) rfl pass0 (pa_cons (pe_told T mNT FT gT rfl TB rfl (by exact hmT) (by exact hu) hr (lamS_by (sc := cscope "one") (by decide +kernel)) rfl (fun _ _ _ _ _ => rfl) (fun A outer s H E f c' hr2 => pe_cl cS5 hr2 (by decide) rfl (passes_call (takes_of rfl rfl rfl rfl) (fun _ _ _ _ z => z)) (pa_cons (pv 4) pa_nil))) (pa_cons (pe_tup (pa_cons pe_str (pa_cons pe_non pa_nil))) pa_nil)))))))
      (pss_cons (ps_expr (pe_bm PySem.F.plainAttrs_list PySem.F.slot_list_append PySem.F.type_list_append mt_append (pv 3) (pa_cons (pe_clG cK hr (by exact hG) (by decide) rfl pass0 (pa_cons (pe_cl cS5 hr (by decide) rfl passL (pa_cons pe_str pa_nil)) (pa_cons (pe_tup (pa_cons (pe_tup (pa_cons pe_str (pa_cons pe_str (pa_cons pe_int pa_nil)))) (pa_cons (pe_tup (pa_cons pe_str (pa_cons pe_str (pa_cons pe_int pa_nil)))) (pa_cons (pe_tup (pa_cons pe_str (pa_cons pe_str (pa_cons pe_int pa_nil)))) (pa_cons (pe_tup (pa_cons pe_str (pa_cons pe_str (pa_cons pe_int pa_nil)))) (pa_cons (pe_tup (pa_cons pe_str (pa_cons pe_str (pa_cons pe_int pa_nil)))) (pa_cons (pe_tup (pa_cons pe_str (pa_cons pe_str (pa_cons pe_int pa_nil)))) (pa_cons (pe_tup (pa_cons pe_str (pa_cons pe_str (pa_cons pe_int pa_nil)))) pa_nil)))))))) pa_nil))) pa_nil)))
      (pss_one (ps_ret (pe_cmpR (op_eqD (by exact hu64)) (pv 3) (pe_op op_rep (pe_lst (pa_cons pe_bl pa_nil)) (pe_callB call_len rfl T.nLen (by decide +kernel) (pa_cons (pv 3) pa_nil))) (by rfl)))))))))))))))), ?_⟩
    obtain ⟨rfl, hT, q⟩ := h
    refine seq_gen fun D1 e1 => ?_
    dsimp only [L2.tSeq, L2.tIfS, L2.tOr, L2.tAnd, L2.tNot, L2.tB, L2.tTest, L2.tCB, L2.tCons, L2.tNil, L2.tVar, L2.tC, L2.tRet, L2.tNext, L2.tAsg, L2.gName, L2.tCall, L2.tOp, L2.tOrV, L2.tAndV, L2.tNotV, L2.tChain, L2.tIf, L2.tDrop, L2.tAug, L2.tYes, L2.tIfT, L2.tPar3, L2.tDisp, L2.tPairs, L2.tDGet, L2.sDPut, L2.tThen, L2.kTup, L2.gTup, L2.gCons, L2.gNil, L2.tPar, L2.tLst, L2.tBM, L2.tTup, L2.tSl, L2.tPart, L2.tNoPart, List.map, List.append_nil]
    refine ⟨by decide, fun p1 n1 => ?_⟩
    rw [e1]
    dsimp only
    refine seq_gen fun D2 e2 => ?_
    dsimp only [L2.tSeq, L2.tIfS, L2.tOr, L2.tAnd, L2.tNot, L2.tB, L2.tTest, L2.tCB, L2.tCons, L2.tNil, L2.tVar, L2.tC, L2.tRet, L2.tNext, L2.tAsg, L2.gName, L2.tCall, L2.tOp, L2.tOrV, L2.tAndV, L2.tNotV, L2.tChain, L2.tIf, L2.tDrop, L2.tAug, L2.tYes, L2.tIfT, L2.tPar3, L2.tDisp, L2.tPairs, L2.tDGet, L2.sDPut, L2.tThen, L2.kTup, L2.gTup, L2.gCons, L2.gNil, L2.tPar, L2.tLst, L2.tBM, L2.tTup, L2.tSl, L2.tPart, L2.tNoPart, List.map, List.append_nil]
    refine ⟨_, rfl, by decide, fun p2 n2 => ?_⟩
    have d12 : p1 ≠ p2 := fun z => by rw [← z, upd_same] at n2; cases n2
    refine ⟨p1, p2, _, _, rfl, rfl, (upd_ne d12).trans upd_same, upd_same, by decide, fun p3 n3 => ?_⟩
    rw [e2]
    dsimp only
    refine seq_gen fun D3 e3 => ?_
    dsimp only [L2.tSeq, L2.tIfS, L2.tOr, L2.tAnd, L2.tNot, L2.tB, L2.tTest, L2.tCB, L2.tCons, L2.tNil, L2.tVar, L2.tC, L2.tRet, L2.tNext, L2.tAsg, L2.gName, L2.tCall, L2.tOp, L2.tOrV, L2.tAndV, L2.tNotV, L2.tChain, L2.tIf, L2.tDrop, L2.tAug, L2.tYes, L2.tIfT, L2.tPar3, L2.tDisp, L2.tPairs, L2.tDGet, L2.sDPut, L2.tThen, L2.kTup, L2.gTup, L2.gCons, L2.gNil, L2.tPar, L2.tLst, L2.tBM, L2.tTup, L2.tSl, L2.tPart, L2.tNoPart, List.map, List.append_nil]
    refine ⟨_, rfl, by decide, fun p4 n4 => ?_⟩
    have d34 : p3 ≠ p4 := fun z => by rw [← z, upd_same] at n4; cases n4
    refine ⟨p3, p4, _, _, rfl, rfl, (upd_ne d34).trans upd_same, upd_same, by decide, fun p5 n5 => ?_⟩
    rw [e3]
    dsimp only
    refine seq_gen fun D4 e4 => ?_
    dsimp only [L2.tSeq, L2.tIfS, L2.tOr, L2.tAnd, L2.tNot, L2.tB, L2.tTest, L2.tCB, L2.tCons, L2.tNil, L2.tVar, L2.tC, L2.tRet, L2.tNext, L2.tAsg, L2.gName, L2.tCall, L2.tOp, L2.tOrV, L2.tAndV, L2.tNotV, L2.tChain, L2.tIf, L2.tDrop, L2.tAug, L2.tYes, L2.tIfT, L2.tPar3, L2.tDisp, L2.tPairs, L2.tDGet, L2.sDPut, L2.tThen, L2.kTup, L2.gTup, L2.gCons, L2.gNil, L2.tPar, L2.tLst, L2.tBM, L2.tTup, L2.tSl, L2.tPart, L2.tNoPart, List.map, List.append_nil]
    refine ⟨_, rfl, by decide, fun p6 n6 => ?_⟩
    have d56 : p5 ≠ p6 := fun z => by rw [← z, upd_same] at n6; cases n6
    refine ⟨p5, p6, _, _, rfl, rfl, (upd_ne d56).trans upd_same, upd_same, by decide, fun a na => ?_⟩
    refine gen_heap (fun HA => Same H HA ∧ HA a = some (.lst (keptL.map V.str))) (fun HA fA => ?_) ⟨((((((same_upd (Same.refl H) n1).trans (same_upd (Same.refl _) n2)).trans (same_upd (Same.refl _) n3)).trans (same_upd (Same.refl _) n4)).trans (same_upd (Same.refl _) n5)).trans (same_upd (Same.refl _) n6)).trans (same_upd (Same.refl _) na), upd_same⟩
    obtain ⟨sA, kA⟩ := fA
    rw [e4]
    dsimp only
    clear e1 e2 e3 n1 n2 n3 n4 n5 n6 na d12 d34 d56
    refine seq_gen fun D5 e5 => ?_
    dsimp only [L2.tSeq, L2.tIfS, L2.tOr, L2.tAnd, L2.tNot, L2.tB, L2.tTest, L2.tCB, L2.tCons, L2.tNil, L2.tVar, L2.tC, L2.tRet, L2.tNext, L2.tAsg, L2.gName, L2.tCall, L2.tOp, L2.tOrV, L2.tAndV, L2.tNotV, L2.tChain, L2.tIf, L2.tDrop, L2.tAug, L2.tYes, L2.tIfT, L2.tPar3, L2.tDisp, L2.tPairs, L2.tDGet, L2.sDPut, L2.tThen, L2.kTup, L2.gTup, L2.gCons, L2.gNil, L2.tPar, L2.tLst, L2.tBM, L2.tTup, L2.tSl, L2.tPart, L2.tNoPart, List.map, List.append_nil]
    refine ⟨[97], 17, rfl, rfl, by decide, by decide, (show 1 ≤ sizeLine by decide), fun o1 m1 => ⟨(show 1 ≤ sizeLine by decide), fun o2 m2 => ⟨(show 13 ≤ sizeLine by decide), fun b m3 => ?_⟩⟩⟩
    have o12 : o1 ≠ o2 := fun z => by rw [← z, upd_same] at m2; cases m2
    have o1b : o1 ≠ b := fun z => by rw [← z, upd_ne o12, upd_same] at m3; cases m3
    have o2b : o2 ≠ b := fun z => by rw [← z, upd_same] at m3; cases m3
    refine gen_heap (fun HB => Same HA HB ∧ ∃ ov : List V, HB b = some (.lst ov) ∧ ov.length = 13 ∧ ∀ v ∈ ov, OddV HB v) (fun HB fB => ?_) ⟨((same_upd (Same.refl _) m1).trans (same_upd (Same.refl _) m2)).trans (same_upd (Same.refl _) m3), _, upd_same, rfl, fun v hv => ?_⟩
    rotate_left
    · simp only [List.mem_cons, List.not_mem_nil, or_false] at hv
      rcases hv with rfl | rfl | rfl | rfl | rfl | rfl | rfl | rfl | rfl | rfl | rfl | rfl | rfl
      · exact .inl ⟨[], rfl, by decide, by decide, by decide⟩
      · exact .inl ⟨(List.replicate 17 [97]).flatten, rfl, by decide, by decide, by decide⟩
      · exact .inl ⟨[65], rfl, by decide, by decide, by decide⟩
      · exact .inl ⟨[97, 49], rfl, by decide, by decide, by decide⟩
      · exact .inl ⟨[97, 32, 98], rfl, by decide, by decide, by decide⟩
      · exact .inl ⟨[95, 97], rfl, by decide, by decide, by decide⟩
      · exact .inl ⟨[97, 10], rfl, by decide, by decide, by decide⟩
      · exact .inr (.inl rfl)
      · exact .inr (.inr (.inl rfl))
      · exact .inr (.inr (.inr (.inl rfl)))
      · exact .inr (.inr (.inr (.inr (.inl ⟨o1, rfl, (upd_ne o1b).trans ((upd_ne o12).trans upd_same)⟩))))
      · exact .inr (.inr (.inr (.inr (.inr ⟨o2, rfl, (upd_ne o2b).trans upd_same⟩))))
      · exact .inl ⟨[48], rfl, by decide, by decide, by decide⟩
    obtain ⟨sB, ov, oB, ol, od⟩ := fB
    clear m1 m2 m3 o12 o1b o2b
    rw [e5]
    dsimp only
    refine seq_gen fun D6 e6 => ?_
    dsimp only [L2.tSeq, L2.tIfS, L2.tOr, L2.tAnd, L2.tNot, L2.tB, L2.tTest, L2.tCB, L2.tCons, L2.tNil, L2.tVar, L2.tC, L2.tRet, L2.tNext, L2.tAsg, L2.gName, L2.tCall, L2.tOp, L2.tOrV, L2.tAndV, L2.tNotV, L2.tChain, L2.tIf, L2.tDrop, L2.tAug, L2.tYes, L2.tIfT, L2.tPar3, L2.tDisp, L2.tPairs, L2.tDGet, L2.sDPut, L2.tThen, L2.kTup, L2.gTup, L2.gCons, L2.gNil, L2.tPar, L2.tLst, L2.tBM, L2.tTup, L2.tSl, L2.tPart, L2.tNoPart, List.map, List.append_nil]
    refine ⟨[97], 16, rfl, rfl, by decide, by decide, by decide, fun cn m4 => ?_⟩
    refine gen_heap (fun HC => Same HB HC ∧ ∃ nv : List V, HC cn = some (.lst nv) ∧ nv.length = 15 ∧ ∀ v ∈ nv, ∃ z : List Nat, v = .str (tx z) ∧ z.length ≤ 100 ∧ z.all (fun c => decide (c < 1114112)) = true ∧ nameB z = true) (fun HC fC => ?_) ⟨same_upd (Same.refl _) m4, _, upd_same, rfl, fun v hv => ?_⟩
    rotate_left
    · simp only [List.mem_cons, List.not_mem_nil, or_false] at hv
      rcases hv with rfl | rfl | rfl | rfl | rfl | rfl | rfl | rfl | rfl | rfl | rfl | rfl | rfl | rfl | rfl
      · exact ⟨[97], rfl, by decide, by decide, by decide⟩
      · exact ⟨[120, 120], rfl, by decide, by decide, by decide⟩
      · exact ⟨[121], rfl, by decide, by decide, by decide⟩
      · exact ⟨(List.replicate 16 [97]).flatten, rfl, by decide, by decide, by decide⟩
      · exact ⟨[116, 104, 101, 110, 115], rfl, by decide, by decide, by decide⟩
      · exact ⟨[99, 111, 108, 111, 110], rfl, by decide, by decide, by decide⟩
      · exact ⟨[112, 108, 117, 115], rfl, by decide, by decide, by decide⟩
      · exact ⟨[119, 104, 111, 108, 101], rfl, by decide, by decide, by decide⟩
      · exact ⟨[101, 113, 117, 97, 108], rfl, by decide, by decide, by decide⟩
      · exact ⟨[98, 101, 108, 111, 119], rfl, by decide, by decide, by decide⟩
      · exact ⟨[99, 97, 108, 108], rfl, by decide, by decide, by decide⟩
      · exact ⟨[116, 97, 98, 108, 101], rfl, by decide, by decide, by decide⟩
      · exact ⟨[109, 105, 110, 117, 115], rfl, by decide, by decide, by decide⟩
      · exact ⟨[116, 105, 109, 101, 115], rfl, by decide, by decide, by decide⟩
      · exact ⟨[112, 111, 119, 101, 114], rfl, by decide, by decide, by decide⟩
    obtain ⟨sC, nv, nC, nl, nd⟩ := fC
    clear m4
    rw [e6]
    dsimp only
    have EC : ExtN H HC := ExtN.of ((sA.trans sB).trans sC)
    have TC : Tabs Tb HC := Tabs.ext hT ((sA.trans sB).trans sC)
    have kC : HC a = some (.lst (keptL.map V.str)) := sC _ _ (sB _ _ kA)
    have oC : HC b = some (.lst ov) := sC _ _ oB
    have dC : ∀ v ∈ ov, OddV HC v := fun v hv => (od v hv).ext (ExtN.of sC)
    clear sA sB sC kA oB od e4 e5
    have hov : ∀ (H' : Hp) (v : V), (∀ v ∈ ov, OddV H' v) → v ∈ keptL.map V.str ++ ov → OddV H' v := fun H' v hd hv => by
      rcases List.mem_append.mp hv with hv | hv
      · exact kept_odd v hv
      · exact hd v hv
    have lko : (keptL.map V.str ++ ov).length = 65 := by rw [List.length_append, ol]; rfl
    refine seq_gen fun D7 e7 => ?_
    dsimp only [L2.tSeq, L2.tIfS, L2.tOr, L2.tAnd, L2.tNot, L2.tB, L2.tTest, L2.tCB, L2.tCons, L2.tNil, L2.tVar, L2.tC, L2.tRet, L2.tNext, L2.tAsg, L2.gName, L2.tCall, L2.tOp, L2.tOrV, L2.tAndV, L2.tNotV, L2.tChain, L2.tIf, L2.tDrop, L2.tAug, L2.tYes, L2.tIfT, L2.tPar3, L2.tDisp, L2.tPairs, L2.tDGet, L2.sDPut, L2.tThen, L2.kTup, L2.gTup, L2.gCons, L2.gNil, L2.tPar, L2.tLst, L2.tBM, L2.tTup, L2.tSl, L2.tPart, L2.tNoPart, List.map, List.append_nil]
    refine ⟨rfl, fun t H1 ht s1 => ⟨_, rfl, .inl ⟨a, _, rfl, SqL.of (s1 _ _ kC), fun u hu => ?_⟩⟩⟩
    have tu : t ≠ u := fun z => by rw [z, hu] at ht; cases ht
    refine ⟨.ref t, .ref u, .tuple (keptL.map PyData.str), rfl, .tup (SqT.of ((upd_ne tu).trans ht)) (dp_strs _), .tup (SqT.of upd_same) (dp_strs _), .inl ⟨t, rfl⟩, .inl ⟨u, rfl⟩, lk_kept, (show 1 ≤ sizeLine by decide), fun l1 hl1 => ?_⟩
    have s2 := (s1.trans (same_upd (o := .tup (keptL.map V.str)) (Same.refl _) hu)).trans (same_upd (o := .lst [.bl true]) (Same.refl _) hl1)
    have g1 : ∀ H2, H2 = upd (upd H1 u (.tup (keptL.map V.str))) l1 (.lst [.bl true]) → H2 l1 = some (.lst [.bl true]) := fun H2 e => by rw [e]; exact upd_same
    generalize upd (upd H1 u (.tup (keptL.map V.str))) l1 (.lst [.bl true]) = H2 at s2 g1 ⊢
    have g1 := g1 H2 rfl
    refine ⟨_, rfl, _, rfl, a, b, _, _, rfl, rfl, s2 _ _ kC, s2 _ _ oC, by rw [← List.length_append, lko]; decide, fun L hL => ⟨L, rfl, ⟨_, SqL.of upd_same⟩, fun D hD => ?_⟩⟩
    have s3 := s2.trans (same_upd (o := .lst (keptL.map V.str ++ ov)) (Same.refl _) hL)
    have g2 : (upd H2 L (.lst (keptL.map V.str ++ ov))) l1 = some (.lst [.bl true]) := (upd_ne (fun z => by rw [← z, g1] at hL; cases hL)).trans g1
    refine lc_trues hD (SqL.of upd_same) (Tabs.ext TC s3) (by rw [lko]; decide) (fun x H' hx e' t' Q2 hQ => ?_) (fun x => rfl) (fun H4 h4 e4 t4 => ?_)
    · have ox : OddV H' x := hov H' x (fun v hv => (dC v hv).ext ((ExtN.of s3).trans e')) hx
      dsimp only [L2.tSeq, L2.tIfS, L2.tOr, L2.tAnd, L2.tNot, L2.tB, L2.tTest, L2.tCB, L2.tCons, L2.tNil, L2.tVar, L2.tC, L2.tRet, L2.tNext, L2.tAsg, L2.gName, L2.tCall, L2.tOp, L2.tOrV, L2.tAndV, L2.tNotV, L2.tChain, L2.tIf, L2.tDrop, L2.tAug, L2.tYes, L2.tIfT, L2.tPar3, L2.tDisp, L2.tPairs, L2.tDGet, L2.sDPut, L2.tThen, L2.kTup, L2.gTup, L2.gCons, L2.gNil, L2.tPar, L2.tLst, L2.tBM, L2.tTup, L2.tSl, L2.tPart, L2.tNoPart, List.map, List.append_nil]
      refine ⟨x, rfl, x, rfl, ?_⟩
      rcases ox.ty (K := K) with ⟨z, rfl, z1, z2⟩ | ⟨ty, z1, z2⟩
      · refine .inl ⟨z, rfl, z1, fun H'' s'' => ⟨_, _, rfl, rfl, ?_⟩⟩
        rw [z2]
        exact hQ H'' (ExtN.of s'') (Tabs.ext t' s'')
      · exact .inr ⟨ty, z1, z2, _, _, rfl, rfl, hQ H' (ExtN.refl _) t'⟩
    · rw [lko] at h4
      refine ⟨l1, D, _, _, rfl, rfl, e4 _ _ g2 lst_nt, h4, (show 66 ≤ sizeLine by decide), fun tA htA => ?_⟩
      rw [rep_one]
      refine gen_heap (fun HD => HSt Tb H a b cn ov nv HD tA 66) (fun HD S => ?_) ?_
      rotate_left
      · have e5 : ExtN HC (upd H4 tA (.lst (List.replicate 66 (.bl true)))) := ((ExtN.of s3).trans e4).trans (ExtN.of (same_upd (Same.refl _) htA))
        exact ⟨EC.trans e5, Tabs.ext t4 (same_upd (Same.refl _) htA), e5 _ _ kC lst_nt, e5 _ _ oC lst_nt, e5 _ _ nC lst_nt, fun v hv => (dC v hv).ext e5, upd_same, fun o ho n => (by have z := ((EC.trans (ExtN.of s3)).trans e4) _ _ ho n; rw [htA] at z; cases z), ol, nl⟩
      rw [e7]
      dsimp only
      clear e6 h4 htA e4 t4 g2 s3 g1 s2 hl1 hu ht s1 kC oC dC TC EC nC
      refine seq_gen fun D8 e8 => ?_
      dsimp only [L2.tSeq, L2.tIfS, L2.tOr, L2.tAnd, L2.tNot, L2.tB, L2.tTest, L2.tCB, L2.tCons, L2.tNil, L2.tVar, L2.tC, L2.tRet, L2.tNext, L2.tAsg, L2.gName, L2.tCall, L2.tOp, L2.tOrV, L2.tAndV, L2.tNotV, L2.tChain, L2.tIf, L2.tDrop, L2.tAug, L2.tYes, L2.tIfT, L2.tPar3, L2.tDisp, L2.tPairs, L2.tDGet, L2.sDPut, L2.tThen, L2.kTup, L2.gTup, L2.gCons, L2.gNil, L2.tPar, L2.tLst, L2.tBM, L2.tTup, L2.tSl, L2.tPart, L2.tNoPart, List.map, List.append_nil]
      refine ⟨_, rfl, _, rfl, _, rfl, a, b, _, _, rfl, rfl, S.ka, S.ob, by rw [← List.length_append, lko]; decide, fun L hL => ⟨L, rfl, ⟨_, SqL.of upd_same⟩, fun D hD => ?_⟩⟩
      have s3 := same_upd (o := .lst (keptL.map V.str ++ ov)) (Same.refl HD) hL
      refine lc_trues hD (SqL.of upd_same) (Tabs.ext S.tb s3) (by rw [lko]; decide) (fun x H' hx e' t' Q2 hQ => ?_) (fun x => rfl) (fun H4 h4 e4 t4 => ?_)
      · have ox : OddV H' x := hov H' x (fun v hv => (S.od v hv).ext ((ExtN.of s3).trans e')) hx
        dsimp only [L2.tSeq, L2.tIfS, L2.tOr, L2.tAnd, L2.tNot, L2.tB, L2.tTest, L2.tCB, L2.tCons, L2.tNil, L2.tVar, L2.tC, L2.tRet, L2.tNext, L2.tAsg, L2.gName, L2.tCall, L2.tOp, L2.tOrV, L2.tAndV, L2.tNotV, L2.tChain, L2.tIf, L2.tDrop, L2.tAug, L2.tYes, L2.tIfT, L2.tPar3, L2.tDisp, L2.tPairs, L2.tDGet, L2.sDPut, L2.tThen, L2.kTup, L2.gTup, L2.gCons, L2.gNil, L2.tPar, L2.tLst, L2.tBM, L2.tTup, L2.tSl, L2.tPart, L2.tNoPart, List.map, List.append_nil]
        refine ⟨t', fun H5 e5 T5 => ?_⟩
        have fin : ∀ (H6 : Hp) (d t u : Addr), Same H5 H6 → H6 d = none → (upd H6 d (.xd [(S' "value", x)])) t = none → (upd (upd H6 d (.xd [(S' "value", x)])) t (.tup [.str (S' "name"), x])) u = none →
            spLike K [.ref t, .ref u] (upd (upd (upd H6 d (.xd [(S' "value", x)])) t (.tup [.str (S' "name"), x])) u (.tup [.str (S' "name"), x])) Q2 E0 := by
          intro H6 d t u s6 hd ht hu
          have tu : t ≠ u := fun z => by rw [← z, upd_same] at hu; cases hu
          have s7 := (same_upd (o := .xd [(S' "value", x)]) s6 (s6.free hd)).trans ((same_upd (o := .tup [.str (S' "name"), x]) (Same.refl _) ht).trans (same_upd (o := .tup [.str (S' "name"), x]) (Same.refl _) hu))
          obtain ⟨dx, lx, px⟩ := (ox.ext (e5.trans (ExtN.of s7))).dat (K := K)
          have dp : ∀ t, upd (upd (upd H6 d (.xd [(S' "value", x)])) t (.tup [.str (S' "name"), x])) u (.tup [.str (S' "name"), x]) t = some (.tup [.str (S' "name"), x]) → True := fun _ _ => trivial
          refine ⟨.ref t, .ref u, .tuple [.str (S' "name"), dx], rfl, .tup (SqT.of ((upd_ne tu).trans upd_same)) (.cons (.str _) (.cons px .nil)), .tup (SqT.of upd_same) (.cons (.str _) (.cons px .nil)), .inl ⟨t, rfl⟩, .inl ⟨u, rfl⟩, ?_, hQ _ (e5.trans (ExtN.of s7)) (Tabs.ext T5 s7)⟩
          exact Lk.mono (Lk.tup (LkAll.cons (Lk.mono (Lk.str (l := [110, 97, 109, 101]) (by decide)) (Nat.zero_le 3) (Nat.le_refl _)) (LkAll.cons lx (LkAll.nil 3)))) (by decide) (by decide)
        unfold TTell
        dsimp only [L2.tSeq, L2.tIfS, L2.tOr, L2.tAnd, L2.tNot, L2.tB, L2.tTest, L2.tCB, L2.tCons, L2.tNil, L2.tVar, L2.tC, L2.tRet, L2.tNext, L2.tAsg, L2.gName, L2.tCall, L2.tOp, L2.tOrV, L2.tAndV, L2.tNotV, L2.tChain, L2.tIf, L2.tDrop, L2.tAug, L2.tYes, L2.tIfT, L2.tPar3, L2.tDisp, L2.tPairs, L2.tDGet, L2.sDPut, L2.tThen, L2.kTup, L2.gTup, L2.gCons, L2.gNil, L2.tPar, L2.tLst, L2.tBM, L2.tTup, L2.tSl, L2.tPart, L2.tNoPart, List.map, List.append_nil]
        refine ⟨x, rfl, x, rfl, ?_⟩
        rcases ox.ty (K := K) with ⟨z, ez, z1, z2⟩ | ⟨ty, z1, z2⟩
        · refine .inl ⟨z, ez, z1, fun c => (by rw [z2] at c; cases c), fun _ H6 d s6 hd => ⟨CN, d, S' "value", S' "name", x, rfl, rfl, .inr ⟨rfl, rfl, rfl⟩, upd_same, fun t ht => ⟨x, rfl, (show 2 ≤ sizeLine by decide), fun u hu => fin H6 d t u s6 hd ht hu⟩⟩⟩
        · have z1' : ∃ ty, TyX K H5 x ty ∧ PySem.W.kitOne K ty (.type "str") = some false := by
            rcases (ox.ext e5).ty (K := K) with ⟨z, ez, _⟩ | h
            · rw [ez] at z1; cases z1 with
              | base b => cases b; exact absurd z2 (by intro c; have : some true = some false := (kit_ty (K := K) (a := "str") (b := "str") (by decide +kernel)).symm.trans c; cases this)
            · exact h
          obtain ⟨ty', y1, y2⟩ := z1'
          exact .inr ⟨ty', y1, y2, fun d hd => ⟨CN, d, S' "value", S' "name", x, rfl, rfl, .inr ⟨rfl, rfl, rfl⟩, upd_same, fun t ht => ⟨x, rfl, (show 2 ≤ sizeLine by decide), fun u hu => fin H5 d t u (Same.refl _) hd ht hu⟩⟩⟩
      rw [lko] at h4
      have S4 := S.go ((ExtN.of s3).trans e4) t4
      refine ⟨tA, D, _, _, rfl, rfl, S4.to, h4, (show 131 ≤ sizeLine by decide), fun tB htB => ?_⟩
      rw [List.replicate_append_replicate]
      refine gen_heap (fun HD => HSt Tb H a b cn ov nv HD tB 131) (fun HE S => ?_) (S4.next (ExtN.of (same_upd (Same.refl _) htB)) (Tabs.ext t4 (same_upd (Same.refl _) htB)) htB upd_same)
      rw [e8]
      dsimp only
      clear e7 htB S4 h4 e4 t4 s3 hD hL
      refine seq_gen fun D9 e9 => ?_
      dsimp only [L2.tSeq, L2.tIfS, L2.tOr, L2.tAnd, L2.tNot, L2.tB, L2.tTest, L2.tCB, L2.tCons, L2.tNil, L2.tVar, L2.tC, L2.tRet, L2.tNext, L2.tAsg, L2.gName, L2.tCall, L2.tOp, L2.tOrV, L2.tAndV, L2.tNotV, L2.tChain, L2.tIf, L2.tDrop, L2.tAug, L2.tYes, L2.tIfT, L2.tPar3, L2.tDisp, L2.tPairs, L2.tDGet, L2.sDPut, L2.tThen, L2.kTup, L2.gTup, L2.gCons, L2.gNil, L2.tPar, L2.tLst, L2.tBM, L2.tTup, L2.tSl, L2.tPart, L2.tNoPart, List.map, List.append_nil]
      refine ⟨_, rfl, _, rfl, cn, rfl, ⟨_, SqL.of S.nc⟩, fun D hD => ?_⟩
      refine lc_trues hD (SqL.of S.nc) S.tb (by rw [nl]; decide) (fun x H' hx e' t' Q2 hQ => ?_) (fun x => rfl) (fun H4 h4 e4 t4 => ?_)
      · obtain ⟨z, rfl, z1, z2, z3⟩ := nd x hx
        dsimp only [L2.tSeq, L2.tIfS, L2.tOr, L2.tAnd, L2.tNot, L2.tB, L2.tTest, L2.tCB, L2.tCons, L2.tNil, L2.tVar, L2.tC, L2.tRet, L2.tNext, L2.tAsg, L2.gName, L2.tCall, L2.tOp, L2.tOrV, L2.tAndV, L2.tNotV, L2.tChain, L2.tIf, L2.tDrop, L2.tAug, L2.tYes, L2.tIfT, L2.tPar3, L2.tDisp, L2.tPairs, L2.tDGet, L2.sDPut, L2.tThen, L2.kTup, L2.gTup, L2.gCons, L2.gNil, L2.tPar, L2.tLst, L2.tBM, L2.tTup, L2.tSl, L2.tPart, L2.tNoPart, List.map, List.append_nil]
        refine ⟨_, rfl, _, rfl, .inl ⟨z, rfl, by omega, fun H5 s5 => ⟨_, _, rfl, rfl, _, rfl, ?_⟩⟩⟩
        rw [z3]
        refine iteT ⟨_, rfl, _, rfl, .inl ⟨z, rfl, by omega, fun _ H6 s6 => ⟨_, rfl, _, _, .str (tx z), rfl, .str _, .str _, .inr ⟨_, rfl⟩, .inr ⟨_, rfl⟩, (Lk.str z2).mono (by decide) (by omega), hQ _ (ExtN.of (s5.trans s6)) (Tabs.ext t' (s5.trans s6))⟩, fun c => (by rw [z3] at c; cases c)⟩⟩
      rw [nl] at h4
      have S4 := S.go e4 t4
      refine ⟨tB, D, _, _, rfl, rfl, S4.to, h4, (show 146 ≤ sizeLine by decide), fun tC htC => ?_⟩
      rw [List.replicate_append_replicate]
      refine gen_heap (fun HD => HSt Tb H a b cn ov nv HD tC 146) (fun HF S => ?_) (S4.next (ExtN.of (same_upd (Same.refl _) htC)) (Tabs.ext t4 (same_upd (Same.refl _) htC)) htC upd_same)
      rw [e9]
      dsimp only
      clear e8 htC S4 h4 e4 t4 hD
      refine seq_gen fun D10 e10 => ?_
      dsimp only [L2.tSeq, L2.tIfS, L2.tOr, L2.tAnd, L2.tNot, L2.tB, L2.tTest, L2.tCB, L2.tCons, L2.tNil, L2.tVar, L2.tC, L2.tRet, L2.tNext, L2.tAsg, L2.gName, L2.tCall, L2.tOp, L2.tOrV, L2.tAndV, L2.tNotV, L2.tChain, L2.tIf, L2.tDrop, L2.tAug, L2.tYes, L2.tIfT, L2.tPar3, L2.tDisp, L2.tPairs, L2.tDGet, L2.sDPut, L2.tThen, L2.kTup, L2.gTup, L2.gCons, L2.gNil, L2.tPar, L2.tLst, L2.tBM, L2.tTup, L2.tSl, L2.tPart, L2.tNoPart, List.map, List.append_nil]
      refine ⟨_, rfl, .inl ⟨rfl, _, SqL.of S.to⟩, [97, 32], 2500, rfl, rfl, (by decide), (by decide), _, rfl, .inl ⟨asL 2500, rfl, (by rw [as_len]; decide), fun _ _ H5 t xs s5 ht hsg => ?_, fun _ i hi => ?_, fun h => ?_⟩⟩
      · have hsg : Sgs H5 xs (scanF (asL 2500) 0).1 := hsg
        rw [as_scan] at hsg
        refine ⟨2500, rfl, (by decide), (by decide), fun D hD => lc_range (lo := 0) (n := 2500) (fun i H' => ∃ ys, H' D = some (.lst ys) ∧ Sgs H' ys ((List.range i).map asG) ∧ Same H5 H') ⟨[], upd_same, .nil, same_upd (Same.refl _) hD⟩ (fun i H' hi p => ?_) (fun H6 p => ?_)⟩
        · obtain ⟨ys, p1, p2, p3⟩ := p
          have yl : ys.length = i := by rw [p2.len, List.length_map, List.length_range]
          refine ⟨rfl, ?_⟩
          dsimp only [L2.tSeq, L2.tIfS, L2.tOr, L2.tAnd, L2.tNot, L2.tB, L2.tTest, L2.tCB, L2.tCons, L2.tNil, L2.tVar, L2.tC, L2.tRet, L2.tNext, L2.tAsg, L2.gName, L2.tCall, L2.tOp, L2.tOrV, L2.tAndV, L2.tNotV, L2.tChain, L2.tIf, L2.tDrop, L2.tAug, L2.tYes, L2.tIfT, L2.tPar3, L2.tDisp, L2.tPairs, L2.tDGet, L2.sDPut, L2.tThen, L2.kTup, L2.gTup, L2.gCons, L2.gNil, L2.tPar, L2.tLst, L2.tBM, L2.tTup, L2.tSl, L2.tPart, L2.tNoPart, List.map, List.append_nil]
          refine iteT ⟨_, rfl, _, _, rfl, rfl, .inl (by constructor <;> decide), (show 3 ≤ sizeLine by decide), fun u hu => ⟨ys, ?_, by rw [yl]; exact Nat.lt_trans hi (by decide), ys ++ [.ref u], upd_same, ?_, ?_⟩⟩
          · rw [upd_ne (fun z => by rw [z, hu] at p1; cases p1)]; exact p1
          · rw [List.range_succ, List.map_append]
            refine Sgs.lst ((upd_ne (fun z => by rw [z, hu] at p1; cases p1)).trans p1) (Sgs.snoc (Sgs.ex (same_upd (Same.refl _) hu) p2) (g := asG i) (upd_same.trans ?_))
            show some (HO.tup [.str (S' "word"), .str (tx [97]), .int (2 * (0 + (i : Int)))]) = some (.tup [.str (S' "word"), .str (tx [97]), .int ((2 * i : Nat) : Int)])
            rw [show (2 * (0 + (i : Int))) = ((2 * i : Nat) : Int) by omega]
          · exact same_upd (same_upd p3 (p3.free hu)) hD
        · obtain ⟨ys, p1, p2, p3⟩ := p
          refine .inl ⟨D, ys, rfl, SqL.of p1, fun u hu => ?_⟩
          have s7 := p3.trans (same_upd (o := .tup ys) (Same.refl _) hu)
          have good : GoodAll ((List.range 2500).map asG) := fun g hg => by
            obtain ⟨i, _, rfl⟩ := List.mem_map.mp hg
            exact .inr (.inr (.inl ⟨rfl, by simp [asG], by simp [asG]; decide, by simp [asG]⟩))
          have pos : ∀ g ∈ (List.range 2500).map asG, g.2.2 ≤ 100000 := fun g hg => by
            obtain ⟨i, hi, rfl⟩ := List.mem_map.mp hg
            have := List.mem_range.mp hi
            show 2 * i ≤ 100000
            omega
          refine ⟨.ref t, .ref u, .tuple (((List.range 2500).map asG).map sgD), rfl, .tup (SqT.of (s7 _ _ ht)) (Sgs.dp (Sgs.ex s7 hsg)), .tup (SqT.of upd_same) (Sgs.dp (Sgs.ex (same_upd (Same.refl _) hu) p2)), .inl ⟨t, rfl⟩, .inl ⟨u, rfl⟩, lk_sgs good pos (by rw [List.length_map, List.length_range]; exact Nat.le_refl _), ?_⟩
          have S4 := S.go (ExtN.of (s5.trans s7)) (Tabs.ext S.tb (s5.trans s7))
          refine ⟨tC, _, _, rfl, rfl, S4.to, by rw [List.length_replicate]; decide, ?_⟩
          show D10.nx _ _
          refine gen_heap (fun HD => HSt Tb H a b cn ov nv HD tC 147) (fun HG S => ?_) (S4.app (by decide))
          rw [e10]
          dsimp only
          clear e9
          refine seq_gen fun D11 e11 => ?_
          dsimp only [L2.tSeq, L2.tIfS, L2.tOr, L2.tAnd, L2.tNot, L2.tB, L2.tTest, L2.tCB, L2.tCons, L2.tNil, L2.tVar, L2.tC, L2.tRet, L2.tNext, L2.tAsg, L2.gName, L2.tCall, L2.tOp, L2.tOrV, L2.tAndV, L2.tNotV, L2.tChain, L2.tIf, L2.tDrop, L2.tAug, L2.tYes, L2.tIfT, L2.tPar3, L2.tDisp, L2.tPairs, L2.tDGet, L2.sDPut, L2.tThen, L2.kTup, L2.gTup, L2.gCons, L2.gNil, L2.tPar, L2.tLst, L2.tBM, L2.tTup, L2.tSl, L2.tPart, L2.tNoPart, List.map, List.append_nil]
          refine ⟨_, rfl, [97, 32], 2500, rfl, rfl, (by decide), (by decide), _, _, rfl, rfl, ?_, [32], 5001, rfl, rfl, (by decide), (by decide), (show 1 ≤ sizeLine by decide), fun o3 m5 => ⟨(show 1 ≤ sizeLine by decide), fun o4 m6 => ⟨(show 6 ≤ sizeLine by decide), fun L mL => ⟨L, rfl, ⟨_, SqL.of upd_same⟩, fun D hD => ?_⟩⟩⟩⟩
          · rw [tx_len, show (List.replicate 2500 [97, 32]).flatten.length = 5000 from as_len 2500]; decide
          have o34 : o3 ≠ o4 := fun z => by rw [← z, upd_same] at m6; cases m6
          have o3L : o3 ≠ L := fun z => by rw [← z, upd_ne o34, upd_same] at mL; cases mL
          have o4L : o4 ≠ L := fun z => by rw [← z, upd_same] at mL; cases mL
          have s3 := ((same_upd (o := .lst [.str (tx [97])]) (Same.refl HG) m5).trans (same_upd (o := .tup [.str (tx [97])]) (Same.refl _) m6)).trans (same_upd (o := .lst [.str (tx (List.replicate 2500 [97, 32]).flatten ++ Str.ofString "a"), .str (tx (List.replicate 5001 [32]).flatten), .non, .int 7, .ref o3, .ref o4]) (Same.refl _) mL)
          refine lc_trues (xs := [.str (tx (List.replicate 2500 [97, 32]).flatten ++ Str.ofString "a"), .str (tx (List.replicate 5001 [32]).flatten), .non, .int 7, .ref o3, .ref o4]) hD (SqL.of upd_same) (Tabs.ext S.tb s3) (show 6 < sizeLine by decide) (fun x H' hx e' t' Q2 hQ => ?_) (fun x => rfl) (fun H4 h4 e4 t4 => ?_)
          · have bx : BadT H' x := by
              have h3 : H' o3 = some (.lst [.str (tx [97])]) := e' _ _ ((upd_ne o3L).trans ((upd_ne o34).trans upd_same)) lst_nt
              have h4 : H' o4 = some (.tup [.str (tx [97])]) := e' _ _ ((upd_ne o4L).trans upd_same) tup_nt
              simp only [List.mem_cons, List.not_mem_nil, or_false] at hx
              rcases hx with rfl | rfl | rfl | rfl | rfl | rfl
              · exact .inl ⟨asL 2500 ++ [97], congrArg V.str (tx_app (asL 2500) [97]), by rw [List.length_append, as_len]; rfl⟩
              · exact .inl ⟨_, rfl, flat_len 5001 32⟩
              · exact .inr (.inl rfl)
              · exact .inr (.inr (.inl rfl))
              · exact .inr (.inr (.inr (.inl ⟨o3, rfl, h3⟩)))
              · exact .inr (.inr (.inr (.inr ⟨o4, rfl, h4⟩)))
            dsimp only [L2.tSeq, L2.tIfS, L2.tOr, L2.tAnd, L2.tNot, L2.tB, L2.tTest, L2.tCB, L2.tCons, L2.tNil, L2.tVar, L2.tC, L2.tRet, L2.tNext, L2.tAsg, L2.gName, L2.tCall, L2.tOp, L2.tOrV, L2.tAndV, L2.tNotV, L2.tChain, L2.tIf, L2.tDrop, L2.tAug, L2.tYes, L2.tIfT, L2.tPar3, L2.tDisp, L2.tPairs, L2.tDGet, L2.sDPut, L2.tThen, L2.kTup, L2.gTup, L2.gCons, L2.gNil, L2.tPar, L2.tLst, L2.tBM, L2.tTup, L2.tSl, L2.tPart, L2.tNoPart, List.map, List.append_nil]
            refine ⟨t', fun H5 e5 T5 => ?_⟩
            have fin : ∀ (d t u : Addr), H5 d = none → (upd H5 d (.xd [(S' "number", .non)])) t = none → (upd (upd H5 d (.xd [(S' "number", .non)])) t (.tup [.str (S' "text"), .non])) u = none →
                spLike K [.ref t, .ref u] (upd (upd (upd H5 d (.xd [(S' "number", .non)])) t (.tup [.str (S' "text"), .non])) u (.tup [.str (S' "text"), .non])) Q2 E0 := by
              intro d t u hd ht hu
              have tu : t ≠ u := fun z => by rw [← z, upd_same] at hu; cases hu
              have s7 := (same_upd (o := .xd [(S' "number", .non)]) (Same.refl H5) hd).trans ((same_upd (o := .tup [.str (S' "text"), .non]) (Same.refl _) ht).trans (same_upd (o := .tup [.str (S' "text"), .non]) (Same.refl _) hu))
              refine ⟨.ref t, .ref u, .tuple [.str (S' "text"), .none], rfl, .tup (SqT.of ((upd_ne tu).trans upd_same)) (.cons (.str _) (.cons .non .nil)), .tup (SqT.of upd_same) (.cons (.str _) (.cons .non .nil)), .inl ⟨t, rfl⟩, .inl ⟨u, rfl⟩, ?_, hQ _ (e5.trans (ExtN.of s7)) (Tabs.ext T5 s7)⟩
              exact Lk.mono (Lk.tup (LkAll.cons (Lk.str (l := [116, 101, 120, 116]) (by decide)) (LkAll.cons Lk.non (LkAll.nil 0)))) (by decide) (by decide)
            unfold TTell
            dsimp only [L2.tSeq, L2.tIfS, L2.tOr, L2.tAnd, L2.tNot, L2.tB, L2.tTest, L2.tCB, L2.tCons, L2.tNil, L2.tVar, L2.tC, L2.tRet, L2.tNext, L2.tAsg, L2.gName, L2.tCall, L2.tOp, L2.tOrV, L2.tAndV, L2.tNotV, L2.tChain, L2.tIf, L2.tDrop, L2.tAug, L2.tYes, L2.tIfT, L2.tPar3, L2.tDisp, L2.tPairs, L2.tDGet, L2.sDPut, L2.tThen, L2.kTup, L2.gTup, L2.gCons, L2.gNil, L2.tPar, L2.tLst, L2.tBM, L2.tTup, L2.tSl, L2.tPart, L2.tNoPart, List.map, List.append_nil]
            refine ⟨x, rfl, x, rfl, ?_⟩
            rcases bx.ty (K := K) e5 with ⟨z, ez, z1⟩ | ⟨ty, z1, z2⟩
            · exact .inl ⟨z, ez, by omega, fun c => absurd c (by omega), fun c => absurd c (by omega), fun _ d hd => ⟨CT, d, S' "number", S' "text", .non, rfl, rfl, .inl ⟨rfl, rfl, rfl⟩, upd_same, fun t ht => ⟨(show 2 ≤ sizeLine by decide), fun u hu => fin d t u hd ht hu⟩⟩⟩
            · exact .inr ⟨ty, z1, z2, fun d hd => ⟨CT, d, S' "number", S' "text", .non, rfl, rfl, .inl ⟨rfl, rfl, rfl⟩, upd_same, fun t ht => ⟨(show 2 ≤ sizeLine by decide), fun u hu => fin d t u hd ht hu⟩⟩⟩
          have S4 := S.go ((ExtN.of s3).trans e4) t4
          refine ⟨tC, D, _, _, rfl, rfl, S4.to, h4, (show 153 ≤ sizeLine by decide), fun tD htD => ?_⟩
          rw [List.replicate_append_replicate]
          refine gen_heap (fun HD => HSt Tb H a b cn ov nv HD tD 153) (fun HI S => ?_) (S4.next (ExtN.of (same_upd (Same.refl _) htD)) (Tabs.ext t4 (same_upd (Same.refl _) htD)) htD upd_same)
          rw [e11]
          dsimp only
          clear e10 htD S4 h4 e4 t4 s3 hD mL m5 m6 o34 o3L o4L
          refine seq_gen fun D12 e12 => ?_
          dsimp only [L2.tSeq, L2.tIfS, L2.tOr, L2.tAnd, L2.tNot, L2.tB, L2.tTest, L2.tCB, L2.tCons, L2.tNil, L2.tVar, L2.tC, L2.tRet, L2.tNext, L2.tAsg, L2.gName, L2.tCall, L2.tOp, L2.tOrV, L2.tAndV, L2.tNotV, L2.tChain, L2.tIf, L2.tDrop, L2.tAug, L2.tYes, L2.tIfT, L2.tPar3, L2.tDisp, L2.tPairs, L2.tDGet, L2.sDPut, L2.tThen, L2.kTup, L2.gTup, L2.gCons, L2.gNil, L2.tPar, L2.tLst, L2.tBM, L2.tSl, L2.tPart, L2.tNoPart, List.map, List.append_nil]
          refine ⟨_, rfl, .inl ⟨rfl, _, SqL.of S.to⟩, _, rfl, .inl ⟨[49, 50, 97, 98, 60, 61, 51, 61, 48, 32, 48], rfl, (by decide), fun _ _ H5 t xs sR ht hsg => ?_, fun _ i hi => ?_, fun h => absurd h (by decide)⟩⟩
          · have hsg : Sgs H5 xs [(S' "number", [49, 50], 0), (S' "word", [97, 98], 2), (S' "mark", [60, 61], 4), (S' "number", [51], 6), (S' "mark", [61], 7), (S' "number", [48], 8), (S' "number", [48], 10)] := hsg
            refine tTup_open ?_
            dsimp only [L2.tSeq, L2.tIfS, L2.tOr, L2.tAnd, L2.tNot, L2.tB, L2.tTest, L2.tCB, L2.tCons, L2.tNil, L2.tVar, L2.tC, L2.tRet, L2.tNext, L2.tAsg, L2.gName, L2.tCall, L2.tOp, L2.tOrV, L2.tAndV, L2.tNotV, L2.tChain, L2.tIf, L2.tDrop, L2.tAug, L2.tYes, L2.tIfT, L2.tPar3, L2.tDisp, L2.tPairs, L2.tDGet, L2.sDPut, L2.tThen, L2.kTup, L2.gTup, L2.gCons, L2.gNil, L2.tPar, L2.tLst, L2.tBM, L2.tSl, L2.tPart, L2.tNoPart, List.map, List.append_nil]
            refine tup3 fun u1 H6 s1 f1 => tup3 fun u2 H7 s2 f2 => tup3 fun u3 H8 s3 f3 => tup3 fun u4 H9 s4 f4 => tup3 fun u5 H10 s5 f5 => tup3 fun u6 H11 s6 f6 => tup3 fun u7 H12 s7 f7 => ⟨(show 7 ≤ sizeLine by decide), fun u hu => ?_⟩
            generalize eF : upd H12 u (.tup [.ref u1, .ref u2, .ref u3, .ref u4, .ref u5, .ref u6, .ref u7]) = H13
            have s8 : Same H12 H13 := by rw [← eF]; exact same_upd (Same.refl _) hu
            have f8 : H13 u = some (.tup [.ref u1, .ref u2, .ref u3, .ref u4, .ref u5, .ref u6, .ref u7]) := by rw [← eF]; exact upd_same
            have sg : Sgs H13 [.ref u1, .ref u2, .ref u3, .ref u4, .ref u5, .ref u6, .ref u7] [(S' "number", [49, 50], 0), (S' "word", [97, 98], 2), (S' "mark", [60, 61], 4), (S' "number", [51], 6), (S' "mark", [61], 7), (S' "number", [48], 8), (S' "number", [48], 10)] := .cons ⟨u1, rfl, ((((((s2.trans s3).trans s4).trans s5).trans s6).trans s7).trans s8) _ _ f1⟩ (.cons ⟨u2, rfl, (((((s3.trans s4).trans s5).trans s6).trans s7).trans s8) _ _ f2⟩ (.cons ⟨u3, rfl, ((((s4.trans s5).trans s6).trans s7).trans s8) _ _ f3⟩ (.cons ⟨u4, rfl, (((s5.trans s6).trans s7).trans s8) _ _ f4⟩ (.cons ⟨u5, rfl, ((s6.trans s7).trans s8) _ _ f5⟩ (.cons ⟨u6, rfl, (s7.trans s8) _ _ f6⟩ (.cons ⟨u7, rfl, s8 _ _ f7⟩ (.nil)))))))
            have sT : Same H5 H13 := (((((((s1.trans s2).trans s3).trans s4).trans s5).trans s6).trans s7).trans s8)
            have good : GoodAll [(S' "number", [49, 50], 0), (S' "word", [97, 98], 2), (S' "mark", [60, 61], 4), (S' "number", [51], 6), (S' "mark", [61], 7), (S' "number", [48], 8), (S' "number", [48], 10)] := fun g hg => by
              simp only [List.mem_cons, List.not_mem_nil, or_false] at hg
              rcases hg with rfl | rfl | rfl | rfl | rfl | rfl | rfl
              · exact .inr (.inl ⟨rfl, by decide, by decide, by decide, by decide⟩)
              · exact .inr (.inr (.inl ⟨rfl, by decide, by decide, by decide⟩))
              · exact .inr (.inr (.inr ⟨rfl, .inr rfl⟩))
              · exact .inr (.inl ⟨rfl, by decide, by decide, by decide, by decide⟩)
              · exact .inr (.inr (.inr ⟨rfl, .inl ⟨61, by decide, rfl⟩⟩))
              · exact .inr (.inl ⟨rfl, by decide, by decide, by decide, by decide⟩)
              · exact .inr (.inl ⟨rfl, by decide, by decide, by decide, by decide⟩)
            have pos : ∀ g ∈ ([(S' "number", [49, 50], 0), (S' "word", [97, 98], 2), (S' "mark", [60, 61], 4), (S' "number", [51], 6), (S' "mark", [61], 7), (S' "number", [48], 8), (S' "number", [48], 10)] : List Sg), g.2.2 ≤ 100000 := by decide
            refine ⟨.ref t, .ref u, .tuple (([(S' "number", [49, 50], 0), (S' "word", [97, 98], 2), (S' "mark", [60, 61], 4), (S' "number", [51], 6), (S' "mark", [61], 7), (S' "number", [48], 8), (S' "number", [48], 10)] : List Sg).map sgD), rfl, .tup (SqT.of (sT _ _ ht)) (Sgs.dp (Sgs.ex sT hsg)), .tup (SqT.of f8) (Sgs.dp sg), .inl ⟨t, rfl⟩, .inl ⟨u, rfl⟩, lk_sgs good pos (by decide), ?_⟩
            have S4 := S.go (ExtN.of (sR.trans sT)) (Tabs.ext S.tb (sR.trans sT))
            refine ⟨tD, _, _, rfl, rfl, S4.to, by rw [List.length_replicate]; decide, ?_⟩
            show D12.nx _ _
            refine gen_heap (fun HD => HSt Tb H a b cn ov nv HD tD 154) (fun HJ S => ?_) (S4.app (by decide))
            rw [e12]
            dsimp only [L2.tSeq, L2.tIfS, L2.tOr, L2.tAnd, L2.tNot, L2.tB, L2.tTest, L2.tCB, L2.tCons, L2.tNil, L2.tVar, L2.tC, L2.tRet, L2.tNext, L2.tAsg, L2.gName, L2.tCall, L2.tOp, L2.tOrV, L2.tAndV, L2.tNotV, L2.tChain, L2.tIf, L2.tDrop, L2.tAug, L2.tYes, L2.tIfT, L2.tPar3, L2.tDisp, L2.tPairs, L2.tDGet, L2.sDPut, L2.tThen, L2.kTup, L2.gTup, L2.gCons, L2.gNil, L2.tPar, L2.tLst, L2.tBM, L2.tTup, L2.tSl, L2.tPart, L2.tNoPart, List.map, List.append_nil]
            refine ⟨_, rfl, (show 1 ≤ sizeLine by decide), fun p1 hp1 => ?_⟩
            have s9 := same_upd (o := .lst [.bl true]) (Same.refl HJ) hp1
            refine ⟨_, rfl, _, 154, rfl, .inl ⟨_, SqL.of (s9 _ _ S.to), by rw [List.length_replicate]⟩, ?_⟩
            refine ⟨p1, _, _, rfl, rfl, upd_same, (by decide), (by decide), (by decide), fun p2 h2 => ?_⟩
            have s10 := s9.trans (same_upd (o := .lst (List.replicate 154 (.bl true))) (Same.refl _) h2)
            have dpb : ∀ (H : Hp) (n : Nat), DpAll K H (List.replicate n (.bl true)) (List.replicate n (.bool true)) := fun H n => by
              induction n with
              | zero => exact .nil
              | succ n ih => rw [List.replicate_succ, List.replicate_succ]; exact .cons (.bl true) ih
            have lk : Lk 1 400 (.list (List.replicate 154 (.bool true))) := Lk.mono (Lk.lst (LkAll.of (k := 0) (n := 0) fun d hd => by rw [List.eq_of_mem_replicate hd]; exact Lk.bl true)) (Nat.le_refl _) (by decide)
            have ev : PyData.eqv (.list (List.replicate 154 (.bool true))) (.list (List.replicate 154 (.bool true))) = true := SeqAt.eqv_refl _ lk.lay
            refine ⟨.list (List.replicate 154 (.bool true)), .list (List.replicate 154 (.bool true)), .lst (SqL.of (s10 _ _ S.to)) (dpb _ _), .lst (SqL.of (upd_same.trans ?_)) (dpb _ _), lk.shaped (by decide), lk.shaped (by decide), ?_⟩
            · rfl
            · rw [ev]
              exact q _ (S.x.trans (ExtN.of s10)) (Tabs.ext S.tb s10)
          · have : (none : Option Nat) = some i := hi
            cases this
      · have : (scanF (asL 2500) 0).2 = some i := hi
        rw [as_scan] at this; cases this
      · rw [as_len] at h; omega
end
end K8
set_option Elab.async false
set_option linter.all false
set_option maxRecDepth 100000
set_option maxHeartbeats 4000000
namespace K8
open PySem PySem.Spec PyProof.Rows L2 LamX
abbrev sLaw : Stmt := top 35
abbrev lN : List Str := ["script", "turn", "m", "text", "found"]
theorem scLaw : FnScope lN ["script"] (defScope sLaw) := ⟨rfl, rfl, rfl, by decide +kernel, rfl, by decide +kernel, by decide +kernel⟩
theorem SqL.keep {K : PySem.W.Frag} {H H' : Hp} {a : Addr} {xs : List V} (h : SqL K H a xs) (e : ∀ o, H a = some o → (∀ ps, o ≠ .tbl ps) → H' a = some o) : SqL K H' a xs := by
  rcases h with (h | ⟨o, h⟩) | h
  · exact .inl (.inl (e _ h lst_nt))
  · exact .inl (.inr ⟨o, e _ h (fun ps z => by cases z)⟩)
  · exact .inr h
def spLaw (K : PySem.W.Frag) (Tb : List (Addr × Str)) : Sp := fun vs H Q _ => ∃ (a : Addr) (zs : List Int), vs = [.ref a] ∧ SqL K H a (zs.map V.int) ∧ zs.length ≤ 63 ∧ Tabs Tb H ∧ ∀ H', Q (.bl true) H'
section
variable {P : Program} {w : World} {K : PySem.W.Frag} {mg : Str → Option Value} {base : Heap} {f CN fN CT fT : Addr} {fd : FuncData} {Tb : List (Addr × Str)}
theorem ok_law (T : Txt P K mg CN fN CT fT) (nR : mg "range" = none) (nM : mg "min" = none) (cB : Cl P w K mg base CX0 1 "_law_begun" ["script", "turn"] (spBegun K)) (cO : Cl P w K mg base CX0 2 "_law_of" ["m", "some"] (spOf K)) (cR : Cl P w K mg base CX0 4 "_law_row_of" ["m", "many"] spRowOf)
    (cK : ClG P w K mg base CX0 1 "_law_like" ["told", "due"] (spLike K)) (cS5 : Cl P w K mg base (L2.CX P w) 5 "signs_of" ["string"] (spSignsOf K CT)) (cX : ClG P w K mg base CX0 8 "_law_spoiled_right" ["m", "text", "found"] (spSpoil Tb))
    (cH : ClG P w K mg base CX0 8 "_law_by_hand" [] (fun vs H Q _ => vs = [] ∧ Tabs Tb H ∧ ∀ H', ExtN H H' → Tabs Tb H' → Q (.bl true) H'))
    (F : Fun K "law" "law" sLaw f fd) : FnG P w K mg base CX0 9 f fd ["script"] (spLaw K Tb) := by
  refine Fun.okG F scLaw (fun vs H Q E h => ?_) (fun cdv A outer s H vs Q E lk hr hG h => ?_)
  · obtain ⟨a, zs, rfl, _⟩ := h; rfl
  · refine ⟨_, PSs.nox (pss_cons (ps_for PassesOwn.never rfl (pi_range1 rfl nR (pa_cons (pe_op op_add pe_int (pe_callB (call_min2 rfl) rfl nM (by decide +kernel) (pa_cons pe_int (pa_cons (pe_callB call_len rfl T.nLen (by decide +kernel) (pa_cons (pv 0) pa_nil)) pa_nil)))) pa_nil)) (pg_name (i := 1) scLaw.nd rfl (Or.inl rfl)) (pss_cons (ps_set (i := 2) scLaw.nd rfl (Or.inl rfl) (pe_cl cB hr (by decide) rfl pass0 (pa_cons (pv 0) (pa_cons (pv 1) pa_nil))))
      (pss_cons (ps_asg (pe_cl cR hr (by decide) rfl pass0 (pa_cons (pv 2) (pa_cons (pe_cl cO hr (by decide) rfl pass0 (pa_cons (pv 2) (pa_cons (pe_lst (pa_cons pe_int (pa_cons pe_int (pa_cons pe_int (pa_cons pe_int (pa_cons pe_int pa_nil)))))) pa_nil))) pa_nil))) (pg_tup (by rfl) (pgs_cons (pg_name (i := 3) scLaw.nd rfl (Or.inl rfl)) (pgs_cons (pg_name (i := 4) scLaw.nd rfl (Or.inl rfl)) pgs_nil))))
      (pss_cons (ps_if (pt_cmpR op_gt (pe_callB call_len rfl T.nLen (by decide +kernel) (pa_cons (pv 3) pa_nil)) pe_int (by rfl)) (pss_one (ps_asg (pe_cl cR hr (by decide) rfl pass0 (pa_cons (pv 2) (pa_cons pe_int pa_nil))) (pg_tup (by rfl) (pgs_cons (pg_name (i := 3) scLaw.nd rfl (Or.inl rfl)) (pgs_cons (pg_name (i := 4) scLaw.nd rfl (Or.inl rfl)) pgs_nil))))) pss_nil)
      (pss_cons (ps_if (pt_not (pt_val (pe_clG cK hr (by exact hG) (by decide) rfl pass0 (pa_cons (pe_cl cS5 hr (by decide) rfl passL (pa_cons (pv 3) pa_nil)) (pa_cons (pe_tupleOf rfl T.nTup (pv 4)) pa_nil))))) (pss_one (ps_ret pe_bl)) pss_nil)
      (pss_one (ps_if (PW.pt (pw_and (pt_cmpR op_lt (pe_callB call_len rfl T.nLen (by decide +kernel) (pa_cons (pv 3) pa_nil)) pe_int (by rfl)) (pw_and1 (pt_not (pt_val (pe_clG cX hr (by exact hG) (by decide) rfl pass0 (pa_cons (pv 2) (pa_cons (pv 3) (pa_cons (pv 4) pa_nil))))))))) (pss_one (ps_ret pe_bl)) pss_nil)))))))
      (pss_one (ps_ret (pe_clG0 cH hr (by exact hG) (by decide) rfl pass0)))), ?_⟩
    obtain ⟨a, zs, rfl, hs, hl, hT, q⟩ := h
    dsimp only [L2.tSeq, L2.tIfS, L2.tOr, L2.tAnd, L2.tNot, L2.tB, L2.tTest, L2.tCB, L2.tCons, L2.tNil, L2.tVar, L2.tC, L2.tRet, L2.tNext, L2.tAsg, L2.gName, L2.tCall, L2.tOp, L2.tOrV, L2.tAndV, L2.tNotV, L2.tChain, L2.tIf, L2.tDrop, L2.tAug, L2.tYes, L2.tIfT, L2.tPar3, L2.tDisp, L2.tPairs, L2.tDGet, L2.sDPut, L2.tThen, L2.kTup, L2.gTup, L2.gCons, L2.gNil, L2.tPar, L2.tLst, L2.tBM, L2.tTup, L2.tSl, L2.tPart, L2.tNoPart, List.map, List.append_nil]
    refine ⟨_, rfl, _, _, rfl, .inl ⟨_, hs, rfl⟩, _, _, rfl, _, _, rfl, rfl, _, rfl, ?_, ?_, ?_⟩
    · rw [List.length_map]; split <;> omega
    · rw [List.length_map]; split <;> omega
    refine for_range (lo := 0) (n := _) (fun i σ H' => SqL K H' a (zs.map V.int) ∧ Tabs Tb H' ∧ ∃ o1 o2 o3 o4, σ = [some (.ref a), o1, o2, o3, o4]) ⟨hs, hT, none, none, none, none, rfl⟩ (fun i σ H' hi hP => ?_) (fun σ H' hP => ?_)
    · obtain ⟨p1, p2, o1, o2, o3, o4, rfl⟩ := hP
      have hi6 : i ≤ 6 := by
        rw [List.length_map] at hi
        revert hi
        split <;> intro hi <;> omega
      rw [Int.zero_add]
      dsimp only [gName]
      refine seq_gen fun D1 e1 => ?_
      dsimp only [L2.tSeq, L2.tIfS, L2.tOr, L2.tAnd, L2.tNot, L2.tB, L2.tTest, L2.tCB, L2.tCons, L2.tNil, L2.tVar, L2.tC, L2.tRet, L2.tNext, L2.tAsg, L2.gName, L2.tCall, L2.tOp, L2.tOrV, L2.tAndV, L2.tNotV, L2.tChain, L2.tIf, L2.tDrop, L2.tAug, L2.tYes, L2.tIfT, L2.tPar3, L2.tDisp, L2.tPairs, L2.tDGet, L2.sDPut, L2.tThen, L2.kTup, L2.gTup, L2.gCons, L2.gNil, L2.tPar, L2.tLst, L2.tBM, L2.tTup, L2.tSl, L2.tPart, L2.tNoPart, List.map, List.append_nil]
      refine ⟨_, rfl, _, rfl, a, zs, i, rfl, p1, hl, by omega, fun m c H1 m0 c0 hm1 s1 => ?_⟩
      have keepA : ∀ Hz, ButN m H1 Hz → SqL K Hz a (zs.map V.int) := fun Hz bz => SqL.keep p1 fun o ho nt => bz a o (fun z => by rw [z, m0] at ho; cases ho) (s1 _ _ ho) nt
      have T1 : Tabs Tb H1 := Tabs.ext p2 s1
      rw [e1]
      dsimp only
      refine seq_gen fun D2 e2 => ?_
      dsimp only [L2.tSeq, L2.tIfS, L2.tOr, L2.tAnd, L2.tNot, L2.tB, L2.tTest, L2.tCB, L2.tCons, L2.tNil, L2.tVar, L2.tC, L2.tRet, L2.tNext, L2.tAsg, L2.gName, L2.tCall, L2.tOp, L2.tOrV, L2.tAndV, L2.tNotV, L2.tChain, L2.tIf, L2.tDrop, L2.tAug, L2.tYes, L2.tIfT, L2.tPar3, L2.tDisp, L2.tPairs, L2.tDGet, L2.sDPut, L2.tThen, L2.kTup, L2.gTup, L2.gCons, L2.gNil, L2.tPar, L2.tLst, L2.tBM, L2.tTup, L2.tSl, L2.tPart, L2.tNoPart, List.map, List.append_nil]
      refine ⟨_, rfl, _, rfl, of_lit hm1 (by omega) (by simp) (by simp) fun v H2 hv hm2 b2 => ?_⟩
      obtain ⟨many, rfl, hmany⟩ : ∃ many : Nat, v = .int (many : Int) ∧ many ≤ 60 := by
        simp only [List.mem_cons, List.not_mem_nil, or_false] at hv
        rcases hv with rfl | rfl | rfl | rfl | rfl
        · exact ⟨0, rfl, by decide⟩
        · exact ⟨1, rfl, by decide⟩
        · exact ⟨5, rfl, by decide⟩
        · exact ⟨20, rfl, by decide⟩
        · exact ⟨60, rfl, by decide⟩
      refine ⟨m, c, 1, many, rfl, hmany, hm2, by omega, fun t p l xs gs last b H3 ht hp hsg R ga gl hb hll hm3 b3 => ⟨t, _, rfl, SqT.of ht, rfl, _, _, rfl, _, _, rfl, rfl, ?_⟩⟩
      rw [e2]
      dsimp only
      refine seq_gen fun D3 e3 => ?_
      have B3 : But m H1 H3 := b2.trans b3
      have rest : ∀ (n : Nat) (l : List Nat) (xs : List V) (gs : List Sg) (last : Str) (b : Nat) (p : Addr) (H4 : Hp), MSt H4 m c n → n ≤ 2000 → But m H1 H4 → H4 p = some (.lst xs) → Sgs H4 xs gs → Row l gs last → GoodAll gs → gs.length ≤ 60 → l.length ≤ 7000 → b < 2 →
          (l ++ sps b).length ≤ 5000 → D3.nx [some (.ref a), some (.int (i : Int)), some (.ref m), some (.str (tx (l ++ sps b))), some (.ref p)] H4 := by
        intro n l xs gs last b p H4 hm4 hn b4 hp4 hsg4 R4 ga4 gl4 ll4 hb4 lt4
        have sc : scanF (l ++ sps b) 0 = (gs, none) := R4.done b
        have lk : Lk 60 (2 ^ 20) (.tuple (gs.map sgD)) := lk_sgs ga4 (fun g hg => Nat.le_trans (R4.at_ g hg).1 (by omega)) (by omega)
        have T4 : Tabs Tb H4 := Tabs.but T1 hm1 b4
        rw [e3]
        dsimp only
        refine seq_gen fun D4 e4 => ?_
        dsimp only [L2.tSeq, L2.tIfS, L2.tOr, L2.tAnd, L2.tNot, L2.tB, L2.tTest, L2.tCB, L2.tCons, L2.tNil, L2.tVar, L2.tC, L2.tRet, L2.tNext, L2.tAsg, L2.gName, L2.tCall, L2.tOp, L2.tOrV, L2.tAndV, L2.tNotV, L2.tChain, L2.tIf, L2.tDrop, L2.tAug, L2.tYes, L2.tIfT, L2.tPar3, L2.tDisp, L2.tPairs, L2.tDGet, L2.sDPut, L2.tThen, L2.kTup, L2.gTup, L2.gCons, L2.gNil, L2.tPar, L2.tLst, L2.tBM, L2.tTup, L2.tSl, L2.tPart, L2.tNoPart, List.map, List.append_nil]
        refine ⟨_, rfl, _, rfl, .inl ⟨l ++ sps b, rfl, by omega, fun _ _ H5 t xs1 s5 ht1 hsg1 => ?_, fun _ i hi => ?_, fun h => absurd h (by omega)⟩⟩
        · have hsg1 : Sgs H5 xs1 (scanF (l ++ sps b) 0).1 := hsg1
          rw [sc] at hsg1
          refine ⟨_, rfl, .inl ⟨p, xs, rfl, SqL.of (s5 _ _ hp4), fun u hu => ?_⟩⟩
          have s6 := s5.trans (same_upd (o := .tup xs) (Same.refl _) hu)
          have tu : t ≠ u := fun z => by rw [z, hu] at ht1; cases ht1
          refine ⟨.ref t, .ref u, .tuple (gs.map sgD), rfl, .tup (SqT.of ((upd_ne tu).trans ht1)) (Sgs.dp (Sgs.ex (same_upd (Same.refl _) hu) hsg1)), .tup (SqT.of upd_same) (Sgs.dp (Sgs.ex s6 hsg4)), .inl ⟨t, rfl⟩, .inl ⟨u, rfl⟩, lk, _, rfl, iteF ?_⟩
          refine gen_heap (fun HZ => Same H4 HZ) (fun H7 s7 => ?_) s6
          rw [e4]
          dsimp only [L2.tSeq, L2.tIfS, L2.tOr, L2.tAnd, L2.tNot, L2.tB, L2.tTest, L2.tCB, L2.tCons, L2.tNil, L2.tVar, L2.tC, L2.tRet, L2.tNext, L2.tAsg, L2.gName, L2.tCall, L2.tOp, L2.tOrV, L2.tAndV, L2.tNotV, L2.tChain, L2.tIf, L2.tDrop, L2.tAug, L2.tYes, L2.tIfT, L2.tPar3, L2.tDisp, L2.tPairs, L2.tDGet, L2.sDPut, L2.tThen, L2.kTup, L2.gTup, L2.gCons, L2.gNil, L2.tPar, L2.tLst, L2.tBM, L2.tTup, L2.tSl, L2.tPart, L2.tNoPart, List.map, List.append_nil]
          have hm7 : MSt H7 m c n := hm4.but s7
          refine ⟨_, rfl, _, _, rfl, len_tx (z := l ++ sps b) (by omega), _, _, rfl, rfl, _, rfl, ite2 (fun hlt => ?_) (fun hlt => ?_)⟩
          · refine ⟨_, rfl, _, rfl, _, rfl, m, c, p, n, l, xs, gs, last, b, rfl, hm7, by omega, s7 _ _ hp4, Sgs.ex s7 hsg4, R4, gl4, by have := of_decide_eq_true hlt; omega, Tabs.ext T4 s7, fun H8 _ b8 t8 => ⟨_, rfl, iteF ⟨keepA H8 (ButN.trans (But.n (b4.trans (Same.but s7))) b8), t8, _, _, _, _, rfl⟩⟩⟩
          · exact iteF ⟨keepA H7 (But.n (b4.trans (Same.but s7))), Tabs.ext T4 s7, _, _, _, _, rfl⟩
        · have : (scanF (l ++ sps b) 0).2 = some i := hi
          rw [sc] at this; cases this
      dsimp only [L2.tSeq, L2.tIfS, L2.tOr, L2.tAnd, L2.tNot, L2.tB, L2.tTest, L2.tCB, L2.tCons, L2.tNil, L2.tVar, L2.tC, L2.tRet, L2.tNext, L2.tAsg, L2.gName, L2.tCall, L2.tOp, L2.tOrV, L2.tAndV, L2.tNotV, L2.tChain, L2.tIf, L2.tDrop, L2.tAug, L2.tYes, L2.tIfT, L2.tPar3, L2.tDisp, L2.tPairs, L2.tDGet, L2.sDPut, L2.tThen, L2.kTup, L2.gTup, L2.gCons, L2.gNil, L2.tPar, L2.tLst, L2.tBM, L2.tTup, L2.tSl, L2.tPart, L2.tNoPart, List.map, List.append_nil]
      have hll2 : (l ++ sps b).length ≤ 7000 := by rw [List.length_append]; unfold sps; rw [List.length_replicate]; omega
      refine ⟨_, rfl, _, _, rfl, len_tx (z := l ++ sps b) (by omega), _, _, rfl, rfl, _, rfl, ite2 (fun hlt => ?_) (fun hlt => ?_)⟩
      · refine ⟨_, rfl, m, c, 1 + 2 + 7 * many, 5, rfl, by decide, hm3, by omega, fun t p l xs gs last b H4 ht hp hsg R ga gl hb hll hm4 b4 => ⟨t, _, rfl, SqT.of ht, rfl, _, _, rfl, _, _, rfl, rfl, ?_⟩⟩
        exact rest _ l xs gs last b p H4 hm4 (by omega) (B3.trans b4) hp hsg R ga (by omega) (by omega) hb (by rw [List.length_append]; unfold sps; rw [List.length_replicate]; omega)
      · exact rest _ l xs gs last b p H3 hm3 (by omega) B3 hp hsg R ga (by omega) (by omega) hb (by
          have : ¬ ((5000 : Int) < ((l ++ sps b).length : Nat)) := fun z => hlt (decide_eq_true z)
          omega)
    · obtain ⟨p1, p2, o1, o2, o3, o4, rfl⟩ := hP
      dsimp only [L2.tSeq, L2.tIfS, L2.tOr, L2.tAnd, L2.tNot, L2.tB, L2.tTest, L2.tCB, L2.tCons, L2.tNil, L2.tVar, L2.tC, L2.tRet, L2.tNext, L2.tAsg, L2.gName, L2.tCall, L2.tOp, L2.tOrV, L2.tAndV, L2.tNotV, L2.tChain, L2.tIf, L2.tDrop, L2.tAug, L2.tYes, L2.tIfT, L2.tPar3, L2.tDisp, L2.tPairs, L2.tDGet, L2.sDPut, L2.tThen, L2.kTup, L2.gTup, L2.gCons, L2.gNil, L2.tPar, L2.tLst, L2.tBM, L2.tTup, L2.tSl, L2.tPart, L2.tNoPart, List.map, List.append_nil]
      exact ⟨rfl, p2, fun H2 _ _ => q H2⟩
end
end K8
set_option Elab.async false
set_option linter.all false
set_option maxRecDepth 100000
set_option maxHeartbeats 4000000
namespace K8
open PySem PySem.Spec PyProof.Rows L2 LamX
/-- a def of the top, and where it stands -/
structure FA (K : PySem.W.Frag) (mg : Str → Option Value) (x : Str) (st : Stmt) : Prop where
  ex : ∃ f fd, mg x = some (.ref f) ∧ Fun K x x st f fd
structure FC (K : PySem.W.Frag) (mg : Str → Option Value) (x : Str) (st : Stmt) (c : Addr) : Prop where
  ex : ∃ f fd, mg x = some (.ref f) ∧ Fun K x x st f fd ∧ codeOf K f = some (.ref c)
section
variable {K : PySem.W.Frag} {mg : Str → Option Value} {h : Heap}
theorem fa_mk {x : Str} {st : Stmt} {f : Addr} {oc : Value} {od an : Option Addr} {osl : Array (Option Value)} {kV doc pm cdv ct : Value} (X : K.In h) (G : h.Ns mainGlobals mg) (a : PySem.W.nsIn K mainGlobals x = some (some (.ref f)))
    (l : K.lookup f = some ⟨oc, od, .func (PySem.W.fnOf x x (defArgs st) (defBody st) (defScope st) .none kV doc pm an cdv ct), osl⟩) (c : PySem.W.codeIn K cdv x = true) (k : PySem.W.keepIn K (.ref f) = true) : FA K mg x st := ⟨f, _, PySem.W.mg_of X G a, fun_mk l c k⟩
theorem fc_mk {x : Str} {st : Stmt} {f cd : Addr} {oc : Value} {od an : Option Addr} {osl : Array (Option Value)} {kV doc pm ct : Value} (X : K.In h) (G : h.Ns mainGlobals mg) (a : PySem.W.nsIn K mainGlobals x = some (some (.ref f)))
    (l : K.lookup f = some ⟨oc, od, .func (PySem.W.fnOf x x (defArgs st) (defBody st) (defScope st) .none kV doc pm an (.ref cd) ct), osl⟩) (c : PySem.W.codeIn K (.ref cd) x = true) (k : PySem.W.keepIn K (.ref f) = true) : FC K mg x st cd :=
  ⟨f, _, PySem.W.mg_of X G a, fun_mk l c k, by unfold codeOf; rw [l]⟩
/-- the texts of a written tuple -/
def strsB : List Str → List Value → Bool
  | [], [] => true
  | x :: xs, .str y _ :: vs => decide (x = y) && strsB xs vs
  | _, _ => false
theorem strsB_vals : ∀ {xs : List Str} {vs : List Value}, strsB xs vs = true → Vals (xs.map V.str) vs
  | [], [], _ => .nil
  | x :: xs, .str y t :: vs, h => by
    unfold strsB at h
    rw [Bool.and_eq_true] at h
    obtain rfl := of_decide_eq_true h.1
    exact .cons ⟨t, rfl⟩ (strsB_vals h.2)
theorem sq_mk {x : Str} {a : Addr} {d : Option Addr} {its : Array Value} {n : Nat} {sl : Array (Option Value)} {xs : List Str} (X : K.In h) (G : h.Ns mainGlobals mg) (e : PySem.W.nsIn K mainGlobals x = some (some (.ref a))) (l : K.lookup a = some ⟨.type "tuple", d, .seq its n, sl⟩)
    (t : strsB xs its.toList = true) (z : xs.length ≤ 100) : ∃ a, mg x = some (.ref a) ∧ ∀ H, SqT K H a (xs.map V.str) := by
  have v := strsB_vals t
  refine ⟨a, PySem.W.mg_of X G e, fun H => .inr ⟨_, its, n, l, rfl, rfl, ?_, v⟩⟩
  rw [← Array.length_toList, ← v.length, List.length_map]
  exact Nat.le_trans z (by decide)
end
theorem vs_mk {K : PySem.W.Frag} {mg : Str → Option Value} {h : Heap} {x z : Str} {t : Tok} {l : List Nat} (X : K.In h) (G : h.Ns mainGlobals mg) (e : PySem.W.nsIn K mainGlobals x = some (some (.str z t))) (q : z = tx l) : ∃ t, mg x = some (.str (tx l) t) := ⟨t, by rw [← q]; exact PySem.W.mg_of X G e⟩
theorem vi_mk {K : PySem.W.Frag} {mg : Str → Option Value} {h : Heap} {x : Str} {i j : Int} {t : Tok} (X : K.In h) (G : h.Ns mainGlobals mg) (e : PySem.W.nsIn K mainGlobals x = some (some (.int i t))) (q : i = j) : ∃ t, mg x = some (.int j t) := ⟨t, by rw [← q]; exact PySem.W.mg_of X G e⟩
theorem sup_mk {P : Program} {K : PySem.W.Frag} {mg : Str → Option Value} {h : Heap} {nm fld msg : Str} {p : SupX.Pl} {C fI N cc cda : Addr} {n2 q : Str} {bs bm : List Value} {sn : List Str} {sub : List Value} {ab : Bool} {col : Option Bool} {dd : Option Addr} {k0 k1 k2 k3 k5 : Option Value}
    {oc doc pm ct l1 l2 : Value} {od an d1 d2 : Option Addr} {osl s1 s2 : Array (Option Value)} {vs : Array Value} {file : Str} {tf : Tok} (X : K.In h) (G : h.Ns mainGlobals mg) (ok : SupX.NameOk nm fld msg p) (aC : PySem.W.nsIn K mainGlobals nm = some (some (.ref C)))
    (xL : K.lookup C = some (excClassObj n2 q C N bs bm true sn sub ab col dd k0 k1 k2 k3 k5 "ValueError.__new__")) (rf : PySem.HandSPX.refsVE bm = true) (al : PySem.W.alongIn K "__init__" bm = some (some (.builtin "ValueError.__init__")))
    (sa : PySem.W.findIn K (.ref C) "__setattr__" = some (some (.builtin "object.__setattr__"))) (ga : PySem.W.findIn K (.ref C) "__getattribute__" = some (some (.builtin "BaseException.__getattribute__"))) (gg : PySem.W.findIn K (.ref C) "__getattr__" = some none) (nb : PySem.W.findIn K (.ref C) fld = some none)
    (a1 : PySem.W.findIn K (.ref C) "__init__" = some (some (.ref fI))) (t1 : PySem.W.typeIn K (.ref fI) = some (.type "function")) (kC : PySem.W.keepIn K (.ref C) = true) (eC : PySem.W.subIn K (.ref C) (.type "BaseException") = some true) (vC : PySem.W.subIn K (.ref C) (.type "ValueError") = some true)
    (tC : PySem.W.typeIn K (.ref C) = some (.type "type")) (hC : PySem.W.hasDictIn K C = true) (sC : PySem.W.mroIn K C (.ref C) = some true) (te : PySem.W.exmOne K (.ref C) (.ref C) = some true) (ns : PySem.W.nsIn K mainGlobals "super" = some none) (np : PySem.W.nsIn K cStatics "thirdparty.any" = some none)
    (top : (P.main.scope.names.lookup ("super" : Str)).isSome = false) (lI : K.lookup fI = some ⟨oc, od, .func (SupX.fnS nm fld msg p cc cda doc pm an ct), osl⟩) (ci : PySem.W.codeIn K (.ref cda) (nm ++ ".__init__") = true)
    (lc : K.lookup cc = some ⟨l1, d1, .cell (some (.ref C)), s1⟩) (ld : K.lookup cda = some ⟨l2, d2, .fields vs, s2⟩) (v2 : vs[2]? = some (.str file tf)) (fe : ((P.main.file : Str) == file) = true) : SupX.SupTxt P K mg nm fld msg p C fI :=
  { ok := ok, gC := PySem.W.mg_of X G aC, cls := ⟨n2, q, N, bs, bm, sn, sub, ab, col, dd, k0, k1, k2, k3, k5, xL, rf, al⟩, sa := sa, ga := ga, gg := gg, noN := nb, iC := a1, tC := t1, kC := kC, exC := eC, veC := vC, tyC := tC, hdC := hC, selfC := sC, te := te, nsup := ns, npar := np, top := top,
    fn := ⟨oc, od, doc, pm, an, ct, osl, cc, cda, l1, l2, d1, d2, s1, s2, vs, file, tf, lI, ci, lc, ld, v2, fe⟩ }
abbrev plN : SupX.Pl := ⟨⟨6, 17, 6, 21⟩, ⟨6, 23, 6, 28⟩, ⟨7, 8, 7, 13⟩, ⟨7, 8, 7, 15⟩, ⟨7, 8, 7, 24⟩, ⟨7, 25, 7, 37⟩, ⟨7, 8, 7, 38⟩, ⟨7, 8, 7, 38⟩, ⟨8, 8, 8, 12⟩, ⟨8, 8, 8, 18⟩, ⟨8, 21, 8, 26⟩, ⟨8, 8, 8, 26⟩⟩
theorem okN : SupX.NameOk "BadName" "value" "not a name" plN :=
  { bind := fun _ _ _ _ _ _ _ _ => rfl, lS := rfl, lF := rfl, lC := rfl, lP := rfl, nd := by decide, ns := by decide, ev := fun _ => rfl }
abbrev plT : SupX.Pl := ⟨⟨11, 17, 11, 21⟩, ⟨11, 23, 11, 29⟩, ⟨12, 8, 12, 13⟩, ⟨12, 8, 12, 15⟩, ⟨12, 8, 12, 24⟩, ⟨12, 25, 12, 43⟩, ⟨12, 8, 12, 44⟩, ⟨12, 8, 12, 44⟩, ⟨13, 8, 13, 12⟩, ⟨13, 8, 13, 19⟩, ⟨13, 22, 13, 28⟩, ⟨13, 8, 13, 28⟩⟩
theorem okT : SupX.NameOk "BadText" "number" "not a right text" plT :=
  { bind := fun _ _ _ _ _ _ _ _ => rfl, lS := rfl, lF := rfl, lC := rfl, lP := rfl, nd := by decide, ns := by decide, ev := fun _ => rfl }
/-- all that the head tells -/
structure Told (P : Program) (K : PySem.W.Frag) (mg : Str → Option Value) (CN fN CT fT cS cH : Addr) : Prop where
  bn : SupX.SupTxt P K mg "BadName" "value" "not a name" plN CN fN
  bt : SupX.SupTxt P K mg "BadText" "number" "not a right text" plT CT fT
  mNT : PySem.W.exmOne K (.ref CN) (.ref CT) = some false
  q_kinds : ∃ a, mg "KINDS" = some (.ref a) ∧ ∀ H, SqT K H a (kinds.map V.str)
  q_frameW : ∃ a, mg "FRAME_WORDS" = some (.ref a) ∧ ∀ H, SqT K H a (frameW.map V.str)
  q_oneW : ∃ a, mg "ONE_WORDS" = some (.ref a) ∧ ∀ H, SqT K H a (oneW.map V.str)
  q_twoW : ∃ a, mg "TWO_WORDS" = some (.ref a) ∧ ∀ H, SqT K H a (twoW.map V.str)
  q_numW : ∃ a, mg "NUMBER_WORDS" = some (.ref a) ∧ ∀ H, SqT K H a (numW.map V.str)
  marks : ∃ t, mg "MARKS" = some (.str (tx marks) t)
  mText : ∃ t, mg "MOST_TEXT" = some (.int 5000 t)
  mDig : ∃ t, mg "MOST_DIGITS" = some (.int 100 t)
  mLet : ∃ t, mg "MOST_LETTERS" = some (.int 16 t)
  n_len : mg "len" = none
  n_all : mg "all" = none
  n_isinstance : mg "isinstance" = none
  n_str : mg "str" = none
  n_tuple : mg "tuple" = none
  n_sorted : mg "sorted" = none
  n_set : mg "set" = none
  n_int : mg "int" = none
  n_range : mg "range" = none
  n_repr : mg "repr" = none
  n_min : mg "min" = none
  f_is_letter : FA K mg "is_letter" sIsLetter
  f_is_digit : FA K mg "is_digit" sIsDigit
  f_is_kept : FA K mg "is_kept" sIsKept
  f_is_name : FA K mg "is_name" sIsName
  f_need_name : FA K mg "need_name" sNeedName
  f_kept_words : FA K mg "kept_words" sKeptW
  f_is_right_run : FA K mg "is_right_run" sIsRightRun
  f_sign_at : FA K mg "sign_at" sSignAt
  f_signs_in : FA K mg "signs_in" sSignsIn
  f_need_string : FA K mg "need_string" sNeedString
  f_signs_of : FA K mg "signs_of" sSignsOf
  f__law_begun : FA K mg "_law_begun" sBegun
  f__law_draw : FA K mg "_law_draw" sDraw
  f__law_of : FA K mg "_law_of" sOf
  f__law_like : FA K mg "_law_like" sLike
  f__law_told : FA K mg "_law_told" sTold
  f__law_sign : FA K mg "_law_sign" sSign
  f__law_row_of : FA K mg "_law_row_of" sRowOf
  f__law_spoiled_right : FC K mg "_law_spoiled_right" sSpoil cS
  f__law_by_hand : FC K mg "_law_by_hand" sHand cH
  f_law : FA K mg "law" sLaw
theorem all_law {l : PySem.W.OpenLaw} {w : World} {K : PySem.W.Frag} {mg : Str → Option Value} {fa CN fN CT fT cS cH pS pH : Addr} {h : Heap} (D : Told l.prog K mg CN fN CT fT cS cH) (X : K.In h) (hfa : mg "law" = some (.ref fa)) (neP : pS ≠ pH)
    (hS : PySem.W.codeHdIn K cS pS = true) (hH : PySem.W.codeHdIn K cH pH = true) (nS : K.lookup pS = none) (nH : K.lookup pH = none) (tS : h.get? pS = some { cls := .none, data := .fields #[] }) (tH : h.get? pH = some { cls := .none, data := .fields #[] }) :
    LawG l w K 9 63 "script" mg fa h := by
  have T : Txt l.prog K mg CN fN CT fT := ⟨D.bn, D.bt, D.q_kinds, D.q_frameW, D.q_oneW, D.q_twoW, D.q_numW, D.marks, D.mText, D.mDig, D.mLet, D.n_len, D.n_all, D.n_isinstance, D.n_str, D.n_tuple, D.n_sorted, D.n_set⟩
  obtain ⟨f0, d0, m0, F0⟩ := D.f_is_letter.ex
  have b0 := F0.binds (ps := ["sign"]) fun _ _ _ _ _ _ us hl => match us, hl with | [_], _ => rfl
  obtain ⟨f1, d1, m1, F1⟩ := D.f_is_digit.ex
  have b1 := F1.binds (ps := ["sign"]) fun _ _ _ _ _ _ us hl => match us, hl with | [_], _ => rfl
  obtain ⟨f2, d2, m2, F2⟩ := D.f_is_kept.ex
  have b2 := F2.binds (ps := ["word"]) fun _ _ _ _ _ _ us hl => match us, hl with | [_], _ => rfl
  obtain ⟨f3, d3, m3, F3⟩ := D.f_is_name.ex
  have b3 := F3.binds (ps := ["value"]) fun _ _ _ _ _ _ us hl => match us, hl with | [_], _ => rfl
  obtain ⟨f4, d4, m4, F4⟩ := D.f_need_name.ex
  have b4 := F4.binds (ps := ["name"]) fun _ _ _ _ _ _ us hl => match us, hl with | [_], _ => rfl
  obtain ⟨f5, d5, m5, F5⟩ := D.f_kept_words.ex
  have b5 := F5.binds (ps := []) fun _ _ _ _ _ _ us hl => match us, hl with | [], _ => rfl
  obtain ⟨f6, d6, m6, F6⟩ := D.f_is_right_run.ex
  have b6 := F6.binds (ps := ["word"]) fun _ _ _ _ _ _ us hl => match us, hl with | [_], _ => rfl
  obtain ⟨f7, d7, m7, F7⟩ := D.f_sign_at.ex
  have b7 := F7.binds (ps := ["string", "spot"]) fun _ _ _ _ _ _ us hl => match us, hl with | [_, _], _ => rfl
  obtain ⟨f8, d8, m8, F8⟩ := D.f_signs_in.ex
  have b8 := F8.binds (ps := ["string"]) fun _ _ _ _ _ _ us hl => match us, hl with | [_], _ => rfl
  obtain ⟨f9, d9, m9, F9⟩ := D.f_need_string.ex
  have b9 := F9.binds (ps := ["string"]) fun _ _ _ _ _ _ us hl => match us, hl with | [_], _ => rfl
  obtain ⟨f10, d10, m10, F10⟩ := D.f_signs_of.ex
  have b10 := F10.binds (ps := ["string"]) fun _ _ _ _ _ _ us hl => match us, hl with | [_], _ => rfl
  obtain ⟨f11, d11, m11, F11⟩ := D.f__law_begun.ex
  have b11 := F11.binds (ps := ["script", "turn"]) fun _ _ _ _ _ _ us hl => match us, hl with | [_, _], _ => rfl
  obtain ⟨f12, d12, m12, F12⟩ := D.f__law_draw.ex
  have b12 := F12.binds (ps := ["m", "span"]) fun _ _ _ _ _ _ us hl => match us, hl with | [_, _], _ => rfl
  obtain ⟨f13, d13, m13, F13⟩ := D.f__law_of.ex
  have b13 := F13.binds (ps := ["m", "some"]) fun _ _ _ _ _ _ us hl => match us, hl with | [_, _], _ => rfl
  obtain ⟨f14, d14, m14, F14⟩ := D.f__law_like.ex
  have b14 := F14.binds (ps := ["told", "due"]) fun _ _ _ _ _ _ us hl => match us, hl with | [_, _], _ => rfl
  obtain ⟨f15, d15, m15, F15⟩ := D.f__law_told.ex
  have b15 := F15.binds (ps := ["call"]) fun _ _ _ _ _ _ us hl => match us, hl with | [_], _ => rfl
  obtain ⟨f16, d16, m16, F16⟩ := D.f__law_sign.ex
  have b16 := F16.binds (ps := ["m"]) fun _ _ _ _ _ _ us hl => match us, hl with | [_], _ => rfl
  obtain ⟨f17, d17, m17, F17⟩ := D.f__law_row_of.ex
  have b17 := F17.binds (ps := ["m", "many"]) fun _ _ _ _ _ _ us hl => match us, hl with | [_, _], _ => rfl
  obtain ⟨f18, d18, m18, F18, C18⟩ := D.f__law_spoiled_right.ex
  have b18 := F18.binds (ps := ["m", "text", "found"]) fun _ _ _ _ _ _ us hl => match us, hl with | [_, _, _], _ => rfl
  obtain ⟨f19, d19, m19, F19, C19⟩ := D.f__law_by_hand.ex
  have b19 := F19.binds (ps := []) fun _ _ _ _ _ _ us hl => match us, hl with | [], _ => rfl
  obtain ⟨f20, d20, m20, F20⟩ := D.f_law.ex
  have b20 := F20.binds (ps := ["script"]) fun _ _ _ _ _ _ us hl => match us, hl with | [_], _ => rfl
  have ef : f20 = fa := by
    have := m20.symm.trans hfa
    cases this
    rfl
  subst ef
  let Tb : List (Addr × Str) := [(pS, qS), (pH, qH)]
  have uS : ∀ p ∈ Tb, p.1 = pS → p.2 = qS := fun p hp e => by
    rcases List.mem_cons.mp hp with rfl | hp
    · rfl
    · rw [List.mem_singleton.mp hp] at e
      exact absurd e (Ne.symm neP)
  have uH : ∀ p ∈ Tb, p.1 = pH → p.2 = qH := fun p hp e => by
    rcases List.mem_cons.mp hp with rfl | hp
    · exact absurd e neP
    · rw [List.mem_singleton.mp hp]
  refine ⟨d20, [(cS, pS), (cH, pH)], spLaw K Tb, ⟨fun p hp => ?_, fun p hp => ?_, fun p hp => ?_⟩, fun s u => ?_, fun H a ns hl ht hs => ?_, fun base hK hG hT => ?_⟩
  · rcases List.mem_cons.mp hp with rfl | hp
    · exact tS
    · rw [List.mem_singleton.mp hp]; exact tH
  · rcases List.mem_cons.mp hp with rfl | hp
    · exact nS
    · rw [List.mem_singleton.mp hp]; exact nH
  · rcases List.mem_cons.mp hp with rfl | hp
    · exact PySem.W.codeHd_of_K X hS
    · rw [List.mem_singleton.mp hp]; exact PySem.W.codeHd_of_K X hH
  · obtain ⟨oc, od, kV, doc, pm, an, cdv, ct, osl, e, _⟩ := F20.ex
    subst e
    exact .of_eq rfl
  · refine ⟨a, ns, rfl, hs, hl, fun p hp => ?_, fun _ => rfl⟩
    rcases List.mem_cons.mp hp with rfl | hp
    · exact TabS.nil (ht (cS, pS) List.mem_cons_self)
    · rw [List.mem_singleton.mp hp]; exact TabS.nil (ht (cH, pH) (List.mem_cons_of_mem _ List.mem_cons_self))
  · have TS := hT (cS, pS) List.mem_cons_self
    have TH := hT (cH, pH) (List.mem_cons_of_mem _ List.mem_cons_self)
    have c0 : L2.Cl l.prog w K mg base CX0 1 "is_letter" ["sign"] spIsLetter := ⟨f0, d0, ok_isLetter F0, m0, F0.kp, b0⟩
    have c1 : L2.Cl l.prog w K mg base CX0 1 "is_digit" ["sign"] spIsDigit := ⟨f1, d1, ok_isDigit F1, m1, F1.kp, b1⟩
    have c2 : L2.Cl l.prog w K mg base CX0 1 "is_kept" ["word"] spIsKept := ⟨f2, d2, ok_isKept T F2, m2, F2.kp, b2⟩
    have c3 : L2.Cl l.prog w K mg base CX0 2 "is_name" ["value"] (spIsName K) := ⟨f3, d3, ok_isName T c0 c2 F3, m3, F3.kp, b3⟩
    have c4 : L2.Cl l.prog w K mg base (L2.CX l.prog w) 3 "need_name" ["name"] (spNeedName K CN) := ⟨f4, d4, ok_needName T c3 F4, m4, F4.kp, b4⟩
    have c5 : L2.Cl l.prog w K mg base CX0 1 "kept_words" [] spKeptW := ⟨f5, d5, ok_keptW T F5, m5, F5.kp, b5⟩
    have c6 : L2.Cl l.prog w K mg base CX0 2 "is_right_run" ["word"] spIsRightRun := ⟨f6, d6, ok_isRightRun T c1 F6, m6, F6.kp, b6⟩
    have c7 : L2.Cl l.prog w K mg base CX0 3 "sign_at" ["string", "spot"] spSignAt := ⟨f7, d7, ok_signAt T c0 c1 c6 F7, m7, F7.kp, b7⟩
    have c8 : L2.Cl l.prog w K mg base CX0 4 "signs_in" ["string"] spSignsIn := ⟨f8, d8, ok_signsIn T c7 F8, m8, F8.kp, b8⟩
    have c9 : L2.Cl l.prog w K mg base (L2.CX l.prog w) 3 "need_string" ["string"] (spNeedString K CT) := ⟨f9, d9, ok_needString T F9, m9, F9.kp, b9⟩
    have c10 : L2.Cl l.prog w K mg base (L2.CX l.prog w) 5 "signs_of" ["string"] (spSignsOf K CT) := ⟨f10, d10, ok_signsOf T c8 c9 F10, m10, F10.kp, b10⟩
    have c11 : L2.Cl l.prog w K mg base CX0 1 "_law_begun" ["script", "turn"] (spBegun K) := ⟨f11, d11, ok_begun D.n_len D.n_int F11, m11, F11.kp, b11⟩
    have c12 : L2.Cl l.prog w K mg base CX0 1 "_law_draw" ["m", "span"] spDraw := ⟨f12, d12, ok_draw D.n_len D.n_int F12, m12, F12.kp, b12⟩
    have c13 : L2.Cl l.prog w K mg base CX0 2 "_law_of" ["m", "some"] (spOf K) := ⟨f13, d13, ok_of D.n_len c12 F13, m13, F13.kp, b13⟩
    have c14 : ClG l.prog w K mg base CX0 1 "_law_like" ["told", "due"] (spLike K) := ⟨f14, d14, ok_like D.n_repr F14, m14, F14.kp, b14⟩
    have c16 : L2.Cl l.prog w K mg base CX0 3 "_law_sign" ["m"] spSign := ⟨f16, d16, ok_sign D.n_str c12 c13 F16, m16, F16.kp, b16⟩
    have c17 : L2.Cl l.prog w K mg base CX0 4 "_law_row_of" ["m", "many"] spRowOf := ⟨f17, d17, ok_rowOf D.n_len D.n_range c12 c16 F17, m17, F17.kp, b17⟩
    have c18 : ClG l.prog w K mg base CX0 8 "_law_spoiled_right" ["m", "text", "found"] (spSpoil Tb) := ⟨f18, d18, ok_spoil T D.mNT F15 m15 c12 c13 c14 c10 TS C18 List.mem_cons_self uS F18, m18, F18.kp, b18⟩
    have c19 : ClG l.prog w K mg base CX0 8 "_law_by_hand" [] (fun vs H Q _ => vs = [] ∧ Tabs Tb H ∧ ∀ H', ExtN H H' → Tabs Tb H' → Q (.bl true) H') := ⟨f19, d19, ok_hand T D.mNT F15 m15 D.n_range c14 c10 c3 c4 c5 TH C19 (List.mem_cons_of_mem _ List.mem_cons_self) uH F19, m19, F19.kp, b19⟩
    exact ok_law T D.n_range D.n_min c11 c13 c17 c14 c10 c18 c19 F20
end K8
open PySem PySem.W PyProof.Rows
set_option Elab.async false
set_option maxRecDepth 100000 in
set_option maxHeartbeats 0 in
theorem PySem.Challenge.cw_freebook_k08_way_of_signs_holds : PySem.Challenge.rw_freebook_k08_way_of_signs.Holds := by
  w_on; o_law; k_head; (case hw => w_witness2)
  k_fill
  refine L2.walk_g (k := 9) (x := "script") (n := 63) rfl (by decide) rfl ⟨rfl, by decide, by decide⟩ (fun w h Y => PySem.W.km_in_of Y) ?F
  case F =>
    intro w mg fa h Y KX G hmg
    have hT8 := PySem.W.km_tabs_of Y
    clear Y
    have g0 := by
      refine' K8.fa_mk (x := "is_letter") (st := K8.sIsLetter) KX G ?a ?l ?c ?k
      (case a => k_is); (case l => k_is); (case c => k_is); (case k => k_is)
    have g1 := by
      refine' K8.fa_mk (x := "is_digit") (st := K8.sIsDigit) KX G ?a ?l ?c ?k
      (case a => k_is); (case l => k_is); (case c => k_is); (case k => k_is)
    have g2 := by
      refine' K8.fa_mk (x := "is_kept") (st := K8.sIsKept) KX G ?a ?l ?c ?k
      (case a => k_is); (case l => k_is); (case c => k_is); (case k => k_is)
    have g3 := by
      refine' K8.fa_mk (x := "is_name") (st := K8.sIsName) KX G ?a ?l ?c ?k
      (case a => k_is); (case l => k_is); (case c => k_is); (case k => k_is)
    have g4 := by
      refine' K8.fa_mk (x := "need_name") (st := K8.sNeedName) KX G ?a ?l ?c ?k
      (case a => k_is); (case l => k_is); (case c => k_is); (case k => k_is)
    have g5 := by
      refine' K8.fa_mk (x := "kept_words") (st := K8.sKeptW) KX G ?a ?l ?c ?k
      (case a => k_is); (case l => k_is); (case c => k_is); (case k => k_is)
    have g6 := by
      refine' K8.fa_mk (x := "is_right_run") (st := K8.sIsRightRun) KX G ?a ?l ?c ?k
      (case a => k_is); (case l => k_is); (case c => k_is); (case k => k_is)
    have g7 := by
      refine' K8.fa_mk (x := "sign_at") (st := K8.sSignAt) KX G ?a ?l ?c ?k
      (case a => k_is); (case l => k_is); (case c => k_is); (case k => k_is)
    have g8 := by
      refine' K8.fa_mk (x := "signs_in") (st := K8.sSignsIn) KX G ?a ?l ?c ?k
      (case a => k_is); (case l => k_is); (case c => k_is); (case k => k_is)
    have g9 := by
      refine' K8.fa_mk (x := "need_string") (st := K8.sNeedString) KX G ?a ?l ?c ?k
      (case a => k_is); (case l => k_is); (case c => k_is); (case k => k_is)
    have g10 := by
      refine' K8.fa_mk (x := "signs_of") (st := K8.sSignsOf) KX G ?a ?l ?c ?k
      (case a => k_is); (case l => k_is); (case c => k_is); (case k => k_is)
    have g11 := by
      refine' K8.fa_mk (x := "_law_begun") (st := K8.sBegun) KX G ?a ?l ?c ?k
      (case a => k_is); (case l => k_is); (case c => k_is); (case k => k_is)
    have g12 := by
      refine' K8.fa_mk (x := "_law_draw") (st := K8.sDraw) KX G ?a ?l ?c ?k
      (case a => k_is); (case l => k_is); (case c => k_is); (case k => k_is)
    have g13 := by
      refine' K8.fa_mk (x := "_law_of") (st := K8.sOf) KX G ?a ?l ?c ?k
      (case a => k_is); (case l => k_is); (case c => k_is); (case k => k_is)
    have g14 := by
      refine' K8.fa_mk (x := "_law_like") (st := K8.sLike) KX G ?a ?l ?c ?k
      (case a => k_is); (case l => k_is); (case c => k_is); (case k => k_is)
    have g15 := by
      refine' K8.fa_mk (x := "_law_told") (st := K8.sTold) KX G ?a ?l ?c ?k
      (case a => k_is); (case l => k_is); (case c => k_is); (case k => k_is)
    have g16 := by
      refine' K8.fa_mk (x := "_law_sign") (st := K8.sSign) KX G ?a ?l ?c ?k
      (case a => k_is); (case l => k_is); (case c => k_is); (case k => k_is)
    have g17 := by
      refine' K8.fa_mk (x := "_law_row_of") (st := K8.sRowOf) KX G ?a ?l ?c ?k
      (case a => k_is); (case l => k_is); (case c => k_is); (case k => k_is)
    have g18 := by
      refine' K8.fc_mk (x := "_law_spoiled_right") (st := K8.sSpoil) KX G ?a ?l ?c ?k
      (case a => k_is); (case l => k_is); (case c => k_is); (case k => k_is)
    have g19 := by
      refine' K8.fc_mk (x := "_law_by_hand") (st := K8.sHand) KX G ?a ?l ?c ?k
      (case a => k_is); (case l => k_is); (case c => k_is); (case k => k_is)
    have g20 := by
      refine' K8.fa_mk (x := "law") (st := K8.sLaw) KX G ?a ?l ?c ?k
      (case a => k_is); (case l => k_is); (case c => k_is); (case k => k_is)
    have q_kinds := by
      refine' K8.sq_mk (x := "KINDS") (xs := K8.kinds) KX G ?e ?l ?t ?z
      (case e => k_is); (case l => k_is); (case t => decide +kernel); (case z => decide +kernel)
    have q_frameW := by
      refine' K8.sq_mk (x := "FRAME_WORDS") (xs := K8.frameW) KX G ?e ?l ?t ?z
      (case e => k_is); (case l => k_is); (case t => decide +kernel); (case z => decide +kernel)
    have q_oneW := by
      refine' K8.sq_mk (x := "ONE_WORDS") (xs := K8.oneW) KX G ?e ?l ?t ?z
      (case e => k_is); (case l => k_is); (case t => decide +kernel); (case z => decide +kernel)
    have q_twoW := by
      refine' K8.sq_mk (x := "TWO_WORDS") (xs := K8.twoW) KX G ?e ?l ?t ?z
      (case e => k_is); (case l => k_is); (case t => decide +kernel); (case z => decide +kernel)
    have q_numW := by
      refine' K8.sq_mk (x := "NUMBER_WORDS") (xs := K8.numW) KX G ?e ?l ?t ?z
      (case e => k_is); (case l => k_is); (case t => decide +kernel); (case z => decide +kernel)
    have sN := by
      refine' K8.sup_mk (P := PySem.Challenge.rw_freebook_k08_way_of_signs.prog) (p := K8.plN) KX G K8.okN ?aC ?xL ?rf ?al ?sa ?ga ?gg ?nb ?a1 ?t1 ?kC ?eC ?vC ?tC ?hC ?sC ?te ?ns ?np ?top ?lI ?ci ?lc ?ld ?v2 ?fe
      (case aC => k_is); (case xL => k_is); (case rf => decide +kernel); (case al => first | rfl | kernel_rfl); (case sa => k_is); (case ga => k_is); (case gg => k_is); (case nb => k_is); (case a1 => k_is); (case t1 => k_is); (case kC => k_is)
      (case eC => k_is); (case vC => k_is); (case tC => k_is); (case hC => k_is); (case sC => k_is); (case te => first | rfl | kernel_rfl); (case ns => k_is); (case np => k_is); (case top => rfl); (case lI => k_is); (case ci => k_is); (case lc => k_is); (case ld => k_is); (case v2 => rfl); (case fe => first | rfl | decide +kernel)
    have sT := by
      refine' K8.sup_mk (P := PySem.Challenge.rw_freebook_k08_way_of_signs.prog) (p := K8.plT) KX G K8.okT ?aC ?xL ?rf ?al ?sa ?ga ?gg ?nb ?a1 ?t1 ?kC ?eC ?vC ?tC ?hC ?sC ?te ?ns ?np ?top ?lI ?ci ?lc ?ld ?v2 ?fe
      (case aC => k_is); (case xL => k_is); (case rf => decide +kernel); (case al => first | rfl | kernel_rfl); (case sa => k_is); (case ga => k_is); (case gg => k_is); (case nb => k_is); (case a1 => k_is); (case t1 => k_is); (case kC => k_is)
      (case eC => k_is); (case vC => k_is); (case tC => k_is); (case hC => k_is); (case sC => k_is); (case te => first | rfl | kernel_rfl); (case ns => k_is); (case np => k_is); (case top => rfl); (case lI => k_is); (case ci => k_is); (case lc => k_is); (case ld => k_is); (case v2 => rfl); (case fe => first | rfl | decide +kernel)
    have v_MARKS := by
      refine' K8.vs_mk (x := "MARKS") (l := K8.marks) KX G ?e ?vq
      (case e => k_is); (case vq => rfl)
    have v_MOST_TEXT := by
      refine' K8.vi_mk (x := "MOST_TEXT") (j := 5000) KX G ?e ?vq
      (case e => k_is); (case vq => rfl)
    have v_MOST_DIGITS := by
      refine' K8.vi_mk (x := "MOST_DIGITS") (j := 100) KX G ?e ?vq
      (case e => k_is); (case vq => rfl)
    have v_MOST_LETTERS := by
      refine' K8.vi_mk (x := "MOST_LETTERS") (j := 16) KX G ?e ?vq
      (case e => k_is); (case vq => rfl)
    have n_len : mg "len" = none := by
      refine' PySem.W.mg_none_of KX G ?e
      (case e => k_is)
    have n_all : mg "all" = none := by
      refine' PySem.W.mg_none_of KX G ?e
      (case e => k_is)
    have n_isinstance : mg "isinstance" = none := by
      refine' PySem.W.mg_none_of KX G ?e
      (case e => k_is)
    have n_str : mg "str" = none := by
      refine' PySem.W.mg_none_of KX G ?e
      (case e => k_is)
    have n_tuple : mg "tuple" = none := by
      refine' PySem.W.mg_none_of KX G ?e
      (case e => k_is)
    have n_sorted : mg "sorted" = none := by
      refine' PySem.W.mg_none_of KX G ?e
      (case e => k_is)
    have n_set : mg "set" = none := by
      refine' PySem.W.mg_none_of KX G ?e
      (case e => k_is)
    have n_int : mg "int" = none := by
      refine' PySem.W.mg_none_of KX G ?e
      (case e => k_is)
    have n_range : mg "range" = none := by
      refine' PySem.W.mg_none_of KX G ?e
      (case e => k_is)
    have n_repr : mg "repr" = none := by
      refine' PySem.W.mg_none_of KX G ?e
      (case e => k_is)
    have n_min : mg "min" = none := by
      refine' PySem.W.mg_none_of KX G ?e
      (case e => k_is)
    have D := K8.Told.mk sN sT (by first | rfl | kernel_rfl) q_kinds q_frameW q_oneW q_twoW q_numW v_MARKS v_MOST_TEXT v_MOST_DIGITS v_MOST_LETTERS n_len n_all n_isinstance n_str n_tuple n_sorted n_set n_int n_range n_repr n_min g0 g1 g2 g3 g4 g5 g6 g7 g8 g9 g10 g11 g12 g13 g14 g15 g16 g17 g18 g19 g20
    first
      | exact K8.all_law (pS := 198) (pH := 205) D KX hmg (by decide) (by kernel_rfl) (by kernel_rfl) (by kernel_rfl) (by kernel_rfl) (hT8 198 (by decide)) (hT8 205 (by decide))
      | exact K8.all_law (pS := 205) (pH := 198) D KX hmg (by decide) (by kernel_rfl) (by kernel_rfl) (by kernel_rfl) (by kernel_rfl) (hT8 205 (by decide)) (hT8 198 (by decide))
