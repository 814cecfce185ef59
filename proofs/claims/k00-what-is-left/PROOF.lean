import PyProof.Rows.All
import Wide.All
import OpenK.AllK
import Wide.FinOn
import KE.KExcSuper
import HandS.Base
import HandS.Call
import HandS.Exc
import HandS.ForExc
import HandS.ExcField
import PySem.Challenge.RW_heldshares_k00_whole_what_is_left_of_any
import HandS.ForMost
import HandS.Wide
import HandS.IsInst
import HandS.Walk
import HandS.Zip
import HandS.TupAny
import HandS.TupMul
import HandS.Style
import HandS.Defaults
import HandS.Lambda
import HandS.EndTab
import PyProof.NeKinds
import PyProof.EqAt
set_option Elab.async false
set_option linter.all false
set_option maxRecDepth 100000
set_option maxHeartbeats 4400000
namespace PySem
namespace ErrX
open PySem.W PySem.Calls PyProof.Rows PySem.HandSPX
/-! ### an own error: __init__(self, at): super().__init__(at); self.at = at -/
def iArgs (p1 p2 : Pos) : Arguments := { posonlyargs := [], args := [{ arg := "self", annotation := none, pos := p1 }, { arg := "at", annotation := none, pos := p2 }], vararg := none, kwonlyargs := [], kw_defaults := [], kwarg := none, defaults := [] }
def iBody (a b c d e f g h i j : Pos) : List Stmt :=
  [.Expr (.Call (.Attribute (.Call (.Name "super" a) [] [] b) "__init__" c) [.Name "at" d] [] e) f,
   .Assign [.Attribute (.Name "self" g) "at" h] (.Name "at" i) j]
def iScope : Scope := { kind := .function, names := [(Str.ofString "self", .local), (Str.ofString "at", .local), (Str.ofString "__class__", .free), (Str.ofString "super", .globalImplicit)], isGenerator := false, isCoroutine := false, more := [] }
/-- what the written part says of the error class at C, whose __init__ stands at fI -/
structure ErrTxt (prog : Program) (K : Frag) (C fI : Addr) (qn : Str) : Prop where
  cls : ∃ nm q N bs bm sn sub ab col dd k0 k1 k2 k3 k5, K.lookup C = some (excClassObj nm q C N bs bm true sn sub ab col dd k0 k1 k2 k3 k5 "ValueError.__new__") ∧ refsVE bm = true
  fn : ∃ (oc : Value) (od : Option Addr) (kV doc pm : Value) (an : Option Addr) (cda cc : Addr) (ct : Value) (osl : Array (Option Value)) (p1 p2 a b c d e f g h i j : Pos) (ccl : Value) (cdd : Option Addr) (vs : Array Value) (ccs : Array (Option Value)) (file : Str) (tf : Tok) (cl : Value) (cld : Option Addr) (csl : Array (Option Value)),
    K.lookup fI = some ⟨oc, od, .func (ksFn "__init__" qn (iArgs p1 p2) (iBody a b c d e f g h i j) iScope .none kV doc pm an (.ref cda) ct cc), osl⟩ ∧ codeIn K (.ref cda) qn = true ∧
    K.lookup cda = some ⟨ccl, cdd, .fields vs, ccs⟩ ∧ vs[2]? = some (.str file tf) ∧ ((prog.main.file : Str) == file) = true ∧ K.lookup cc = some ⟨cl, cld, .cell (some (.ref C)), csl⟩ ∧
    ∃ pl : Sem Bool, ∀ env : Env, eval (.Call (.Attribute (.Call (.Name "super" a) [] [] b) "__init__" c) [.Name "at" d] [] e) env = (do
      let ov ← attributeBase (.Call (.Name "super" a) [] [] b) "__init__" env (eval (.Call (.Name "super" a) [] [] b) env)
      standAt c.atName
      let (fu, first) ← holding [ov] (getMethod ov "__init__" pl)
      callWith e fu first (backTo e (starEach [.Name "at" d] env)) [])
  sa : findIn K (.ref C) "__setattr__" = some (some (.builtin "object.__setattr__"))
  noA : findIn K (.ref C) "at" = some none
  iC : findIn K (.ref C) "__init__" = some (some (.ref fI))
  tI : typeIn K (.ref fI) = some (.type "function")
  sub : mroIn K C (.ref C) = some true
  sup : ks_superIn K C C "__init__" = some (some (.builtin "ValueError.__init__"))
  sVE : subIn K (.ref C) (.type "ValueError") = some true
  opq : nsIn K cStatics "thirdparty.any" = some none
  htop : (prog.main.scope.names.lookup (Str.ofString "super")).isSome = false
  exC : subIn K (.ref C) (.type "BaseException") = some true
  tyC : typeIn K (.ref C) = some (.type "type")
  kC : keepIn K (.ref C) = true
theorem one_fits (v : Value) : [v].length ≤ sizeLine := by
  rw [sizeLine_eq]
  exact (by decide : 1 ≤ 16777216)
theorem ns_but {h h' : Heap} {L x : Addr} {m : Str → Option Value} (hn : h.Ns L m) (hL : L ≠ x) (k : ∀ b o, b ≠ x → h.get? b = some o → h'.get? b = some o) : h'.Ns L m := by
  obtain ⟨o, es, ep, e, r⟩ := hn
  exact ⟨o, es, ep, k _ _ hL e, r⟩
section
variable {prog : Program} {w : World} {A : Around} {E : Value → Shared → Prop} {R : Result → Shared → Prop} {K : Frag} {mg : Str → Option Value} {C fI : Addr} {qn : Str}
/-- super().__init__(v), the wrapper called: the args are laid anew -/
theorem call_wrap {h : Heap} {g : Array GenState} {d : Drawn} {t : Nat} {os : OsState} {u x t0 : Addr} {rest : List Value} {Q : Value → Shared → Prop} (T : ErrTxt prog K C fI qn) (X : K.In h)
    (he : h.get? x = some (excO C t0)) (hu : h.get? u = some (kxs_mw "ValueError.__init__" x)) (hz : rest.length ≤ sizeLine)
    (hq : ∀ h' t1, (∀ b o, b ≠ x → h.get? b = some o → h'.get? b = some o) → h'.get? x = some (excO C t1) → Q .none ⟨h', g, d, t, os⟩) :
    wpAny (model prog w) A (PySem.call (.ref u) rest) Q E { heap := h, gens := g, drawn := d, toks := t, os := os } := by
  obtain ⟨nm, q, N, bs, bm, sn, sub, ab, col, dd, k0, k1, k2, k3, k5, hC, hbm⟩ := T.cls
  have wrapped : (Value.type "method-wrapper" == Value.type "method" || Value.type "method-wrapper" == Value.type "builtin_function_or_method" || Value.type "method-wrapper" == Value.type "method-wrapper") = true := by decide
  apply wpAny_call
  apply codeAny_of_tree
  show wpAny _ A.in1 (callAny (Value.ref u) { pos := rest, kw := [] }) _ _ _
  unfold callAny
  apply wpAny_bind
  apply wpAny_load hu
  simp only [kxs_mw, wrapped, if_true]
  apply KFB.if_so (by decide)
  refine wpAny_bind (check_bound_init F.excBase_ValueError.toExcCallFacts (X _ _ hC) he rfl ?_)
  refine (wpAny_bind <| wpAny_pure <| wpAny_pure ?_)
  refine ⟨plainId_quiet F.excBase_ValueError.init.plain _, codeAny_builtin F.excBase_ValueError.initEntry ?_⟩
  rw [Around.under_plainId F.excBase_ValueError.init.plain _]
  wp_walk
  apply hq _ h.objs.size
  · intro b o hb ho
    exact (Heap.get?_update_other _ _ hb.symm).trans (Heap.get?_push_of_some _ ho)
  · exact (Heap.get?_update_self _ (Heap.get?_push_of_some _ he) rfl).trans rfl
/-- what __init__ leaves of a fresh error at x -/
structure InitEnd (h h' : Heap) (x C dx : Addr) (v : Value) : Prop where
  keep : ∀ b o, b ≠ x → h.get? b = some o → h'.get? b = some o
  obj : ∃ t1 : Addr, h'.get? x = some { cls := .ref C, dict := some dx, data := .fields #[.ref t1, .none, .none, .none, .bool false, .none] }
  dbig : h.objs.size ≤ dx
  dne : dx ≠ x
  ns : h'.Ns1 dx (fun y => if y = "at" then some v else none)
theorem ldN {M : Model} {s : Shared} {env : Env} {m : Str → Option Value} {x : Str} {pos : Pos} {v : Value} {Q : Value → Shared → Prop} (hn : s.heap.Ns env.locals m) (hv : m x = some v) (h : Q v s)
    (hk : env.scope.kind = .function := by rfl) (hl : env.kindOf x = some .local := by rfl) (hd : (x == ("__debug__" : Str)) = false := by decide) : wpAny M A (eval (.Name x pos) env) Q E s :=
  wpAny_Name (wpAny_loadName_local hk hl hn hv h) hd
theorem err_init {s : Shared} (T : ErrTxt prog K C fI qn) (hms : mg "super" = none) {x t0 : Addr} {v : Value} (X : K.In s.heap) (hg : s.heap.Ns mainGlobals mg) (hb : ∃ mb, s.heap.Ns builtinsNs mb ∧ ∀ y : Str, y ≠ "__name__" → mb y = bootBuiltins y) (hlim : s.heap.NoLimit)
    (hx : s.heap.get? x = some (excO C t0)) (hnx : K.lookup x = none) (hroom : A.depth < recursionLimit)
    (hq : ∀ h' tk dx, InitEnd s.heap h' x C dx v → R (.ok (.ret .none)) { s with heap := h', toks := tk }) :
    codeAny (model prog w) A (.call (.ref fI) ⟨[.ref x, v], []⟩) R s := by
  obtain ⟨oc, od, kV, doc, pm, an, cda, cc, ct, osl, p1, p2, a, b, c, d, e, f, g, h, i, j, ccl, cdd, vs, ccs, file, tf, cl, cld, csl, ho, hcd, hco, hvs, hfile, hcell, pl, hev⟩ := T.fn
  obtain ⟨nm, q, N, bs, bm, sn, sub, ab, col, dd, k0, k1, k2, k3, k5, hC, hbm⟩ := T.cls
  have hcl : clsIn K C = some { name := nm, bases := bs, mro := .ref C :: bm, ns := N, qualname := q, hasDict := true, slotNames := sn, subclasses := sub, abstract := ab, collection := col, hasDel := false } := by unfold clsIn; rw [hC] <;> rfl
  have hsup := T.sup
  unfold ks_superIn at hsup
  rw [hcl] at hsup
  refine ks_codeAny_call_defAt (fd := ksFn "__init__" qn (iArgs p1 p2) (iBody a b c d e f g h i j) iScope .none kV doc pm an (.ref cda) ct cc) (body := iBody a b c d e f g h i j) (binds := [("self", .ref x), ("at", v)]) hroom (X _ _ ho) rfl hlim (codeRec_of X hcd) rfl (BindsTo.of_eq (by first | rfl | with_unfolding_all rfl)) (show ∀ y ∈ iScope.names, y.2 ≠ NameKind.cell by decide) (locs rfl) (fun h₁ hn k => ?_) rfl rfl rfl
  have hxL : s.heap.objs.size ≠ x := Nat.ne_of_gt (Heap.lt_size hx)
  have X₁ : K.In h₁ := X.keeps k
  have hx₁ := k _ _ hx
  have hDo := X₁ _ _ hC
  have no : ∀ cdx, (excO C t0).data ≠ .cls cdx := fun _ z => by cases z
  have hlk : Looks (model prog w) h₁ (isSubtype (.ref C) (.ref C)) true := looks_mroIn X₁ T.sub
  refine ks_wpAt_execs_cons (ks_wpAt_Expr_any (ks_wpAt_MethodCall (pl := pl) ?_ (hev _)))
  refine ks_wpAt_super_base rfl rfl (by decide) rfl (X₁ _ _ ho) rfl rfl rfl (X₁ _ _ hco) rfl hvs hfile T.htop ?_
  obtain ⟨mb, hb1, hb2⟩ := hb
  have hbs : mb "super" = some (.type "super") := (hb2 _ (by decide +kernel)).trans (by first | boot_by_name | rfl | kernel_rfl)
  refine ks_loadName_global rfl rfl (loadGlobal_builtin (hg.keeps k) hms (hb1.keeps k) hbs ⟨rfl, ?_⟩)
  refine wpAny_loadName_free rfl rfl rfl ⟨_, X₁ _ _ hcell, rfl⟩ ?_
  refine wpAny_loadName_local rfl rfl hn (v := .ref x) (by first | rfl | with_unfolding_all rfl | kernel_rfl) ?_
  refine ks_wpAny_isType_cls hDo rfl ⟨rfl, ?_⟩
  refine ks_wpAny_call_super hDo rfl hx₁ rfl no hlk (fun h₂ e₂ k₂ => ?_)
  have X₂ : K.In h₂ := X₁.keeps k₂
  have hx₂ := k₂ _ _ hx₁
  have I₂ : InstAt h₂ x (excO C t0) C none := ⟨hx₂, rfl, rfl, trivial⟩
  refine kxs_getMethod kxs_ValueError e₂ (looks_opaque X₂ T.opq) (l₀ := .ref C :: bm) ?_ rfl X₂ hsup (I₂.type.andThen (looks_subIn X₂ T.sVE)) (ks_ne X₂ I₂ hcl) (by decide) ?_
  · exact fun A Q E s k q => wpAny_bind ((looks_clsIn X₂ hcl) A _ E s k (wpAny_pure q))
  have k₃ : ∀ y o, h₂.get? y = some o → (h₂.push (kxs_mw "ValueError.__init__" x)).get? y = some o := fun y o e => Heap.get?_push_of_some _ e
  have hn₃ := (hn.keeps k₂).keeps k₃
  refine kxs_callWith (i := "ValueError.__init__") (x := x) rfl (evalArgs_plain ?_)
  refine Calls.spliced_cons (ldN hn₃ (v := v) (by first | rfl | with_unfolding_all rfl | kernel_rfl) (Calls.spliced_nil ⟨Heap.get?_push_at rfl rfl, ?_⟩))
  refine call_wrap T (X₂.keeps k₃) (k₃ _ _ hx₂) (Heap.get?_push_at rfl rfl) (one_fits v) fun h₄ t1 k₄ hx₄ => ?_
  refine ks_wpAt_execs_cons (ks_wpAt_Assign_Attr ?_)
  have hn₄ := ns_but hn₃ hxL k₄
  have X₄ : K.In h₄ := fun b o e => k₄ b o (fun z => by rw [z, hnx] at e; cases e) (X₂.keeps k₃ b o e)
  refine wpAt_of_wpAny (ldN hn₄ (v := v) (by first | rfl | with_unfolding_all rfl | kernel_rfl) (ldN hn₄ (v := .ref x) (by first | rfl | with_unfolding_all rfl | kernel_rfl) ?_))
  refine set_plain X₄ (ox := excO C t1) (od := none) ⟨hx₄, rfl, rfl, trivial⟩ T.sa ?_
  refine exc_osa X₄ hx₄ hcl (show refsVE (.ref C :: bm) = true from hbm) rfl T.noA (fun h₅ tk₅ dx k₅ dn dne hx₅ hn₅ => ?_)
  refine wpAt_of_wpAny (wpAny_execs_nil (hq h₅ tk₅ dx ⟨fun b o hb e => k₅ b o hb (k₄ b o hb (k₃ b o (k₂ b o (k b o e)))), ⟨t1, hx₅⟩, ?_, dne, hn₅⟩))
  obtain ⟨oL, _, _, hoL, _⟩ := hn₄
  exact Nat.le_of_lt (Nat.lt_of_lt_of_le (Heap.lt_size hoL) dn)
end
end ErrX
end PySem
set_option Elab.async false
set_option linter.all false
set_option maxRecDepth 100000
set_option maxHeartbeats 4400000
namespace PySem
namespace ErrX
open PySem.W PySem.Calls PyProof.Rows PySem.HandSPX
/-- a made error -/
structure ErrMade (h h' : Heap) (e C d : Addr) (v : Value) : Prop where
  keep : ∀ b o, h.get? b = some o → h'.get? b = some o
  new : h.objs.size ≤ e
  obj : ∃ oe vs, h'.get? e = some oe ∧ oe.cls = .ref C ∧ oe.dict = some d ∧ oe.data = .fields vs ∧ vs[1]? = some .none
  dbig : h.objs.size ≤ d
  dne : d ≠ e
  ns : h'.Ns1 d (fun y => if y = "at" then some v else none)
section
variable {prog : Program} {w : World} {A : Around} {R : Result → Shared → Prop} {K : Frag} {mg : Str → Option Value} {C fI : Addr} {qn : Str} {s : Shared}
theorem err_made (T : ErrTxt prog K C fI qn) (hms : mg "super" = none) {v : Value} (X : K.In s.heap) (hg : s.heap.Ns mainGlobals mg) (hb : ∃ mb, s.heap.Ns builtinsNs mb ∧ ∀ y : Str, y ≠ "__name__" → mb y = bootBuiltins y) (hlim : s.heap.NoLimit) (hroom : A.depth + 1 < recursionLimit)
    (hq : ∀ h' tk e d, ErrMade s.heap h' e C d v → R (.ok (.ret (.ref e))) { s with heap := h', toks := tk }) :
    codeAny (model prog w) A (.call (.ref C) ⟨[v], []⟩) R s := by
  obtain ⟨nm, q, N, bs, bm, sn, sub, ab, col, dd, k0, k1, k2, k3, k5, hC, hbm⟩ := T.cls
  obtain ⟨hp, g, dr, tk, os⟩ := s
  have k : ∀ b o, hp.get? b = some o → ((hp.push (kdv_tup [v])).push (excO C hp.objs.size)).get? b = some o := fun b o e => Heap.get?_push_of_some _ (Heap.get?_push_of_some _ e)
  have hget : ((hp.push (kdv_tup [v])).push (excO C hp.objs.size)).get? (hp.objs.size + 1) = some (excO C hp.objs.size) := by heap_get
  have hnx : K.lookup (hp.objs.size + 1) = none := by
    cases e : K.lookup (hp.objs.size + 1) with
    | none => rfl
    | some o =>
      have z : hp.get? (hp.objs.size + 1) = some o := X _ _ e
      exact absurd (Nat.lt_of_succ_lt (Heap.lt_size z)) (Nat.lt_irrefl _)
  obtain ⟨mb, hb1, hb2⟩ := hb
  refine call_own F.excBase_ValueError (fun X => refsVE_contains X bm hbm) (X _ _ hC) (looks_findIn X T.iC) (fun self => bind_fn X self T.tI) (one_fits v) ?_
  refine err_init (s := ⟨(hp.push (kdv_tup [v])).push (excO C hp.objs.size), g, dr, tk, os⟩) (mg := mg) T hms (X.keeps k) (hg.keeps k) ⟨mb, hb1.keeps k, hb2⟩ (hlim.keeps k) hget hnx ?_ fun h' tk' dx ⟨k', ⟨t1, hx⟩, dn, dne, hns⟩ => ?_
  · show A.depth + 1 < recursionLimit
    exact hroom
  · have old : ∀ b o, hp.get? b = some o → h'.get? b = some o := fun b o e => k' b o (Nat.ne_of_lt (Nat.lt_succ_of_lt (Heap.lt_size e))) (k b o e)
    have z : hp.objs.size + 1 + 1 ≤ dx := by
      first
        | (simpa only [Heap.size_push] using dn)
        | exact dn
        | (have q := dn; rw [Heap.size_push, Heap.size_push] at q; exact q)
    exact ⟨rfl, hq h' tk' (hp.objs.size + 1) dx ⟨old, Nat.le_succ _, ⟨_, _, hx, rfl, rfl, rfl, rfl⟩, Nat.le_trans (Nat.le_trans (Nat.le_succ _) (Nat.le_succ _)) z, dne, hns⟩⟩
end
end ErrX
end PySem
namespace L2
open PySem PySem.Spec PyProof.Rows
theorem relO_at {v : V} {v' : Value} (r : RelV v v') (f : Str) : RelO (List.lookup f [(("at" : Str), v)]) (if f = "at" then some v' else none) := by
  by_cases hw : f = "at"
  · subst hw
    rw [if_pos rfl]
    have q : List.lookup ("at" : Str) [(("at" : Str), v)] = some v := by simp [List.lookup]
    rw [q]
    exact r
  · rw [if_neg hw]
    have qw : (f == ("at" : Str)) = false := by simpa using hw
    have q2 : List.lookup f [(("at" : Str), v)] = none := by simp [List.lookup, qw]
    rw [q2]
    trivial
section
variable {X : Cx} {C fI : Addr} {qn : Str}
/-- an error that has its number: what stands at its dict -/
abbrev atO (v : V) : HO := .xd [(("at" : Str), v)]
/-- C(e) -/
def tMkErr (C : Addr) (ta : TA) : St → Hp → XK → Prop := fun σ H Q => ta σ H fun vs H1 => ∃ v, vs = [v] ∧ ∀ d, H1 d = none → Q (.ref C) (some d) (upd H1 d (atO v))
theorem pmk_err {a : Expr} {ta : TA} {n : Str} {p pos : Pos} {k : Nat} (T : PySem.ErrX.ErrTxt X.prog X.K C fI qn) (gC : X.mg n = some (.ref C)) (hms : X.mg "super" = none) (hr : Room k X.A) (ha : PA X [a] ta) (hg : Gl X n := by rfl)
    (hdb : (n == ("__debug__" : Str)) = false := by decide) (he : starEach (a :: []) X.env = (false, eval a X.env) :: starEach [] X.env := by rfl) (hpl : (backTo pos (starEach [] X.env)).any (·.1) = false := by rfl) :
    PMk X (.Call (.Name n p) [a] [] pos) (tMkErr C ta) := by
  intro pins s σ H Q I h
  apply wpAny_Call_Name_kw
  refine ld_glob (x := n) I hg gC ?_ hdb
  refine PySem.W.callWith_K (h₀ := X.base) I.ok.mod.kin T.kC (thn (ha.run pos pins s σ H _ I h) fun us s1 hh => ?_) he hpl
  obtain ⟨vs, H1, I1, r1, v, ev, q1⟩ := hh
  subst ev
  refine ⟨I1.kIn, ?_⟩
  cases r1 with
  | cons rv rn =>
    rename_i v' us'
    cases rn
    show wpAny _ _ (call (.ref C) [v']) _ _ _
    have hlim := I1.nolimit
    have hgl := I1.mod.glob.keeps I1.bk
    obtain ⟨mb, hb1, hb2⟩ := I1.mod.blt
    have hb1 := hb1.keeps I1.bk
    obtain ⟨hp, g, dr, tk, os⟩ := s1
    refine wpAny_call (PySem.ErrX.err_made T hms I1.kIn hgl ⟨mb, hb1, hb2⟩ hlim (by have := hr.dp; omega) fun h' tk' e d M => ?_)
    show MkP X pins σ Q (.ref e) ⟨h', g, dr, tk', os⟩
    obtain ⟨oe, fv, hoe, hc, hd, hdat, h1⟩ := M.obj
    have hns := M.ns
    obtain ⟨G', g1, g2⟩ := restrict h' fun b => decide (b ≠ e)
    have gk : ∀ b, b ≠ e → G'.get? b = h'.get? b := fun b hb => g1 b (decide_eq_true hb)
    have ge : G'.get? e = none := g2 e (by simp)
    have old : ∀ b o, hp.get? b = some o → G'.get? b = some o := fun b o q => (gk b (Nat.ne_of_lt (Nat.lt_of_lt_of_le (Heap.lt_size q) M.new))).trans (M.keep b o q)
    have ob : ObjOk X.prog X.w (upd H1 d (atO v)) G' d (atO v) :=
      ⟨_, hns.at (fun o q => (gk d M.dne).trans q), fun f => relO_at rv f⟩
    have J : Inv X pins σ (upd H1 d (atO v)) ⟨G', g, dr, tk', os⟩ := I1.laid (t' := tk') old M.dbig ob
    refine ⟨e, oe, fv, ⟨G', g, dr, tk', os⟩, _, .ref C, some d, rfl, J, fun b o q => ?_, ge, hoe, ⟨hc, hd⟩, hdat, h1, ?_, rfl, I1.bare, raises_own T.exC T.tyC, q1 d (I1.hok.fresh M.dbig)⟩
    · by_cases hb : b = e
      · have q' : G'.get? b = some o := q
        rw [hb, ge] at q'; cases q'
      · exact (gk b hb).symm.trans q
    · rw [upd_ne (Ne.symm M.dne)]
      exact I1.hok.fresh M.new
/-- raise C(e) -/
def tRaiseErr (C : Addr) (W : WX) (ta : TA) : TS := fun _ σ H => tMkErr C ta σ H fun cls d H' => W cls d σ H'
theorem ps_raiseErr {a : Expr} {ta : TA} {W : WX} {n : Str} {p pos pos2 : Pos} {k : Nat} (hc : X.calm = true) (T : PySem.ErrX.ErrTxt X.prog X.K C fI qn) (gC : X.mg n = some (.ref C)) (hms : X.mg "super" = none) (hr : Room k X.A) (tk : Takes X W) (ha : PA X [a] ta) (hg : Gl X n := by rfl)
    (hdb : (n == ("__debug__" : Str)) = false := by decide) (he : starEach (a :: []) X.env = (false, eval a X.env) :: starEach [] X.env := by rfl) (hpl : (backTo pos (starEach [] X.env)).any (·.1) = false := by rfl) :
    PS X (.Raise (some (.Call (.Name n p) [a] [] pos)) none pos2) (tRaiseErr C W ta) := ps_raise hc tk (pmk_err T gC hms hr ha hg hdb he hpl)
end
end L2
set_option Elab.async false
set_option linter.all false
set_option maxRecDepth 100000
set_option maxHeartbeats 4400000
namespace L2
open PySem PySem.Spec PyProof.Rows
/-- a clause: the class that it names, its name's slot, its suite's reading -/
abbrev ClauseR := Value × Nat × (Addr → Value → Option Addr → TS)
/-- what clauses with names wish of an exception of the body -/
def wClauses (K : PySem.W.Frag) (Wout : WX) (D : Ends) : List ClauseR → WX
  | [] => Wout
  | (c, i, ts) :: more => wAs K c i ts (wClauses K Wout D more) D
inductive Clauses (X : Cx) : List ExceptHandler → List ClauseR → Prop
  | done : Clauses X [] []
  | next {x n : Str} {c : Value} {i : Nat} {ts : Addr → Value → Option Addr → TS} {st : Stmt} {sts : List Stmt} {p q : Pos} {hs : List ExceptHandler} {cs : List ClauseR}
      (slot : X.N[i]? = some n) (loc : X.env.kindOf n = some .local) (cls : Names X x c)
      (suite : ∀ (a : Addr) (oe : Obj) (k : Value) (d : Option Addr) (pn : List (Addr × Obj)), Zc k d oe → (∃ vs, oe.data = .fields vs) → PSs (X.suite a ((a, oe) :: pn)) (st :: sts) (ts a k d))
      (more : Clauses X hs cs) : Clauses X (.ExceptHandler (some (.Name x p)) (some n) (st :: sts) q :: hs) ((c, i, ts) :: cs)
section
variable {X : Cx} {body : List Stmt} {h₀ : ExceptHandler} {hs : List ExceptHandler} {cs : List ClauseR} {pos : Pos} {tb : WX → TS} {Wout : WX}
theorem ps_try_clauses (stk : X.stack = X.env :: X.outer) (frm : X.env.frame = some X.env.locals) (nd : X.N.Nodup) (tk : Takes X Wout)
    (bod : ∀ (W : WX) (pn : List (Addr × Obj)) (xe : Value → Shared → Prop), Takes (X.tr pn xe) W → PassesOwn (model X.prog X.w) X.A X.env xe → PSs (X.tr pn xe) body (tb W))
    (cl : Clauses X (h₀ :: hs) cs) : PS X (.Try body (h₀ :: hs) [] [] pos) (fun D σ H => tb (wClauses X.K Wout D cs) D σ H) := by
  constructor
  intro pins s σ H D I h
  have ok := I.ok
  have fr : X.A.frames = some (X.env :: X.outer) := ok.frames.trans (congrArg some stk)
  refine wpAny_Try_except ?_
  have run := (bod (wClauses X.K Wout D cs) (X.pn ++ pins)
    (fun e t1 => wpAny (model X.prog X.w) X.A (noteFrame e X.env)
      (fun _ t2 => wpAny (model X.prog X.w) X.A (setFlight e none)
        (fun _ t3 => wpAny (model X.prog X.w) X.A (handleBy e X.env (h₀ :: hs)) (SP X pins D) X.xe t3) X.xe t2) X.xe t1) ?caught PassesOwn.looking).run [] s σ H D (I.toTry _) h
  case caught =>
    rintro u t ⟨a, B, sI, pq, τ, G, k, d, rfl, J0, keepB, up, sky, na, os, bare, wish⟩
    have J : Inv X pins τ G sI := J0.ofTry ok
    rw [show (X.tr (X.pn ++ pins) _).stack = X.env :: X.outer from stk] at sky
    refine Sky.land Zc.steady fr frm sky fun g3 fl up3 => ?_
    have J3 : Inv X pins τ G { t with heap := g3 } := J.landed keepB fl.1 (up.trans up3) os bare
    obtain ⟨o3, v3, at3, z3, d3⟩ := fl.there
    have away : ∀ b ∈ frs (X.env :: X.outer), b ≠ a := by
      intro b hb e
      obtain ⟨_, o', e', hnf⟩ := fl.2.2.1.mem hb
      rw [e, at3] at e'
      cases e'
      exact hnf _ d3
    have nL : a ≠ X.env.locals := fun z => away X.env.locals (List.mem_filterMap.mpr ⟨X.env, List.mem_cons_self, frm⟩) z.symm
    have nF : a ∉ X.fs := by
      intro hm
      have at_ := List.mem_filterMap.mp hm
      exact away a (List.mem_filterMap.mpr ⟨at_.choose, List.mem_cons_of_mem _ at_.choose_spec.1, at_.choose_spec.2⟩) rfl
    have S3 := J3.suite at3 d3 na nL nF
    have goOn : ∀ {hs' : List ExceptHandler} {cs' : List ClauseR}, Clauses X hs' cs' → wClauses X.K Wout D cs' k d τ G →
        wpAny (model X.prog X.w) X.A (handleBy (.ref a) X.env hs') (SP X pins D) X.xe { t with heap := g3 } := by
      intro hs' cs' c'
      induction c' with
      | done =>
        intro w0
        refine wpAny_handleBy_nil ?_
        have fl0 := fl
        obtain ⟨_, _, _, oe, vs, TB, _, _, heE, _, hdE, h1E, _⟩ := fl0
        unfold PySem.passOn
        apply wpAny_bind
        apply wpAny_field heE hdE h1E
        have nn : ¬ ((Value.ref TB == Value.none) = true) := by simp
        rw [if_neg nn]
        have out : wpAny (model X.prog X.w) X.A (setFlight (.ref a) X.env.frame) (fun _ s4 => wpAny (model X.prog X.w) X.A (throw (.ref a) : Sem Flow) (SP X pins D) X.xe s4) X.xe { t with heap := g3 } := by
          rw [frm]
          refine HandSPX.setFlight_upZ fl fun h4 hh4 up4 => wpAny_throw (tk _ _ ?_)
          exact ⟨a, B, sI, pins, τ, G, k, d, rfl, J, keepB, (up.trans up3).trans up4, .inr (.inr (by rw [stk]; exact hh4)), na, os, bare, w0⟩
        first
          | exact wpAny_bind (wpAny_pure (wpAny_bind out))
          | exact wpAny_bind out
      | @next x n c i ts st sts p q hs2 cs2 slot loc cls suite more ih =>
        intro w0
        obtain ⟨b, tells, yes, no⟩ := w0
        refine wpAny_handleBy_cons (codeAny_handlers_test ?_) (by intro z; cases z)
        have LT : PySem.W.Looks (model X.prog X.w) g3 (typeOf (.ref a)) k := fun A Q E s kk qq => wpAny_typeOf_ref (kk _ _ at3) (by rw [z3.1]; exact qq)
        have LM := PySem.W.exm_one (M := model X.prog X.w) J3.kIn LT tells
        have named : ∀ {Q E : Value → Shared → Prop}, Q c { t with heap := g3 } → wpAny (model X.prog X.w) (X.A.mark (some (.ref a))) (eval (.Name x p) X.env) Q E { t with heap := g3 } := by
          intro Q E hq
          obtain ⟨hg, hdb, hm | ⟨hm, hv, hnn⟩⟩ := cls
          · exact ld_glob (X := X.suite a ((a, o3) :: (X.pn ++ pins))) S3 hg hm hq hdb
          · exact ld_blt (X := X.suite a ((a, o3) :: (X.pn ++ pins))) S3 hg hm hv hq hnn hdb
        refine named (LM.here ?_)
        cases b with
        | false => exact ih (no rfl)
        | true =>
          refine codeAny_handlers_suite_as (HandSPX.lands_againZ fl fun g4 fl4 up4 => ?_)
          have J4 : Inv X pins τ G { t with heap := g4 } := J.landed keepB fl4.1 ((up.trans up3).trans up4) os bare
          obtain ⟨o4, v4, at4, z4, d4⟩ := fl4.there
          have S4 := J4.suite at4 d4 na nL nF
          have hl : Loc X.env.scope n := .inl loc
          refine store_ok (X := X.suite a ((a, o4) :: (X.pn ++ pins))) (v := .ref a) S4 nd slot hl rfl (fun s5 S5 => ?_) (.inr loc)
          have fin : ∀ {τ6 : St} {G6 : Hp} {s6 : Shared} {Q : Shared → Prop}, Inv (X.suite a ((a, o4) :: (X.pn ++ pins))) [] τ6 G6 s6 → (∀ s7, Inv X pins (τ6.set i none) G6 s7 → Q s7) →
              wpAny (model X.prog X.w) X.A (do bindName X.env n .none; unbindBehindTheSuite X.env n q) (fun _ s7 => Q s7) X.xe s6 :=
            fun S6 hq => gone_ok (S6.unsuite ok) nd slot loc hq
          refine wpAny_mono ((suite a o4 k d (X.pn ++ pins) z4 ⟨_, d4⟩).run [] s5 _ G _ S5 (yes rfl a na)) (fun f s6 hsp => ?_) fun _ _ z => False.elim z
          rcases f with _ | _ | _ | u
          all_goals first
            | (obtain ⟨τ6, G6, S6, q6⟩ := hsp; exact fin S6 fun s7 J7 => ⟨_, _, J7, q6⟩)
            | (obtain ⟨v6, τ6, G6, S6, r6, q6⟩ := hsp; exact fin S6 fun s7 J7 => ⟨_, _, _, J7, r6, q6⟩)
    exact goOn cl wish
  refine wpAny_mono run (fun f s1 hsp => ?_) fun e s1 he => he
  cases f with
  | ret u =>
    obtain ⟨v, τ, G, J, r, q⟩ := hsp
    exact ⟨v, τ, G, J.ofTry ok, r, q⟩
  | next =>
    obtain ⟨τ, G, J, q⟩ := hsp
    exact wpAny_execs_nil ⟨τ, G, J.ofTry ok, q⟩
  | brk =>
    obtain ⟨τ, G, J, q⟩ := hsp
    exact ⟨τ, G, J.ofTry ok, q⟩
  | cont =>
    obtain ⟨τ, G, J, q⟩ := hsp
    exact ⟨τ, G, J.ofTry ok, q⟩
end
end L2
set_option Elab.async false
set_option maxHeartbeats 4400000
namespace K0
/-! ### Euclid, as the texts do it -/
/-- Euclid's steps on numbers from 0 on -/
def euc : Nat → Nat → Nat → Nat × Nat
  | 0, a, b => (a, b)
  | k + 1, a, b => if b = 0 then (a, b) else euc k b (a % b)
theorem euc_zero (k a : Nat) : euc k a 0 = (a, 0) := by cases k <;> simp [euc]
theorem euc_gcd : ∀ (k a b : Nat), Nat.gcd (euc k a b).1 (euc k a b).2 = Nat.gcd a b
  | 0, a, b => rfl
  | k + 1, a, b => by
    unfold euc
    split
    · rfl
    · rw [euc_gcd k b (a % b), Nat.gcd_comm b (a % b), ← Nat.gcd_rec, Nat.gcd_comm]
def fibp : Nat → Nat × Nat
  | 0 => (0, 1)
  | k + 1 => ((fibp k).2, (fibp k).1 + (fibp k).2)
/-- Lame: where k steps are not enough, the numbers are great -/
theorem euc_lame : ∀ (k a b : Nat), b < a → (euc k a b).2 ≠ 0 → (fibp (k + 1)).1 ≤ b ∧ (fibp (k + 1)).2 ≤ a
  | 0, a, b, h, n => by
    simp [euc] at n
    simp [fibp]; omega
  | k + 1, a, b, h, n => by
    unfold euc at n
    by_cases e : b = 0
    · rw [if_pos e] at n; exact absurd e n
    · rw [if_neg e] at n
      have hl : a % b < b := Nat.mod_lt _ (by omega)
      have ih := euc_lame k b (a % b) hl n
      have hd : b + a % b ≤ a := by
        have := Nat.div_add_mod a b
        have h1 : 1 ≤ a / b := (Nat.one_le_div_iff (by omega)).mpr (by omega)
        have h2 : b * 1 ≤ b * (a / b) := Nat.mul_le_mul_left b h1
        omega
      have e2 : fibp (k + 1 + 1) = ((fibp (k + 1)).2, (fibp (k + 1)).1 + (fibp (k + 1)).2) := rfl
      rw [e2]
      constructor
      · exact ih.2
      · show (fibp (k+1)).1 + (fibp (k+1)).2 ≤ a
        omega
theorem fib398 : 10 ^ 80 < (fibp 398).1 := by decide +kernel
/-- 399 steps are enough below ten to the eighty -/
theorem euc_ends {a b : Nat} (hb : b ≤ 10 ^ 80) : (euc 399 a b).2 = 0 := by
  have hz : ∀ (k : Nat) (x y : Nat), y < x → y ≤ 10 ^ 80 → 397 ≤ k → (euc k x y).2 = 0 := by
    intro k x y hlt hy hk
    by_cases e : (euc k x y).2 = 0
    · exact e
    · have l := (euc_lame k x y hlt e).1
      have mono : ∀ j, (fibp j).1 ≤ (fibp (j + 1)).1 ∧ (fibp j).2 ≤ (fibp (j + 1)).2 ∧ 1 ≤ (fibp j).2 := by
        intro j
        induction j with
        | zero => decide
        | succ j ih =>
          have e1 : fibp (j + 1) = ((fibp j).2, (fibp j).1 + (fibp j).2) := rfl
          have e2 : fibp (j + 1 + 1) = ((fibp (j + 1)).2, (fibp (j + 1)).1 + (fibp (j + 1)).2) := rfl
          rw [e2, e1]; simp only; rw [e1] at ih; simp only at ih; omega
      have mono2 : ∀ i j, i ≤ j → (fibp i).1 ≤ (fibp j).1 := by
        intro i j hij
        induction hij with
        | refl => exact Nat.le_refl _
        | step _ ih => exact Nat.le_trans ih (mono _).1
      have := mono2 398 (k + 1) (by omega)
      have := fib398
      omega
  show (euc (398 + 1) a b).2 = 0
  unfold euc
  by_cases e : b = 0
  · rw [if_pos e]; exact e
  · rw [if_neg e]
    exact hz 398 b (a % b) (Nat.mod_lt _ (by omega)) (Nat.le_trans (Nat.le_of_lt (Nat.mod_lt _ (by omega))) hb) (by omega)
theorem euc_is_gcd {k a b : Nat} (h : (euc k a b).2 = 0) : (euc k a b).1 = Nat.gcd a b := by
  have g := euc_gcd k a b
  rw [h, Nat.gcd_zero_right] at g
  exact g
end K0
set_option Elab.async false
set_option maxHeartbeats 4400000
namespace K0
/-! ### shares as fractions -/
abbrev gI (a b : Int) : Int := (Nat.gcd a.natAbs b.natAbs : Nat)
theorem lo_num {t b : Int} (hb : 0 < b) : t / gI t b = (Rat.divInt t b).num := by
  rw [Rat.num_divInt, Int.sign_eq_one_of_pos hb, Int.one_mul]
  show t / ((Nat.gcd t.natAbs b.natAbs : Nat) : Int) = t / ((Nat.gcd b.natAbs t.natAbs : Nat) : Int)
  rw [Nat.gcd_comm]
theorem lo_den {t b : Int} (hb : 0 < b) : b / gI t b = ((Rat.divInt t b).den : Int) := by
  rw [Rat.den_divInt, if_neg (by omega)]
  have e : ((b.natAbs : Nat) : Int) = b := by omega
  show b / ((Nat.gcd t.natAbs b.natAbs : Nat) : Int) = ((b.natAbs / Nat.gcd b.natAbs t.natAbs : Nat) : Int)
  rw [Int.natCast_ediv, e, Nat.gcd_comm]
theorem gI_pos {t b : Int} (hb : 0 < b) : 0 < gI t b := by
  have : 0 < Nat.gcd t.natAbs b.natAbs := Nat.gcd_pos_of_pos_right _ (by omega)
  show (0 : Int) < ((_ : Nat) : Int)
  omega
/-- a fraction whose denominator divides D -/
def Dv (D : Nat) (r : Rat) : Prop := ∃ n : Int, r = Rat.divInt n D
theorem Dv.add {D : Nat} (h0 : D ≠ 0) {r s : Rat} : Dv D r → Dv D s → Dv D (r + s) := by
  rintro ⟨n, rfl⟩ ⟨m, rfl⟩
  refine ⟨n + m, ?_⟩
  have hD : (D : Int) ≠ 0 := by omega
  rw [Rat.divInt_add_divInt _ _ hD hD, Rat.divInt_eq_divInt_iff (by exact Int.mul_ne_zero hD hD) hD]
  grind
theorem Dv.sub {D : Nat} (h0 : D ≠ 0) {r s : Rat} : Dv D r → Dv D s → Dv D (r - s) := by
  rintro ⟨n, rfl⟩ ⟨m, rfl⟩
  refine ⟨n - m, ?_⟩
  have hD : (D : Int) ≠ 0 := by omega
  rw [Rat.divInt_sub_divInt _ _ hD hD, Rat.divInt_eq_divInt_iff (by exact Int.mul_ne_zero hD hD) hD]
  grind
theorem Dv.zero {D : Nat} : Dv D 0 := ⟨0, by rw [Rat.zero_divInt]⟩
theorem Dv.den {D : Nat} (h0 : D ≠ 0) {r : Rat} : Dv D r → r.den ≤ D := by
  rintro ⟨n, rfl⟩
  rw [Rat.den_divInt, if_neg (by omega)]
  exact Nat.div_le_self _ _
theorem Dv.mul {D k : Nat} (hk : k ≠ 0) {r : Rat} : Dv D r → Dv (D * k) r := by
  rintro ⟨n, rfl⟩
  refine ⟨n * k, ?_⟩
  rw [Int.natCast_mul, Rat.divInt_mul_right (by omega)]
/-- what a list of shares comes to, one behind the other -/
def rsum : Rat → List Rat → Rat
  | a, [] => a
  | a, r :: l => rsum (a + r) l
theorem rsum_eq : ∀ (l : List Rat) (a : Rat), rsum a l = a + rsum 0 l
  | [], a => by simp [rsum, Rat.add_zero]
  | r :: l, a => by
    show rsum (a + r) l = a + rsum (0 + r) l
    rw [rsum_eq l (a + r), rsum_eq l (0 + r), Rat.zero_add, Rat.add_assoc]
theorem rsum_cons (r : Rat) (l : List Rat) : rsum 0 (r :: l) = r + rsum 0 l := by
  show rsum (0 + r) l = _
  rw [rsum_eq, Rat.zero_add]
theorem rsum_append : ∀ (l m : List Rat), rsum 0 (l ++ m) = rsum 0 l + rsum 0 m
  | [], m => by simp [rsum, Rat.zero_add]
  | r :: l, m => by
    rw [List.cons_append, rsum_cons, rsum_cons, rsum_append l m, Rat.add_assoc]
theorem rsum_perm {l m : List Rat} (p : l.Perm m) : rsum 0 l = rsum 0 m := by
  induction p with
  | nil => rfl
  | cons x _ ih => rw [rsum_cons, rsum_cons, ih]
  | swap x y l => rw [rsum_cons, rsum_cons, rsum_cons, rsum_cons, Rat.add_left_comm]
  | trans _ _ h1 h2 => rw [h1, h2]
/-- a share -/
def Sh (r : Rat) : Prop := 0 < r ∧ r ≤ 1
theorem Sh.num {r : Rat} (h : Sh r) : 0 < r.num ∧ r.num ≤ r.den := by
  have h1 := h.1
  have h2 := h.2
  rw [Rat.lt_iff] at h1
  rw [Rat.le_iff] at h2
  simp at h1 h2
  exact ⟨h1, h2⟩
theorem sh_of {r : Rat} (h1 : 0 < r.num) (h2 : r.num ≤ r.den) : Sh r := by
  constructor
  · rw [Rat.lt_iff]; simp; exact h1
  · rw [Rat.le_iff]; simp; exact h2
theorem rsum_nonneg : ∀ {l : List Rat}, (∀ r ∈ l, Sh r) → 0 ≤ rsum 0 l
  | [], _ => Rat.le_refl
  | r :: l, h => by
    rw [rsum_cons]
    exact Rat.add_nonneg (Rat.le_of_lt (h r (by simp)).1) (rsum_nonneg fun s hs => h s (by simp [hs]))
theorem rsum_le : ∀ {l : List Rat}, (∀ r ∈ l, Sh r) → rsum 0 l ≤ (l.length : Rat)
  | [], _ => Rat.le_refl
  | r :: l, h => by
    rw [rsum_cons]
    have h1 := (h r (by simp)).2
    have h2 : rsum 0 l ≤ (l.length : Rat) := rsum_le fun s hs => h s (List.mem_cons_of_mem _ hs)
    have e : ((r :: l).length : Rat) = (l.length : Rat) + 1 := by rw [List.length_cons, Rat.natCast_add]; rfl
    rw [e]
    grind
theorem rsum_Dv {D : Nat} (h0 : D ≠ 0) : ∀ {l : List Rat}, (∀ r ∈ l, Dv D r) → Dv D (rsum 0 l)
  | [], _ => Dv.zero
  | r :: l, h => by
    rw [rsum_cons]
    exact Dv.add h0 (h r (by simp)) (rsum_Dv h0 fun s hs => h s (by simp [hs]))
end K0
set_option Elab.async false
set_option linter.all false
set_option maxRecDepth 100000
set_option maxHeartbeats 4400000
namespace L2
open PySem PySem.Spec PyProof.Rows
/-- a def of the text, where its name finds it -/
def DefAt (K : PySem.W.Frag) (mg : Str → Option Value) (x : Str) (st : Stmt) (ps : List Str) : Prop := ∃ f fd, Fun K x x st f fd ∧ mg x = some (.ref f) ∧ Binds K fd ps []
/-- a def that is called by its name, and what it promises -/
def Callee (P : Program) (w : World) (K : PySem.W.Frag) (mg : Str → Option Value) (base : Heap) (CX : CXT) (k : Nat) (x : Str) (ps : List Str) (sp : Sp) : Prop :=
  ∃ f fd, FnOk P w K mg base CX k f fd ps sp ∧ mg x = some (.ref f) ∧ PySem.W.keepIn K (.ref f) = true ∧ Binds K fd ps [] ∧ ∃ (oc : Value) (od : Option Addr) (osl : Array (Option Value)), K.lookup f = some ⟨oc, od, .func fd, osl⟩
section
variable {P : Program} {w : World} {K : PySem.W.Frag} {mg : Str → Option Value} {base : Heap} {CX : CXT} {k : Nat} {x : Str} {st : Stmt} {ps : List Str} {sp : Sp}
theorem DefAt.ok (D : DefAt K mg x st ps) (h : ∀ f fd, Fun K x x st f fd → FnOk P w K mg base CX k f fd ps sp) : Callee P w K mg base CX k x ps sp := by
  obtain ⟨f, fd, F, g, b⟩ := D
  obtain ⟨oc, od, kV, doc, pm, an, cdv, ct, osl, e, lk, _⟩ := F.ex
  exact ⟨f, fd, h f fd F, g, F.kp, b, oc, od, osl, lk⟩
theorem Callee.imp {sp' : Sp} (C : Callee P w K mg base CX k x ps sp) (h : ∀ vs H Q E, sp' vs H Q E → sp vs H Q E) : Callee P w K mg base CX k x ps sp' := by
  obtain ⟨f, fd, F, g, kp, b⟩ := C
  exact ⟨f, fd, F.imp h, g, kp, b⟩
theorem Callee.at (C : Callee P w K mg base CX k x ps sp) (D : DefAt K mg x st ps) : ∃ f fd, FnOk P w K mg base CX k f fd ps sp ∧ mg x = some (.ref f) ∧ PySem.W.keepIn K (.ref f) = true ∧ Fun K x x st f fd := by
  obtain ⟨f, fd, F, g, kp, b, oc, od, osl, lk⟩ := C
  obtain ⟨f', fd', F', g', _⟩ := D
  rw [g] at g'
  cases g'
  have F2 := F'
  obtain ⟨oc', od', kV, doc, pm, an, cdv, ct, osl', e, lk', _⟩ := F'.ex
  rw [lk] at lk'
  cases lk'
  exact ⟨f, fd, F, g, kp, F2⟩
end
section
variable {X : Cx} {CX : CXT} {k k' : Nat} {x : Str} {ps : List Str} {sp : Sp} {p pos : Pos} {e : Expr} {es : List Expr} {t : TA} {E : XK}
theorem pe_fnX (C : Callee X.prog X.w X.K X.mg X.base CX k x ps sp) (hr : Room k' X.A) (hg : Gl X x) (hx : Passes CX X E) (ha : PA X (e :: es) t) (hk : k ≤ k' := by first | decide | exact Nat.le_refl _ | omega) (hdb : (x == ("__debug__" : Str)) = false := by decide)
    (he : starEach (e :: es) X.env = (false, eval e X.env) :: starEach es X.env := by rfl) (hpl : (backTo pos (starEach es X.env)).any (·.1) = false := by rfl) : PE X (.Call (.Name x p) (e :: es) [] pos) (tCall sp [] E t) := by
  obtain ⟨f, fd, F, g, kp, b, _⟩ := C
  exact pe_call F (hr.mono hk) hg g kp b .nil hx ha hdb he hpl
theorem pe_fn (C : Callee X.prog X.w X.K X.mg X.base CX0 k x ps sp) (hr : Room k' X.A) (hg : Gl X x) (ha : PA X (e :: es) t) (hk : k ≤ k' := by first | decide | exact Nat.le_refl _ | omega) (hdb : (x == ("__debug__" : Str)) = false := by decide)
    (he : starEach (e :: es) X.env = (false, eval e X.env) :: starEach es X.env := by rfl) (hpl : (backTo pos (starEach es X.env)).any (·.1) = false := by rfl) : PE X (.Call (.Name x p) (e :: es) [] pos) (tCall sp [] E0 t) :=
  pe_fnX C hr hg pass0 ha hk hdb he hpl
end
/-- f(k = v, ..), all by keywords in the parameters' order -/
def Kws (K : PySem.W.Frag) (x : Str) (st : Stmt) (ps : List Str) : Prop := ∀ f fd, Fun K x x st f fd → ∀ (s : Shared) (ws : List Value), ws.length = ps.length → BindsTo s fd ⟨[], ps.zip ws⟩ (ps.zip ws)
theorem pe_fnK {X : Cx} {CX : CXT} {k k' : Nat} {x : Str} {st : Stmt} {ps : List Str} {sp : Sp} {p pos : Pos} {kws : List Keyword} {tk : TA} {E : XK} (C : Callee X.prog X.w X.K X.mg X.base CX k x ps sp) (D : DefAt X.K X.mg x st ps) (hb : Kws X.K x st ps) (hr : Room k' X.A) (hg : Gl X x) (hx : Passes CX X E) (hkw : PK X kws tk) (hk : k ≤ k' := by first | decide | exact Nat.le_refl _ | omega)
    (hall : (backToKw pos (keywordEach kws X.env)).all (·.1.isSome) = true := by rfl) (hks : (backToKw pos (keywordEach kws X.env)).filterMap (·.1) = ps := by rfl) (hdb : (x == ("__debug__" : Str)) = false := by decide)
    (hpl : ((backTo pos (starEach [] X.env)).any (·.1) || (backToKw pos (keywordEach kws X.env)).any (·.1.isNone)) = false := by rfl) : PE X (.Call (.Name x p) [] kws pos) (tCall sp [] E tk) := by
  obtain ⟨f, fd, F, g, kp, Fu⟩ := C.at D
  refine ⟨fun pins s σ H Q I h => ?_⟩
  refine wpAny_Call_Name_kw (ld_glob I hg g ?_ hdb)
  refine PySem.W.callWith_KW0 (h₀ := X.base) I.ok.mod.kin kp hall (thn (hkw.run pos pins s σ H _ I h) fun ws s2 ⟨zs, H2, I2, rz, q2⟩ => ⟨I2.kIn, ?_⟩) hpl
  rw [hks]
  have q2 : sp zs H2 Q E := by have q := q2; simp only [List.append_nil] at q; exact q
  have hl := F.len _ _ _ _ q2
  have hn : KBn X.K fd ps 0 ps (fun _ ws => ws) (fun _ zs => zs) := ⟨fun s us ws _ l1 l2 => by
    obtain rfl := List.length_eq_zero_iff.mp l1
    exact hb f fd Fu s ws l2, fun _ r => r⟩
  exact run_fnN F (hr.mono hk) hn hx I2 .nil rz rfl hl q2
/-- all that was tracked is as it was, but at S -/
def But (S : List Addr) (H H' : Hp) : Prop := ∀ b o, H b = some o → b ∉ S → H' b = some o
theorem same_new {H : Hp} {p : Addr} {o : HO} (h : H p = none) : Same H (upd H p o) := fun b x e => by
  rw [upd_ne (ne_of_none e h)]
  exact e
theorem Same.seqT {K : PySem.W.Frag} {H H' : Hp} {a : Addr} {xs : List V} (e : Same H H') (h : SqT K H a xs) : SqT K H' a xs :=
  h.imp (fun q => q.imp (fun q => e _ _ q) fun ⟨ob, q⟩ => ⟨ob, e _ _ q⟩) id
theorem But.seqT {K : PySem.W.Frag} {S : List Addr} {H H' : Hp} {a : Addr} {xs : List V} (e : But S H H') (n : ∀ b ∈ S, ∀ xs, ∀ o : Obj, H b ≠ some (.tup xs) ∧ H b ≠ some (.frz o (.tup xs))) (h : SqT K H a xs) : SqT K H' a xs := by
  rcases h with (h | ⟨ob, h⟩) | h
  · exact .inl (.inl (e _ _ h fun z => (n a z xs ⟨.none, none, .plain, #[]⟩).1 h))
  · exact .inl (.inr ⟨ob, e _ _ h fun z => (n a z xs ob).2 h⟩)
  · exact .inr h
/-! ### readings in whole words -/
section
variable {X : Cx} {K : PySem.W.Frag} {i j k : Nat} {σ : L2.St} {H H' : Hp} {Q : VK} {Q1 : List V → Hp → Prop} {Qb : Bool → Hp → Prop} {D : Ends} {ta tb tc te to : TE} {tt tu : TT} {ts tr us : TS} {t : TA} {v x y : V} {b : Bool} {r r' : R2} {sp : Sp} {dvs : List V} {E : XK} {rl : List V → Hp → VK → Prop} {T : String} {rm : V → List V → Hp → VK → Prop}
theorem vq_var : tVar i σ H Q = ∃ v, σ[i]? = some (some v) ∧ Q v H := rfl
theorem vq_c : tC v σ H Q = Q v H := rfl
theorem vq_op : tOp r ta tb σ H Q = ta σ H fun x H1 => tb σ H1 fun y H2 => r x y H2 Q := rfl
theorem vq_un {r : V → Hp → VK → Prop} : tUn r ta σ H Q = ta σ H fun x H1 => r x H1 Q := rfl
theorem vq_I {C : Int → Int → Prop} {g : Int → Int → V} {i j : Int} : rI C g (.int i) (.int j) H Q = (C i j ∧ Q (g i j) H) := by
  unfold rI
  apply propext
  constructor
  · rintro ⟨a, b, e1, e2, h⟩
    cases e1; cases e2; exact h
  · intro h
    exact ⟨i, j, rfl, rfl, h⟩
theorem vq_I0 {g : Int → Int → V} {i j : Int} : rI0 g (.int i) (.int j) H Q = Q (g i j) H := by
  unfold rI0
  apply propext
  constructor
  · rintro ⟨a, b, e1, e2, h⟩
    cases e1; cases e2; exact h
  · intro h
    exact ⟨i, j, rfl, rfl, h⟩
theorem vq_U {g : Int → V} {i : Int} : rU g (.int i) H Q = Q (g i) H := by
  unfold rU
  apply propext
  constructor
  · rintro ⟨a, e1, h⟩
    cases e1; exact h
  · intro h
    exact ⟨i, rfl, h⟩
theorem vq_eqI {i j : Int} : rEq (.int i) (.int j) H Q = Q (.bl (decide (i = j))) H := by
  unfold rEq
  apply propext
  have e : decide (V.int i = V.int j) = decide (i = j) := by by_cases h : i = j <;> simp [h]
  rw [e]
  exact ⟨fun h => h.2, fun h => ⟨rfl, h⟩⟩
theorem vq_neI {i j : Int} : rNe (.int i) (.int j) H Q = Q (.bl (!decide (i = j))) H := by
  unfold rNe
  apply propext
  have e : decide (V.int i = V.int j) = decide (i = j) := by by_cases h : i = j <;> simp [h]
  rw [e]
  exact ⟨fun h => h.2, fun h => ⟨rfl, h⟩⟩
theorem vq_neB {a b : Bool} : rNe (.bl a) (.bl b) H Q = Q (.bl (!decide (a = b))) H := by
  unfold rNe
  apply propext
  have e : decide (V.bl a = V.bl b) = decide (a = b) := by by_cases h : a = b <;> simp [h]
  rw [e]
  exact ⟨fun h => h.2, fun h => ⟨rfl, h⟩⟩
theorem vq_nil : tNil σ H Q1 = Q1 [] H := rfl
theorem vq_cons : tCons ta t σ H Q1 = ta σ H fun x H1 => t σ H1 fun xs H2 => Q1 (x :: xs) H2 := rfl
theorem vq_call : tCall sp dvs E t σ H Q = t σ H fun vs H1 => sp (vs ++ dvs) H1 Q E := rfl
theorem vq_CB : tCB rl t σ H Q = t σ H fun vs H1 => rl vs H1 Q := rfl
theorem vq_bl {P : Bool → Prop} : (∃ c, V.bl b = V.bl c ∧ P c) = P b := by
  apply propext
  constructor
  · rintro ⟨c, e, h⟩
    cases e; exact h
  · intro h
    exact ⟨b, rfl, h⟩
theorem vq_B : tB te σ H Qb = te σ H fun x H1 => ∃ c, x = .bl c ∧ Qb c H1 := rfl
theorem vq_test : tTest te σ H Qb = te σ H fun x H1 => ∃ c, x = .bl c ∧ Qb c H1 := rfl
theorem vq_and : tAnd tt tu σ H Qb = tt σ H fun c H1 => if c = true then tu σ H1 Qb else Qb false H1 := rfl
theorem vq_or : tOr tt tu σ H Qb = tt σ H fun c H1 => if c = true then Qb true H1 else tu σ H1 Qb := rfl
theorem vq_not : tNot tt σ H Qb = tt σ H fun c H1 => Qb (!c) H1 := rfl
theorem vq_andV : tAndV ta tb σ H Q = ta σ H fun x H1 => ∃ c, x = .bl c ∧ if c = true then tb σ H1 Q else Q (.bl false) H1 := rfl
theorem vq_orV : tOrV ta tb σ H Q = ta σ H fun x H1 => ∃ c, x = .bl c ∧ if c = true then Q (.bl true) H1 else tb σ H1 Q := rfl
theorem vq_notV : tNotV ta σ H Q = ta σ H fun x H1 => ∃ c, x = .bl c ∧ Q (.bl (!c)) H1 := rfl
theorem vq_if : tIf tt ta tb σ H Q = tt σ H fun c H1 => if c = true then ta σ H1 Q else tb σ H1 Q := rfl
theorem vq_ifS : tIfS tt ts tr D σ H = tt σ H fun b H1 => if b = true then ts D σ H1 else tr D σ H1 := rfl
theorem vq_chain : tChain r r' ta tb tc σ H Q = ta σ H fun x H1 => tb σ H1 fun y H2 => r x y H2 fun z H3 => ∃ k, z = .bl k ∧ (if k = true then tc σ H3 fun w' H4 => r' y w' H4 Q else Q (.bl false) H3) := rfl
theorem vq_seq : tSeq ts tr D σ H = ts { D with nx := tr D } σ H := rfl
theorem vq_next : tNext D σ H = D.nx σ H := rfl
theorem vq_ret : tRet te D σ H = te σ H D.rt := rfl
theorem vq_retN : tRetN D σ H = D.rt .non H := rfl
theorem vq_drop : tDrop te D σ H = te σ H fun _ H1 => D.nx σ H1 := rfl
theorem vq_asg {g : TG} : tAsg te g D σ H = te σ H fun x H1 => g x σ H1 D.nx := rfl
theorem vq_par : tPar i j t D σ H = t σ H fun vs H1 => ∃ v w, vs = [v, w] ∧ D.nx ((σ.set i (some v)).set j (some w)) H1 := rfl
theorem vq_par2 {P : V → V → Prop} : (∃ v w, [x, y] = [v, w] ∧ P v w) = P x y := by
  apply propext
  constructor
  · rintro ⟨v, w, e, h⟩
    cases e; exact h
  · intro h
    exact ⟨x, y, rfl, h⟩
theorem vq_aug {ti : TIp} : tAug i te ti D σ H = ∃ x, σ[i]? = some (some x) ∧ te σ H fun y H1 => ti x y H1 fun z H2 => D.nx (σ.set i (some z)) H2 := rfl
theorem vq_some {P : V → Prop} : (∃ v, some (some x) = some (some v) ∧ P v) = P x := by
  apply propext
  constructor
  · rintro ⟨v, e, h⟩
    cases e; exact h
  · intro h
    exact ⟨x, rfl, h⟩
theorem vq_name {Qs : L2.St → Hp → Prop} : gName i x σ H Qs = Qs (σ.set i (some x)) H := rfl
theorem vq_gnil {Qs : L2.St → Hp → Prop} {xs : List V} : gNil xs σ H Qs = (xs = [] ∧ Qs σ H) := rfl
theorem vq_tup : tTup t σ H Q = t σ H fun xs H1 => xs.length ≤ sizeLine ∧ ∀ p, H1 p = none → Q (.ref p) (upd H1 p (.tup xs)) := rfl
theorem vq_lst : tLst t σ H Q = t σ H fun xs H1 => xs.length ≤ sizeLine ∧ ∀ p, H1 p = none → Q (.ref p) (upd H1 p (.lst xs)) := rfl
theorem vq_sz0 : ([] : List V).length ≤ sizeLine := Nat.zero_le _
theorem vq_sz1 {a : V} : [a].length ≤ sizeLine := by rw [sizeLine_eq]; exact (by decide : 1 ≤ 16777216)
theorem vq_sz2 {a b : V} : [a, b].length ≤ sizeLine := by rw [sizeLine_eq]; exact (by decide : 2 ≤ 16777216)
theorem vq_sz3 {a b c : V} : [a, b, c].length ≤ sizeLine := by rw [sizeLine_eq]; exact (by decide : 3 ≤ 16777216)
theorem vq_sz4 {a b c d : V} : [a, b, c, d].length ≤ sizeLine := by rw [sizeLine_eq]; exact (by decide : 4 ≤ 16777216)
theorem vq_tru {P : Prop} : (True ∧ P) = P := true_and P
theorem vq_BM : tBM K T rm to t σ H Q = to σ H fun x H1 => tyV K T x H1 ∧ t σ H1 fun xs H2 => rm x xs H2 Q := rfl
theorem vq_BM0 : tBM0 K T rm to σ H Q = to σ H fun x H1 => tyV K T x H1 ∧ rm x [] H1 Q := rfl
theorem vq_sl {r : V → Option Int → Option Int → Hp → VK → Prop} {tl th : TO} : tSl r te tl th σ H Q = te σ H fun x H1 => tl σ H1 fun l H2 => th σ H2 fun u H3 => r x l u H3 Q := rfl
theorem vq_ite_t {A B : Prop} : (if true = true then A else B) = A := if_pos rfl
theorem vq_ite_f {A B : Prop} : (if false = true then A else B) = B := if_neg Bool.false_ne_true
theorem vq_ite_d {p : Prop} [Decidable p] {A B : Prop} : (if decide p = true then A else B) = if p then A else B := by
  by_cases h : p <;> simp [h]
theorem vq_ite_n {p : Prop} [Decidable p] {A B : Prop} : (if (!decide p) = true then A else B) = if p then B else A := by
  by_cases h : p <;> simp [h]
theorem vq_i0 {a : Option V} {l : L2.St} : (a :: l)[0]? = some a := rfl
theorem vq_i1 {a b : Option V} {l : L2.St} : (a :: b :: l)[1]? = some b := rfl
theorem vq_is {a : Option V} {l : L2.St} {n : Nat} : (a :: l)[n + 1]? = l[n]? := rfl
theorem vq_s0 {a c : Option V} {l : L2.St} : (a :: l).set 0 c = c :: l := rfl
theorem vq_ss {a c : Option V} {l : L2.St} {n : Nat} : (a :: l).set (n + 1) c = a :: l.set n c := rfl
/-- starts -/
theorem vq_st1_1 {a0 : Str} {x0 : V} : L2.start [a0] [x0] = [some x0] := rfl
theorem vq_st1_2 {a0 a1 : Str} {x0 : V} : L2.start [a0, a1] [x0] = [some x0, none] := rfl
theorem vq_st1_3 {a0 a1 a2 : Str} {x0 : V} : L2.start [a0, a1, a2] [x0] = [some x0, none, none] := rfl
theorem vq_st1_4 {a0 a1 a2 a3 : Str} {x0 : V} : L2.start [a0, a1, a2, a3] [x0] = [some x0, none, none, none] := rfl
theorem vq_st1_5 {a0 a1 a2 a3 a4 : Str} {x0 : V} : L2.start [a0, a1, a2, a3, a4] [x0] = [some x0, none, none, none, none] := rfl
theorem vq_st1_6 {a0 a1 a2 a3 a4 a5 : Str} {x0 : V} : L2.start [a0, a1, a2, a3, a4, a5] [x0] = [some x0, none, none, none, none, none] := rfl
theorem vq_st1_7 {a0 a1 a2 a3 a4 a5 a6 : Str} {x0 : V} : L2.start [a0, a1, a2, a3, a4, a5, a6] [x0] = [some x0, none, none, none, none, none, none] := rfl
theorem vq_st1_8 {a0 a1 a2 a3 a4 a5 a6 a7 : Str} {x0 : V} : L2.start [a0, a1, a2, a3, a4, a5, a6, a7] [x0] = [some x0, none, none, none, none, none, none, none] := rfl
theorem vq_st1_9 {a0 a1 a2 a3 a4 a5 a6 a7 a8 : Str} {x0 : V} : L2.start [a0, a1, a2, a3, a4, a5, a6, a7, a8] [x0] = [some x0, none, none, none, none, none, none, none, none] := rfl
theorem vq_st1_10 {a0 a1 a2 a3 a4 a5 a6 a7 a8 a9 : Str} {x0 : V} : L2.start [a0, a1, a2, a3, a4, a5, a6, a7, a8, a9] [x0] = [some x0, none, none, none, none, none, none, none, none, none] := rfl
theorem vq_st1_11 {a0 a1 a2 a3 a4 a5 a6 a7 a8 a9 a10 : Str} {x0 : V} : L2.start [a0, a1, a2, a3, a4, a5, a6, a7, a8, a9, a10] [x0] = [some x0, none, none, none, none, none, none, none, none, none, none] := rfl
theorem vq_st1_12 {a0 a1 a2 a3 a4 a5 a6 a7 a8 a9 a10 a11 : Str} {x0 : V} : L2.start [a0, a1, a2, a3, a4, a5, a6, a7, a8, a9, a10, a11] [x0] = [some x0, none, none, none, none, none, none, none, none, none, none, none] := rfl
theorem vq_st1_13 {a0 a1 a2 a3 a4 a5 a6 a7 a8 a9 a10 a11 a12 : Str} {x0 : V} : L2.start [a0, a1, a2, a3, a4, a5, a6, a7, a8, a9, a10, a11, a12] [x0] = [some x0, none, none, none, none, none, none, none, none, none, none, none, none] := rfl
theorem vq_st1_14 {a0 a1 a2 a3 a4 a5 a6 a7 a8 a9 a10 a11 a12 a13 : Str} {x0 : V} : L2.start [a0, a1, a2, a3, a4, a5, a6, a7, a8, a9, a10, a11, a12, a13] [x0] = [some x0, none, none, none, none, none, none, none, none, none, none, none, none, none] := rfl
theorem vq_st1_15 {a0 a1 a2 a3 a4 a5 a6 a7 a8 a9 a10 a11 a12 a13 a14 : Str} {x0 : V} : L2.start [a0, a1, a2, a3, a4, a5, a6, a7, a8, a9, a10, a11, a12, a13, a14] [x0] = [some x0, none, none, none, none, none, none, none, none, none, none, none, none, none, none] := rfl
theorem vq_st1_16 {a0 a1 a2 a3 a4 a5 a6 a7 a8 a9 a10 a11 a12 a13 a14 a15 : Str} {x0 : V} : L2.start [a0, a1, a2, a3, a4, a5, a6, a7, a8, a9, a10, a11, a12, a13, a14, a15] [x0] = [some x0, none, none, none, none, none, none, none, none, none, none, none, none, none, none, none] := rfl
theorem vq_st1_17 {a0 a1 a2 a3 a4 a5 a6 a7 a8 a9 a10 a11 a12 a13 a14 a15 a16 : Str} {x0 : V} : L2.start [a0, a1, a2, a3, a4, a5, a6, a7, a8, a9, a10, a11, a12, a13, a14, a15, a16] [x0] = [some x0, none, none, none, none, none, none, none, none, none, none, none, none, none, none, none, none] := rfl
theorem vq_st2_2 {a0 a1 : Str} {x0 x1 : V} : L2.start [a0, a1] [x0, x1] = [some x0, some x1] := rfl
theorem vq_st2_3 {a0 a1 a2 : Str} {x0 x1 : V} : L2.start [a0, a1, a2] [x0, x1] = [some x0, some x1, none] := rfl
theorem vq_st2_4 {a0 a1 a2 a3 : Str} {x0 x1 : V} : L2.start [a0, a1, a2, a3] [x0, x1] = [some x0, some x1, none, none] := rfl
theorem vq_st2_5 {a0 a1 a2 a3 a4 : Str} {x0 x1 : V} : L2.start [a0, a1, a2, a3, a4] [x0, x1] = [some x0, some x1, none, none, none] := rfl
theorem vq_st2_6 {a0 a1 a2 a3 a4 a5 : Str} {x0 x1 : V} : L2.start [a0, a1, a2, a3, a4, a5] [x0, x1] = [some x0, some x1, none, none, none, none] := rfl
theorem vq_st2_7 {a0 a1 a2 a3 a4 a5 a6 : Str} {x0 x1 : V} : L2.start [a0, a1, a2, a3, a4, a5, a6] [x0, x1] = [some x0, some x1, none, none, none, none, none] := rfl
theorem vq_st2_8 {a0 a1 a2 a3 a4 a5 a6 a7 : Str} {x0 x1 : V} : L2.start [a0, a1, a2, a3, a4, a5, a6, a7] [x0, x1] = [some x0, some x1, none, none, none, none, none, none] := rfl
theorem vq_st2_9 {a0 a1 a2 a3 a4 a5 a6 a7 a8 : Str} {x0 x1 : V} : L2.start [a0, a1, a2, a3, a4, a5, a6, a7, a8] [x0, x1] = [some x0, some x1, none, none, none, none, none, none, none] := rfl
theorem vq_st2_10 {a0 a1 a2 a3 a4 a5 a6 a7 a8 a9 : Str} {x0 x1 : V} : L2.start [a0, a1, a2, a3, a4, a5, a6, a7, a8, a9] [x0, x1] = [some x0, some x1, none, none, none, none, none, none, none, none] := rfl
theorem vq_st2_11 {a0 a1 a2 a3 a4 a5 a6 a7 a8 a9 a10 : Str} {x0 x1 : V} : L2.start [a0, a1, a2, a3, a4, a5, a6, a7, a8, a9, a10] [x0, x1] = [some x0, some x1, none, none, none, none, none, none, none, none, none] := rfl
theorem vq_st2_12 {a0 a1 a2 a3 a4 a5 a6 a7 a8 a9 a10 a11 : Str} {x0 x1 : V} : L2.start [a0, a1, a2, a3, a4, a5, a6, a7, a8, a9, a10, a11] [x0, x1] = [some x0, some x1, none, none, none, none, none, none, none, none, none, none] := rfl
theorem vq_st2_13 {a0 a1 a2 a3 a4 a5 a6 a7 a8 a9 a10 a11 a12 : Str} {x0 x1 : V} : L2.start [a0, a1, a2, a3, a4, a5, a6, a7, a8, a9, a10, a11, a12] [x0, x1] = [some x0, some x1, none, none, none, none, none, none, none, none, none, none, none] := rfl
theorem vq_st2_14 {a0 a1 a2 a3 a4 a5 a6 a7 a8 a9 a10 a11 a12 a13 : Str} {x0 x1 : V} : L2.start [a0, a1, a2, a3, a4, a5, a6, a7, a8, a9, a10, a11, a12, a13] [x0, x1] = [some x0, some x1, none, none, none, none, none, none, none, none, none, none, none, none] := rfl
theorem vq_st2_15 {a0 a1 a2 a3 a4 a5 a6 a7 a8 a9 a10 a11 a12 a13 a14 : Str} {x0 x1 : V} : L2.start [a0, a1, a2, a3, a4, a5, a6, a7, a8, a9, a10, a11, a12, a13, a14] [x0, x1] = [some x0, some x1, none, none, none, none, none, none, none, none, none, none, none, none, none] := rfl
theorem vq_st2_16 {a0 a1 a2 a3 a4 a5 a6 a7 a8 a9 a10 a11 a12 a13 a14 a15 : Str} {x0 x1 : V} : L2.start [a0, a1, a2, a3, a4, a5, a6, a7, a8, a9, a10, a11, a12, a13, a14, a15] [x0, x1] = [some x0, some x1, none, none, none, none, none, none, none, none, none, none, none, none, none, none] := rfl
theorem vq_st2_17 {a0 a1 a2 a3 a4 a5 a6 a7 a8 a9 a10 a11 a12 a13 a14 a15 a16 : Str} {x0 x1 : V} : L2.start [a0, a1, a2, a3, a4, a5, a6, a7, a8, a9, a10, a11, a12, a13, a14, a15, a16] [x0, x1] = [some x0, some x1, none, none, none, none, none, none, none, none, none, none, none, none, none, none, none] := rfl
theorem vq_st2_18 {a0 a1 a2 a3 a4 a5 a6 a7 a8 a9 a10 a11 a12 a13 a14 a15 a16 a17 : Str} {x0 x1 : V} : L2.start [a0, a1, a2, a3, a4, a5, a6, a7, a8, a9, a10, a11, a12, a13, a14, a15, a16, a17] [x0, x1] = [some x0, some x1, none, none, none, none, none, none, none, none, none, none, none, none, none, none, none, none] := rfl
theorem vq_st3_3 {a0 a1 a2 : Str} {x0 x1 x2 : V} : L2.start [a0, a1, a2] [x0, x1, x2] = [some x0, some x1, some x2] := rfl
theorem vq_st3_4 {a0 a1 a2 a3 : Str} {x0 x1 x2 : V} : L2.start [a0, a1, a2, a3] [x0, x1, x2] = [some x0, some x1, some x2, none] := rfl
theorem vq_st3_5 {a0 a1 a2 a3 a4 : Str} {x0 x1 x2 : V} : L2.start [a0, a1, a2, a3, a4] [x0, x1, x2] = [some x0, some x1, some x2, none, none] := rfl
theorem vq_st3_6 {a0 a1 a2 a3 a4 a5 : Str} {x0 x1 x2 : V} : L2.start [a0, a1, a2, a3, a4, a5] [x0, x1, x2] = [some x0, some x1, some x2, none, none, none] := rfl
theorem vq_st3_7 {a0 a1 a2 a3 a4 a5 a6 : Str} {x0 x1 x2 : V} : L2.start [a0, a1, a2, a3, a4, a5, a6] [x0, x1, x2] = [some x0, some x1, some x2, none, none, none, none] := rfl
theorem vq_st3_8 {a0 a1 a2 a3 a4 a5 a6 a7 : Str} {x0 x1 x2 : V} : L2.start [a0, a1, a2, a3, a4, a5, a6, a7] [x0, x1, x2] = [some x0, some x1, some x2, none, none, none, none, none] := rfl
theorem vq_st3_9 {a0 a1 a2 a3 a4 a5 a6 a7 a8 : Str} {x0 x1 x2 : V} : L2.start [a0, a1, a2, a3, a4, a5, a6, a7, a8] [x0, x1, x2] = [some x0, some x1, some x2, none, none, none, none, none, none] := rfl
theorem vq_st3_10 {a0 a1 a2 a3 a4 a5 a6 a7 a8 a9 : Str} {x0 x1 x2 : V} : L2.start [a0, a1, a2, a3, a4, a5, a6, a7, a8, a9] [x0, x1, x2] = [some x0, some x1, some x2, none, none, none, none, none, none, none] := rfl
theorem vq_st3_11 {a0 a1 a2 a3 a4 a5 a6 a7 a8 a9 a10 : Str} {x0 x1 x2 : V} : L2.start [a0, a1, a2, a3, a4, a5, a6, a7, a8, a9, a10] [x0, x1, x2] = [some x0, some x1, some x2, none, none, none, none, none, none, none, none] := rfl
theorem vq_st3_12 {a0 a1 a2 a3 a4 a5 a6 a7 a8 a9 a10 a11 : Str} {x0 x1 x2 : V} : L2.start [a0, a1, a2, a3, a4, a5, a6, a7, a8, a9, a10, a11] [x0, x1, x2] = [some x0, some x1, some x2, none, none, none, none, none, none, none, none, none] := rfl
theorem vq_st3_13 {a0 a1 a2 a3 a4 a5 a6 a7 a8 a9 a10 a11 a12 : Str} {x0 x1 x2 : V} : L2.start [a0, a1, a2, a3, a4, a5, a6, a7, a8, a9, a10, a11, a12] [x0, x1, x2] = [some x0, some x1, some x2, none, none, none, none, none, none, none, none, none, none] := rfl
theorem vq_st3_14 {a0 a1 a2 a3 a4 a5 a6 a7 a8 a9 a10 a11 a12 a13 : Str} {x0 x1 x2 : V} : L2.start [a0, a1, a2, a3, a4, a5, a6, a7, a8, a9, a10, a11, a12, a13] [x0, x1, x2] = [some x0, some x1, some x2, none, none, none, none, none, none, none, none, none, none, none] := rfl
theorem vq_st3_15 {a0 a1 a2 a3 a4 a5 a6 a7 a8 a9 a10 a11 a12 a13 a14 : Str} {x0 x1 x2 : V} : L2.start [a0, a1, a2, a3, a4, a5, a6, a7, a8, a9, a10, a11, a12, a13, a14] [x0, x1, x2] = [some x0, some x1, some x2, none, none, none, none, none, none, none, none, none, none, none, none] := rfl
theorem vq_st3_16 {a0 a1 a2 a3 a4 a5 a6 a7 a8 a9 a10 a11 a12 a13 a14 a15 : Str} {x0 x1 x2 : V} : L2.start [a0, a1, a2, a3, a4, a5, a6, a7, a8, a9, a10, a11, a12, a13, a14, a15] [x0, x1, x2] = [some x0, some x1, some x2, none, none, none, none, none, none, none, none, none, none, none, none, none] := rfl
theorem vq_st3_17 {a0 a1 a2 a3 a4 a5 a6 a7 a8 a9 a10 a11 a12 a13 a14 a15 a16 : Str} {x0 x1 x2 : V} : L2.start [a0, a1, a2, a3, a4, a5, a6, a7, a8, a9, a10, a11, a12, a13, a14, a15, a16] [x0, x1, x2] = [some x0, some x1, some x2, none, none, none, none, none, none, none, none, none, none, none, none, none, none] := rfl
theorem vq_st3_18 {a0 a1 a2 a3 a4 a5 a6 a7 a8 a9 a10 a11 a12 a13 a14 a15 a16 a17 : Str} {x0 x1 x2 : V} : L2.start [a0, a1, a2, a3, a4, a5, a6, a7, a8, a9, a10, a11, a12, a13, a14, a15, a16, a17] [x0, x1, x2] = [some x0, some x1, some x2, none, none, none, none, none, none, none, none, none, none, none, none, none, none, none] := rfl
theorem vq_st3_19 {a0 a1 a2 a3 a4 a5 a6 a7 a8 a9 a10 a11 a12 a13 a14 a15 a16 a17 a18 : Str} {x0 x1 x2 : V} : L2.start [a0, a1, a2, a3, a4, a5, a6, a7, a8, a9, a10, a11, a12, a13, a14, a15, a16, a17, a18] [x0, x1, x2] = [some x0, some x1, some x2, none, none, none, none, none, none, none, none, none, none, none, none, none, none, none, none] := rfl
theorem vq_st4_4 {a0 a1 a2 a3 : Str} {x0 x1 x2 x3 : V} : L2.start [a0, a1, a2, a3] [x0, x1, x2, x3] = [some x0, some x1, some x2, some x3] := rfl
theorem vq_st4_5 {a0 a1 a2 a3 a4 : Str} {x0 x1 x2 x3 : V} : L2.start [a0, a1, a2, a3, a4] [x0, x1, x2, x3] = [some x0, some x1, some x2, some x3, none] := rfl
theorem vq_st4_6 {a0 a1 a2 a3 a4 a5 : Str} {x0 x1 x2 x3 : V} : L2.start [a0, a1, a2, a3, a4, a5] [x0, x1, x2, x3] = [some x0, some x1, some x2, some x3, none, none] := rfl
theorem vq_st4_7 {a0 a1 a2 a3 a4 a5 a6 : Str} {x0 x1 x2 x3 : V} : L2.start [a0, a1, a2, a3, a4, a5, a6] [x0, x1, x2, x3] = [some x0, some x1, some x2, some x3, none, none, none] := rfl
theorem vq_st4_8 {a0 a1 a2 a3 a4 a5 a6 a7 : Str} {x0 x1 x2 x3 : V} : L2.start [a0, a1, a2, a3, a4, a5, a6, a7] [x0, x1, x2, x3] = [some x0, some x1, some x2, some x3, none, none, none, none] := rfl
theorem vq_st4_9 {a0 a1 a2 a3 a4 a5 a6 a7 a8 : Str} {x0 x1 x2 x3 : V} : L2.start [a0, a1, a2, a3, a4, a5, a6, a7, a8] [x0, x1, x2, x3] = [some x0, some x1, some x2, some x3, none, none, none, none, none] := rfl
theorem vq_st4_10 {a0 a1 a2 a3 a4 a5 a6 a7 a8 a9 : Str} {x0 x1 x2 x3 : V} : L2.start [a0, a1, a2, a3, a4, a5, a6, a7, a8, a9] [x0, x1, x2, x3] = [some x0, some x1, some x2, some x3, none, none, none, none, none, none] := rfl
theorem vq_st4_11 {a0 a1 a2 a3 a4 a5 a6 a7 a8 a9 a10 : Str} {x0 x1 x2 x3 : V} : L2.start [a0, a1, a2, a3, a4, a5, a6, a7, a8, a9, a10] [x0, x1, x2, x3] = [some x0, some x1, some x2, some x3, none, none, none, none, none, none, none] := rfl
theorem vq_st4_12 {a0 a1 a2 a3 a4 a5 a6 a7 a8 a9 a10 a11 : Str} {x0 x1 x2 x3 : V} : L2.start [a0, a1, a2, a3, a4, a5, a6, a7, a8, a9, a10, a11] [x0, x1, x2, x3] = [some x0, some x1, some x2, some x3, none, none, none, none, none, none, none, none] := rfl
theorem vq_st4_13 {a0 a1 a2 a3 a4 a5 a6 a7 a8 a9 a10 a11 a12 : Str} {x0 x1 x2 x3 : V} : L2.start [a0, a1, a2, a3, a4, a5, a6, a7, a8, a9, a10, a11, a12] [x0, x1, x2, x3] = [some x0, some x1, some x2, some x3, none, none, none, none, none, none, none, none, none] := rfl
theorem vq_st4_14 {a0 a1 a2 a3 a4 a5 a6 a7 a8 a9 a10 a11 a12 a13 : Str} {x0 x1 x2 x3 : V} : L2.start [a0, a1, a2, a3, a4, a5, a6, a7, a8, a9, a10, a11, a12, a13] [x0, x1, x2, x3] = [some x0, some x1, some x2, some x3, none, none, none, none, none, none, none, none, none, none] := rfl
theorem vq_st4_15 {a0 a1 a2 a3 a4 a5 a6 a7 a8 a9 a10 a11 a12 a13 a14 : Str} {x0 x1 x2 x3 : V} : L2.start [a0, a1, a2, a3, a4, a5, a6, a7, a8, a9, a10, a11, a12, a13, a14] [x0, x1, x2, x3] = [some x0, some x1, some x2, some x3, none, none, none, none, none, none, none, none, none, none, none] := rfl
theorem vq_st4_16 {a0 a1 a2 a3 a4 a5 a6 a7 a8 a9 a10 a11 a12 a13 a14 a15 : Str} {x0 x1 x2 x3 : V} : L2.start [a0, a1, a2, a3, a4, a5, a6, a7, a8, a9, a10, a11, a12, a13, a14, a15] [x0, x1, x2, x3] = [some x0, some x1, some x2, some x3, none, none, none, none, none, none, none, none, none, none, none, none] := rfl
theorem vq_st4_17 {a0 a1 a2 a3 a4 a5 a6 a7 a8 a9 a10 a11 a12 a13 a14 a15 a16 : Str} {x0 x1 x2 x3 : V} : L2.start [a0, a1, a2, a3, a4, a5, a6, a7, a8, a9, a10, a11, a12, a13, a14, a15, a16] [x0, x1, x2, x3] = [some x0, some x1, some x2, some x3, none, none, none, none, none, none, none, none, none, none, none, none, none] := rfl
theorem vq_st4_18 {a0 a1 a2 a3 a4 a5 a6 a7 a8 a9 a10 a11 a12 a13 a14 a15 a16 a17 : Str} {x0 x1 x2 x3 : V} : L2.start [a0, a1, a2, a3, a4, a5, a6, a7, a8, a9, a10, a11, a12, a13, a14, a15, a16, a17] [x0, x1, x2, x3] = [some x0, some x1, some x2, some x3, none, none, none, none, none, none, none, none, none, none, none, none, none, none] := rfl
theorem vq_st4_19 {a0 a1 a2 a3 a4 a5 a6 a7 a8 a9 a10 a11 a12 a13 a14 a15 a16 a17 a18 : Str} {x0 x1 x2 x3 : V} : L2.start [a0, a1, a2, a3, a4, a5, a6, a7, a8, a9, a10, a11, a12, a13, a14, a15, a16, a17, a18] [x0, x1, x2, x3] = [some x0, some x1, some x2, some x3, none, none, none, none, none, none, none, none, none, none, none, none, none, none, none] := rfl
theorem vq_st4_20 {a0 a1 a2 a3 a4 a5 a6 a7 a8 a9 a10 a11 a12 a13 a14 a15 a16 a17 a18 a19 : Str} {x0 x1 x2 x3 : V} : L2.start [a0, a1, a2, a3, a4, a5, a6, a7, a8, a9, a10, a11, a12, a13, a14, a15, a16, a17, a18, a19] [x0, x1, x2, x3] = [some x0, some x1, some x2, some x3, none, none, none, none, none, none, none, none, none, none, none, none, none, none, none, none] := rfl
theorem vq_cK {CX : CXT} {P : Program} {w : World} {mg : Str → Option Value} {base : Heap} {N : List Str} {q : Str} {sc : Scope} {f : Addr} {cd : Value} {A : Around} {outer : List Env} {s : Shared} {E : XK} : (cxOf CX P w K mg base N q sc f cd A outer s H E).K = K := rfl
theorem vq_cKn {CX : CXT} {P : Program} {w : World} {mg : Str → Option Value} {base : Heap} {N : List Str} {q : Str} {sc : Scope} {f : Addr} {cd : Value} {A : Around} {outer : List Env} {s : Shared} {E : XK} : (cxOf CX P w K mg base N q sc f cd A outer s H E).nox.K = K := rfl
theorem vq_yes : tYes σ H Qb = Qb true H := rfl
theorem vq_wn : wipe σ [] = σ := rfl
theorem vq_wc {n : Nat} {l : List Nat} : wipe σ (n :: l) = (wipe σ l).set n none := rfl
theorem vq_o1 {a : Str} {n : Nat} : List.map (fun x : Str × Nat => x.snd) [(a, n)] = [n] := rfl
theorem vq_o2 {a b : Str} {n m : Nat} : List.map (fun x : Str × Nat => x.snd) [(a, n), (b, m)] = [n, m] := rfl
theorem vq_o3 {a b c : Str} {n m o : Nat} : List.map (fun x : Str × Nat => x.snd) [(a, n), (b, m), (c, o)] = [n, m, o] := rfl
theorem vq_app {l : List V} : l ++ [] = l := List.append_nil l
end
theorem iteT' {c A B : Prop} [Decidable c] (h : c) (a : A) : if c then A else B := by rw [if_pos h]; exact a
theorem iteF' {c A B : Prop} [Decidable c] (h : ¬ c) (b : B) : if c then A else B := by rw [if_neg h]; exact b
/-! ### answers -/
section
variable {K : PySem.W.Frag} {H : Hp} {Q : VK} {t : Addr} {xs : List V} {i : Int} {v : V} {b : Bool} {T : String}
theorem ixT (h : SqT K H t xs) (e : atI xs i = some v) (q : Q v H) : rIxT K (.ref t) (.int i) H Q := ⟨_, _, _, _, rfl, rfl, h, e, q⟩
theorem ixL (h : SqL K H t xs) (e : atI xs i = some v) (q : Q v H) : rIxL K (.ref t) (.int i) H Q := ⟨_, _, _, _, rfl, rfl, h, e, q⟩
theorem tyT (h : SqT K H t xs) : TyX K H (.ref t) (.type "tuple") := by
  rcases h with (h | ⟨o, h⟩) | ⟨o, its, n, h1, h2, _⟩
  · exact .base (.tup h)
  · exact .fTuple h
  · exact .kTuple h1 h2
theorem tyL (h : SqL K H t xs) : TyX K H (.ref t) (.type "list") := by
  rcases h with (h | ⟨o, h⟩) | ⟨o, its, n, h1, h2, _⟩
  · exact .base (.lst h)
  · exact .base (.frz h)
  · exact .kList h1 h2
/-- the type's name of a value -/
inductive TyN (K : PySem.W.Frag) (H : Hp) : V → String → Prop
  | non : TyN K H .non "NoneType"
  | bl (b : Bool) : TyN K H (.bl b) "bool"
  | int (i : Int) : TyN K H (.int i) "int"
  | str (z : Str) : TyN K H (.str z) "str"
  | tup {t : Addr} {xs : List V} (h : SqT K H t xs) : TyN K H (.ref t) "tuple"
  | lst {t : Addr} {xs : List V} (h : SqL K H t xs) : TyN K H (.ref t) "list"
theorem TyN.x {v : V} {n : String} (h : TyN K H v n) : TyX K H v (.type n) := by
  cases h with
  | non => exact .base .non
  | bl b => exact .base (.bl b)
  | int i => exact .base (.int i)
  | str z => exact .base (.str z)
  | tup h => exact tyT h
  | lst h => exact tyL h
theorem isi1 {n : String} (h : TyN K H v n) (e : PySem.W.kitOne K (.type n) (.type T) = some b) (q : Q (.bl b) H) : rIsi K [v, .ty T] H Q := ⟨v, .ty T, _, _, b, rfl, .ty T, h.x, e, q⟩
theorem isi2 {n : String} {p : Addr} {S T : String} (h : TyN K H v n) (hp : H p = some (.tup [.ty S, .ty T])) (e : PySem.W.kitAny K (.type n) [.type S, .type T] = some b) (q : Q (.bl b) H) : rIsiT K [v, .ref p] H Q :=
  ⟨v, p, _, _, _, b, rfl, hp, .cons (.ty S) (.cons (.ty T) .nil), h.x, e, q⟩
theorem lenT (h : SqT K H t xs) (q : Q (.int xs.length) H) : ∃ p ys, [V.ref t] = [.ref p] ∧ (SqL K H p ys ∨ SqT K H p ys) ∧ Q (.int ys.length) H := ⟨t, xs, rfl, .inr h, q⟩
theorem lenL (h : SqL K H t xs) (q : Q (.int xs.length) H) : ∃ p ys, [V.ref t] = [.ref p] ∧ (SqL K H p ys ∨ SqT K H p ys) ∧ Q (.int ys.length) H := ⟨t, xs, rfl, .inl h, q⟩
end
/-! ### a list or a tuple, walked -/
def iSeq (K : PySem.W.Frag) (te : TE) : TI := fun σ H R => iList K te σ H R ∨ iTup K te σ H R
theorem pi_seq {X : Cx} {tg e : Expr} {te : TE} (he : PE X e te) : PI X tg e (iSeq X.K te) :=
  ⟨fun pins s σ H R I h => h.elim (fun h => (pi_list he).run pins s σ H R I h) fun h => (pi_tup he).run pins s σ H R I h⟩
theorem paired_at {α β : Type} {F : α → β → Prop} : ∀ {l : List α} {m : List β}, Paired F l m → ∀ i, i < l.length → ∃ a b, l[i]? = some a ∧ m[i]? = some b ∧ F a b
  | _, _, .nil, i, h => absurd h (Nat.not_lt_zero i)
  | _, _, .cons f _, 0, _ => ⟨_, _, rfl, rfl, f⟩
  | _, _, .cons _ r, i + 1, h => by
    obtain ⟨a, b, h1, h2, f⟩ := paired_at r i (Nat.lt_of_succ_lt_succ h)
    exact ⟨a, b, by simpa using h1, by simpa using h2, f⟩
/-! ### a comprehension whose element is told by the turn -/
theorem lcs {J : It} {n : Nat} {it : Nat → V} {G : Hp → Prop} (w : Walk J n G (fun i H x H' => H' = H ∧ x = it i)) {te : TE} {k : Nat} {vs : List Nat} {σ : L2.St} {H1 : Hp} {Q : VK} (f : Nat → V) (hG : ∀ H', Same H1 H' → G H') (hn : n ≤ sizeLine)
    (hw : ∀ x, wipe ((wipe σ vs).set k (some x)) vs = wipe σ vs) (hs : ∀ i H' (R : VK), i < n → Same H1 H' → (∀ H2, Same H' H2 → R (f i) H2) → te ((wipe σ vs).set k (some (it i))) H' R)
    (hd : ∀ D H', Same H1 H' → H1 D = none → H' D = some (.lst ((List.range n).map f)) → Q (.ref D) H') :
    ∀ D, H1 D = none → ∃ W : Nat → Nat → Hp → Prop, (∃ m, W 0 m (upd H1 D (.lst []))) ∧ ∀ i m H, W i m H →
      (J.stop i H ∧ Q (.ref D) H) ∨ (J.go i H ∧ ∃ Nx : Hp → Prop, (∀ H', Nx H' → ∃ m', m' < m ∧ W (i + 1) m' H') ∧ ∀ x H', J.yld i H x H' → gName k x (wipe σ vs) H' fun σ2 H2 => wipe σ2 vs = wipe σ vs ∧ tYes σ2 H2 fun b H3 =>
        if b = true then (te σ2 H3 fun y H4 => ∃ acc, H4 D = some (.lst acc) ∧ acc.length < sizeLine ∧ Nx (upd H4 D (.lst (acc ++ [y])))) else Nx H3) := by
  intro D nD
  refine lc_it w (fun i H => Same H1 H ∧ H D = some (.lst ((List.range i).map f))) ⟨same_new nD, upd_same⟩ (fun i H _ h => hG H h.1) (fun i x H H' hi h y => ?_) fun H h => hd D H h.1 nD h.2
  obtain ⟨h1, h2⟩ := h
  obtain ⟨rfl, rfl⟩ := y
  refine ⟨hw _, ?_⟩
  show te ((wipe σ vs).set k (some (it i))) H' _
  refine hs i H' _ hi h1 fun H4 s4 => ?_
  refine ⟨_, s4 _ _ h2, by rw [List.length_map, List.length_range]; exact Nat.lt_of_lt_of_le hi hn, fun b o e => ?_, ?_⟩
  · rw [upd_ne (ne_of_none e nD)]
    exact s4 _ _ (h1 _ _ e)
  · rw [upd_same, List.range_succ, List.map_append]
    rfl
theorem lcW {wi : TI} {H : Hp} {J : It} {n : Nat} {it : Nat → V} {G : Hp → Prop} {te : TE} {k : Nat} {vs : List Nat} {σ : L2.St} {H1 : Hp} {Q : VK} (hwi : ∀ R : It → Hp → Prop, R J H1 → wi σ H R) (w : Walk J n G (fun i H x H' => H' = H ∧ x = it i)) (f : Nat → V) (hG : ∀ H', Same H1 H' → G H') (hn : n ≤ sizeLine)
    (hw : ∀ x, wipe ((wipe σ vs).set k (some x)) vs = wipe σ vs) (hs : ∀ i H' (R : VK), i < n → Same H1 H' → (∀ H2, Same H' H2 → R (f i) H2) → te ((wipe σ vs).set k (some (it i))) H' R)
    (hd : ∀ D H', Same H1 H' → H1 D = none → H' D = some (.lst ((List.range n).map f)) → Q (.ref D) H') : tLc wi (gName k) tYes te vs σ H Q :=
  hwi _ (lcs (Q := Q) w f hG hn hw hs hd)
/-- a comprehension with a test: what holds of the list so far -/
theorem lcF {wi : TI} {H : Hp} {J : It} {n : Nat} {it : Nat → V} {G : Hp → Prop} {tt : TT} {te : TE} {k : Nat} {vs : List Nat} {σ : L2.St} {H1 : Hp} {Q : VK} (hwi : ∀ R : It → Hp → Prop, R J H1 → wi σ H R) (w : Walk J n G (fun i H x H' => H' = H ∧ x = it i)) (A : Nat → List V → Prop) (hG : ∀ H', Same H1 H' → G H') (hn : n ≤ sizeLine)
    (hw : ∀ x, wipe ((wipe σ vs).set k (some x)) vs = wipe σ vs) (hA0 : A 0 []) (hAl : ∀ i acc, A i acc → acc.length ≤ i)
    (hs : ∀ i H' acc (Rt : V → Hp → Prop) (Rf : Hp → Prop), i < n → Same H1 H' → A i acc → (∀ y H2, Same H' H2 → A (i + 1) (acc ++ [y]) → Rt y H2) → (∀ H2, Same H' H2 → A (i + 1) acc → Rf H2) →
      tt ((wipe σ vs).set k (some (it i))) H' fun b H3 => if b = true then te ((wipe σ vs).set k (some (it i))) H3 Rt else Rf H3)
    (hd : ∀ D H' acc, Same H1 H' → H1 D = none → H' D = some (.lst acc) → A n acc → Q (.ref D) H') : tLc wi (gName k) tt te vs σ H Q := by
  refine hwi _ fun D nD => ?_
  refine lc_it w (fun i H => Same H1 H ∧ ∃ acc, H D = some (.lst acc) ∧ A i acc) ⟨same_new nD, [], upd_same, hA0⟩ (fun i H _ h => hG H h.1) (fun i x H H' hi h y => ?_) fun H ⟨h1, acc, h2, h3⟩ => hd D H acc h1 nD h2 h3
  obtain ⟨h1, acc, h2, h3⟩ := h
  obtain ⟨rfl, rfl⟩ := y
  refine ⟨hw _, hs i H' acc _ _ hi h1 h3 (fun y H4 s4 h4 => ?_) fun H4 s4 h4 => ⟨h1.trans s4, acc, s4 _ _ h2, h4⟩⟩
  refine ⟨acc, s4 _ _ h2, Nat.lt_of_le_of_lt (hAl i acc h3) (Nat.lt_of_lt_of_le hi hn), fun b o e => ?_, acc ++ [y], upd_same, h4⟩
  rw [upd_ne (ne_of_none e nD)]
  exact s4 _ _ (h1 _ _ e)
/-- over a list that was just made -/
theorem tLc_new {K : PySem.W.Frag} {wi : TI} {g : TG} {tt : TT} {te : TE} {vs : List Nat} {σ : L2.St} {H : Hp} {Q : VK} {o : HO} (hwi : ∀ R : It → Hp → Prop, (∀ p, H p = none → R (Itl K p) (upd H p o)) → wi σ H R)
    (h : ∀ p, H p = none → tLc (fun _ H R => R (Itl K p) H) g tt te vs σ (upd H p o) Q) : tLc wi g tt te vs σ H Q := hwi _ fun p np => h p np
theorem iList_slice {K : PySem.W.Frag} {te : TE} {tl th : TO} {σ : L2.St} {H : Hp} {a : Addr} {xs : List V} {lo hi : Option Int} (hte : ∀ Q : VK, Q (.ref a) H → te σ H Q) (hlo : ∀ Q : Option Int → Hp → Prop, Q lo H → tl σ H Q) (hhi : ∀ Q : Option Int → Hp → Prop, Q hi H → th σ H Q) (hA : SqL K H a xs)
    (R : It → Hp → Prop) (h : ∀ p, H p = none → R (Itl K p) (upd H p (.lst (cutV xs lo hi)))) : iList K (tSl (rSlL K) te tl th) σ H R :=
  hte _ (hlo _ (hhi _ ⟨a, xs, rfl, hA, fun p np => ⟨p, rfl, ⟨_, .inl (.inl upd_same)⟩, h p np⟩⟩))
theorem tLc_wi {J : It} {wi : TI} {g : TG} {tt : TT} {te : TE} {vs : List Nat} {σ : L2.St} {H : Hp} {Q : VK} (hwi : ∀ R : It → Hp → Prop, R J H → wi σ H R) (h : tLc (fun _ H R => R J H) g tt te vs σ H Q) : tLc wi g tt te vs σ H Q := hwi _ h
theorem walk_zipT {K : PySem.W.Frag} {a b : Addr} {xs ys : List V} {n : Nat} (hn : n = min xs.length ys.length) : Walk (RZ.ItzT K a b) n (fun H => SqT K H a xs ∧ SqT K H b ys) (YPair (fun i => xs[i]?) (fun i => ys[i]?)) := by
  constructor
  · intro i _ hi q
    have hx : i < xs.length := by omega
    have hy : i < ys.length := by omega
    exact ⟨xs, ys, _, _, q.1, q.2, List.getElem?_eq_getElem hx, List.getElem?_eq_getElem hy⟩
  · intro _ q
    exact ⟨xs, ys, q.1, q.2, by omega⟩
  · intro i H v H' _ q y
    obtain ⟨t, x, z, y1, y2, y3, y4, y5⟩ := y
    exact ⟨t, x, z, y1, y2, y3, y4 xs q.1, y5 ys q.2⟩
theorem walkT {K : PySem.W.Frag} {a : Addr} {xs : List V} : Walk (Itt K a) xs.length (fun H => SqT K H a xs) (fun i H x H' => H' = H ∧ x = xs.getD i .non) :=
  walk_tup.mono (fun _ h => h) fun i H x H' hi _ y => ⟨y.1, by rw [List.getD_eq_getElem?_getD, y.2]; rfl⟩
theorem walkL {K : PySem.W.Frag} {a : Addr} {xs : List V} : Walk (Itl K a) xs.length (fun H => SqL K H a xs) (fun i H x H' => H' = H ∧ x = xs.getD i .non) :=
  walk_list.mono (fun _ h => h) fun i H x H' hi _ y => ⟨y.1, by rw [List.getD_eq_getElem?_getD, y.2]; rfl⟩
/-! ### loops -/
theorem for_seq {K : PySem.W.Frag} {j : Nat} {a : Addr} {xs : List V} {g : TG} {tb : TS} {D : Ends} {σ : L2.St} {H : Hp} (hσ : σ[j]? = some (some (.ref a))) (hA : SqL K H a xs ∨ SqT K H a xs) (Pv : Nat → L2.St → Hp → Prop) (h0 : Pv 0 σ H)
    (hG : ∀ i σ H', i ≤ xs.length → Pv i σ H' → Same H H')
    (hs : ∀ i x σ H', xs[i]? = some x → Pv i σ H' → g x σ H' fun σ2 H2 => tb { D with nx := Pv (i + 1), ct := Pv (i + 1), bk := D.nx } σ2 H2) (hd : ∀ σ H', Pv xs.length σ H' → D.nx σ H') :
    tFor (iSeq K (tVar j)) g tb D σ H := by
  rcases hA with hA | hA
  · exact .inl ⟨_, hσ, a, rfl, ⟨_, hA⟩, for_it (walk_list (xs := xs)) Pv h0 (fun i σ H' hi p => (hG i σ H' hi p).seq hA) (fun i x σ H' H2 hi p y => by
      obtain ⟨rfl, y⟩ := y
      exact hs i x σ H2 y p) hd⟩
  · exact .inr ⟨_, hσ, a, rfl, ⟨_, hA⟩, for_it (walk_tup (xs := xs)) Pv h0 (fun i σ H' hi p => (hG i σ H' hi p).seqT hA) (fun i x σ H' H2 hi p y => by
      obtain ⟨rfl, y⟩ := y
      exact hs i x σ H2 y p) hd⟩
theorem gt2 {K : PySem.W.Frag} {H : Hp} {t : Addr} {x y : V} {n i j : Nat} {σ : L2.St} {Q : L2.St → Hp → Prop} (h : SqT K H t [x, y]) (q : Q ((σ.set i (some x)).set j (some y)) H) (hn : 2 = n := by rfl) : gTup K n (gCons (gName i) (gCons (gName j) gNil)) (.ref t) σ H Q :=
  ⟨t, _, rfl, h, hn, x, _, rfl, y, _, rfl, rfl, q⟩
theorem isT {K : PySem.W.Frag} {H : Hp} {p : Addr} {xs : List V} (h : H p = some (.tup xs)) : SqT K H p xs := .inl (.inl h)
theorem isL {K : PySem.W.Frag} {H : Hp} {p : Addr} {xs : List V} (h : H p = some (.lst xs)) : SqL K H p xs := .inl (.inl h)
/-- what holds between two statements -/
theorem seq_rest {ts tr : TS} {D : Ends} {σ : L2.St} {H : Hp} (M : L2.St → Hp → Prop) (h2 : ∀ σ H, M σ H → tr D σ H) (h1 : ∀ R : L2.St → Hp → Prop, (∀ σ H, M σ H → R σ H) → ts { D with nx := R } σ H) : tSeq ts tr D σ H := h1 (tr D) h2
theorem tyVL {K : PySem.W.Frag} {H : Hp} {a : Addr} {xs : List V} (h : SqL K H a xs) : tyV K "list" (.ref a) H := .inl ⟨rfl, _, h⟩
theorem popL {H : Hp} {Q : VK} {l : Addr} {xs : List V} {y : V} (h : H l = some (.lst (xs ++ [y]))) (q : Q y (upd H l (.lst xs))) : rPop (.ref l) [] H Q :=
  ⟨l, xs ++ [y], y, rfl, rfl, h, by simp, by rw [List.dropLast_concat]; exact q⟩
theorem appL {H : Hp} {Q : VK} {l : Addr} {xs : List V} {y : V} (h : H l = some (.lst xs)) (hz : xs.length < sizeLine) (q : Q .non (upd H l (.lst (xs ++ [y])))) : rAppend (.ref l) [y] H Q := ⟨l, xs, y, rfl, rfl, h, hz, q⟩
theorem atI_last' {xs : List V} {y : V} : atI (xs ++ [y]) (-1) = some y := atI_last xs y
def rIntI : List V → Hp → VK → Prop := fun xs H Q => ∃ i, xs = [.int i] ∧ Q (.int i) H
theorem call_intI {X : Cx} : CallR X (.type "int") rIntI := fun pins s σ H xs us Q I r h => call_int1 pins s σ H xs us Q I r (.inl h)
theorem vq_intI {i : Int} {H : Hp} {Q : VK} : rIntI [.int i] H Q = Q (.int i) H := by
  apply propext
  constructor
  · rintro ⟨j, e, h⟩
    cases e; exact h
  · intro h
    exact ⟨i, rfl, h⟩
theorem vq_gsub {to ti : TE} {t : TSet} {v : V} {σ : L2.St} {H : Hp} {Q : L2.St → Hp → Prop} : gSub to ti t v σ H Q = to σ H fun o H1 => ti σ H1 fun i H2 => t o i v H2 fun H3 => Q σ H3 := rfl
theorem setL {H : Hp} {Q : Hp → Prop} {l : Addr} {xs : List V} {k : Int} {j : Nat} {v : V} (h : H l = some (.lst xs)) (e : ixN xs.length k = some j) (q : Q (upd H l (.lst (xs.set j v)))) : rSetL (.ref l) (.int k) v H Q := ⟨l, xs, k, j, rfl, rfl, h, e, q⟩
theorem cutV_to {xs : List V} {n : Nat} : cutV xs none (some (n : Int)) = xs.take n := by
  unfold cutV
  rw [HT.sIx_none, HT.sIx_nat]
  simp
theorem cutV_from {xs : List V} {n : Nat} : cutV xs (some (n : Int)) none = xs.drop n := by
  unfold cutV
  rw [HT.sIx_none, HT.sIx_nat]
  by_cases h : n ≤ xs.length
  · rw [Nat.min_eq_left h, List.take_of_length_le (by rw [List.length_drop]; omega)]
  · rw [Nat.min_eq_right (by omega), Nat.sub_self, List.take_zero, List.drop_of_length_le (by omega)]
/-! ### the same in a comprehension's block -/
def rLenQ (K : PySem.W.Frag) : List V → Hp → VK → Prop := fun xs H Q => ∃ p ys, xs = [.ref p] ∧ (SqL K H p ys ∨ SqT K H p ys) ∧ Q (.int ys.length) H
section
variable {X : Cx} {K : PySem.W.Frag}
theorem ix_tupK (h : X.K = K) : IxR X (rIxT K) := h ▸ ix_tup
theorem ix_listK (h : X.K = K) : IxR X (rIxL K) := h ▸ ix_list
theorem len_K (h : X.K = K) : CallR X (.builtin "len") (rLenQ K) := h ▸ call_len_seq
theorem isi_K (h : X.K = K) : CallR X (.builtin "isinstance") (rIsi K) := h ▸ call_isi
theorem isiT_K (h : X.K = K) : CallR X (.builtin "isinstance") (rIsiT K) := h ▸ call_isiT
theorem eqD_K (h : X.K = K) (hu : X.A.units + 64 < cLine) : OpR X (compareOp .Eq) (rEqD K) := h ▸ op_eqD hu
theorem neD_K (h : X.K = K) (hu : X.A.units + 64 < cLine) : OpR X (compareOp .NotEq) (rNeD K) := h ▸ op_neD hu
theorem slL_K (h : X.K = K) : SlR X (rSlL K) := h ▸ sl_list
theorem slT_K (h : X.K = K) : SlR X (rSlA K) := h ▸ sl_tupA
end
end L2
set_option Elab.async false
set_option linter.all false
set_option maxRecDepth 100000
set_option maxHeartbeats 4400000
namespace K0
open PySem PySem.Spec PyProof.Rows L2
def topS (i : Nat) : Stmt := PySem.Challenge.pw_heldshares_k00_whole_what_is_left_of_any.main.body.getD i (.Pass ⟨0, 0, 0, 0⟩)
local macro_rules | `(tactic| walk_at "vc") => `(tactic| try simp only [vq_st1_1, vq_st1_2, vq_st1_3, vq_st1_4, vq_st1_5, vq_st1_6, vq_st1_7, vq_st1_8, vq_st1_9, vq_st1_10, vq_st1_11, vq_st1_12, vq_st1_13, vq_st1_14, vq_st1_15, vq_st1_16, vq_st1_17, vq_st2_2, vq_st2_3, vq_st2_4, vq_st2_5, vq_st2_6, vq_st2_7, vq_st2_8, vq_st2_9, vq_st2_10, vq_st2_11, vq_st2_12, vq_st2_13, vq_st2_14, vq_st2_15, vq_st2_16, vq_st2_17, vq_st2_18, vq_st3_3, vq_st3_4, vq_st3_5, vq_st3_6, vq_st3_7, vq_st3_8, vq_st3_9, vq_st3_10, vq_st3_11, vq_st3_12, vq_st3_13, vq_st3_14, vq_st3_15, vq_st3_16, vq_st3_17, vq_st3_18, vq_st3_19, vq_st4_4, vq_st4_5, vq_st4_6, vq_st4_7, vq_st4_8, vq_st4_9, vq_st4_10, vq_st4_11, vq_st4_12, vq_st4_13, vq_st4_14, vq_st4_15, vq_st4_16, vq_st4_17, vq_st4_18, vq_st4_19, vq_st4_20, vq_cK, vq_cKn, vq_var, vq_c, vq_op, vq_un, vq_I, vq_I0, vq_U, vq_eqI, vq_neI, vq_neB, vq_nil, vq_cons, vq_call, vq_CB, vq_bl, vq_B, vq_test, vq_and, vq_or, vq_not, vq_andV, vq_orV, vq_notV, vq_if, vq_ifS, vq_chain, vq_seq, vq_next, vq_ret, vq_retN, vq_drop, vq_asg, vq_par, vq_par2, vq_aug, vq_some, vq_name, vq_gnil, vq_tup, vq_lst, vq_sz0, vq_sz1, vq_sz2, vq_sz3, vq_sz4, vq_tru, vq_BM, vq_BM0, vq_sl, vq_ite_t, vq_ite_f, vq_ite_d, vq_ite_n, List.getElem?_cons_zero, List.getElem?_cons_succ, List.set_cons_zero, List.set_cons_succ, vq_app, vq_yes, vq_wn, vq_wc, vq_o1, vq_o2, vq_o3, vq_intI, vq_gsub, reduceIte, Bool.false_eq_true, Bool.not_true, Bool.not_false])
/-- the names of the top and of the library that the defs use -/
structure Glb (mg : Str → Option Value) : Prop where
  m_isinstance : mg "isinstance" = none
  m_int : mg "int" = none
  m_bool : mg "bool" = none
  m_str : mg "str" = none
  m_list : mg "list" = none
  m_tuple : mg "tuple" = none
  m_len : mg "len" = none
  m_all : mg "all" = none
  m_sum : mg "sum" = none
  m_abs : mg "abs" = none
  m_max : mg "max" = none
  m_min : mg "min" = none
  m_range : mg "range" = none
  m_zip : mg "zip" = none
  m_super : mg "super" = none
  g_MOST_PARTS : ∃ t, mg "MOST_PARTS" = some (.int 1000 t)
section
variable {P : Program} {w : World} {K : PySem.W.Frag} {mg : Str → Option Value} {base : Heap}
/-! ### is_integer of an int -/
abbrev s_is_integer : Stmt := topS 5
theorem sc_is_integer : FnScope ["value"] ["value"] (defScope s_is_integer) := ⟨rfl, rfl, rfl, by decide +kernel, rfl, by decide +kernel, by decide +kernel⟩
def spIsInt : Sp := fun vs H Q _ => ∃ i : Int, vs = [.int i] ∧ Q (.bl true) H
theorem c_is_integer (G : Glb mg) (D : DefAt K mg "is_integer" s_is_integer ["value"]) : Callee P w K mg base CX0 1 "is_integer" ["value"] spIsInt := by
  refine D.ok fun f fd F => F.ok sc_is_integer (fun vs H Q E h => ?_) (fun cdv A outer s H vs Q E hr h => ?_)
  · obtain ⟨i, rfl, _⟩ := h
    rfl
  · obtain ⟨i, rfl, q⟩ := h
    refine ⟨_, (pss_one (ps_ret (pe_and (pe_callB call_isi (by rfl) G.m_isinstance (by decide +kernel) (pa_cons (pv 0) (pa_cons (pe_bltn (v := .ty "int") (by rfl) G.m_int (by decide +kernel) rfl) pa_nil))) (pe_one (pe_not (pe_callB call_isi (by rfl) G.m_isinstance (by decide +kernel) (pa_cons (pv 0) (pa_cons (pe_bltn (v := .ty "bool") (by rfl) G.m_bool (by decide +kernel) rfl) pa_nil)))))))), ?_⟩
    refine ⟨_, rfl, _, _, _, _, true, rfl, .ty _, .base (.int i), ?_, true, rfl, iteT ?_⟩
    · exact (by first | rfl | decide +kernel)
    refine ⟨_, rfl, _, _, _, _, false, rfl, .ty _, .base (.int i), ?_, false, rfl, ?_⟩
    · exact (by first | rfl | decide +kernel)
    exact q
/-! ### great_divisor -/
abbrev s_great_divisor : Stmt := topS 9
theorem sc_great_divisor : FnScope ["one", "other"] ["one", "other"] (defScope s_great_divisor) := ⟨rfl, rfl, rfl, by decide +kernel, rfl, by decide +kernel, by decide +kernel⟩
def spGcd : Sp := fun vs H Q _ => ∃ a b : Int, vs = [.int a, .int b] ∧ 0 ≤ a ∧ 0 ≤ b ∧ Q (.int (gI a b)) H
theorem gI_step {a b : Int} (ha : 0 ≤ a) (hb : 0 < b) : gI b (a % b) = gI a b := by
  have h1 : (a % b).natAbs = a.natAbs % b.natAbs := by
    have h2 : ((a.natAbs % b.natAbs : Nat) : Int) = a % b := by
      rw [Int.natCast_emod, Int.natAbs_of_nonneg ha, Int.natAbs_of_nonneg (Int.le_of_lt hb)]
    rw [← h2]
    rfl
  show ((Nat.gcd b.natAbs (a % b).natAbs : Nat) : Int) = ((Nat.gcd a.natAbs b.natAbs : Nat) : Int)
  rw [h1, Nat.gcd_comm b.natAbs, ← Nat.gcd_rec, Nat.gcd_comm]
theorem gI_zero {a : Int} (ha : 0 ≤ a) : gI a 0 = a := by
  show ((Nat.gcd a.natAbs 0 : Nat) : Int) = a
  rw [Nat.gcd_zero_right, Int.natAbs_of_nonneg ha]
theorem fmod_pos {a b : Int} (ha : 0 ≤ a) (hb : 0 < b) : a.fmod b = a % b := Int.fmod_eq_emod_of_nonneg a (Int.le_of_lt hb)
theorem c_great_divisor (G : Glb mg) (D : DefAt K mg "great_divisor" s_great_divisor ["one", "other"]) : Callee P w K mg base CX0 1 "great_divisor" ["one", "other"] spGcd := by
  refine D.ok fun f fd F => F.ok sc_great_divisor (fun vs H Q E h => ?_) (fun cdv A outer s H vs Q E hr h => ?_)
  · obtain ⟨a, b, rfl, _⟩ := h
    rfl
  · obtain ⟨a, b, rfl, ha, hb, q⟩ := h
    refine ⟨_, (pss_cons (ps_while PassesOwn.never (pt_cmpR op_gt (pv 1) pe_int (nomark _)) (pss_one (ps_par (i := 0) (j := 1) (by rfl) sc_great_divisor.nd rfl rfl (by decide) rfl rfl (pa_cons (pv 1) (pa_cons (pe_op op_modN (pv 0) (pv 1)) pa_nil)) (by rfl))))
    (pss_one (ps_ret (pv 0)))), ?_⟩
    refine ⟨fun m σ H' => ∃ c d : Int, σ = [some (.int c), some (.int d)] ∧ H' = H ∧ 0 ≤ c ∧ 0 ≤ d ∧ gI c d = gI a b ∧ m = d.toNat, ⟨b.toNat, a, b, rfl, rfl, ha, hb, rfl, rfl⟩, fun m σ H' hW => ?_⟩
    obtain ⟨c, d, rfl, rfl, hc, hd, e, rfl⟩ := hW
    refine ⟨_, rfl, d, 0, rfl, rfl, _, rfl, ite2 (fun ht => ?_) (fun ht => ?_)⟩
    · have hd0 : 0 < d := of_decide_eq_true ht
      refine ⟨fun σ' H'' => σ' = [some (.int d), some (.int (c % d))] ∧ H'' = H', fun σ' H'' hN => ?_, ?_⟩
      · obtain ⟨rfl, rfl⟩ := hN
        have h1 := Int.emod_nonneg c (Int.ne_of_gt hd0)
        have h2 := Int.emod_lt_of_pos c hd0
        exact ⟨(c % d).toNat, by omega, d, c % d, rfl, rfl, hd, h1, by rw [gI_step hc hd0, e], rfl⟩
      · refine ⟨_, rfl, _, rfl, _, rfl, c, d, rfl, rfl, Int.ne_of_gt hd0, _, _, rfl, ?_, rfl⟩
        show [some (V.int d), some (V.int (c.fmod d))] = _
        rw [fmod_pos hc hd0]
    · have hd0 : d = 0 := by
        have : ¬ 0 < d := fun z => ht (decide_eq_true z)
        omega
      subst hd0
      refine ⟨_, rfl, ?_⟩
      rw [← e, gI_zero hc] at q
      exact q
/-! ### lowest -/
abbrev s_lowest : Stmt := topS 12
theorem sc_lowest : FnScope ["top", "bottom", "by"] ["top", "bottom"] (defScope s_lowest) := ⟨rfl, rfl, rfl, by decide +kernel, rfl, by decide +kernel, by decide +kernel⟩
/-- a pair of numbers -/
abbrev pr (r : Rat) : HO := .tup [.int r.num, .int (r.den : Int)]
def spLowest : Sp := fun vs H Q _ => ∃ a b : Int, vs = [.int a, .int b] ∧ 0 ≤ a ∧ 0 < b ∧ b.natAbs < 2 ^ 8000 ∧ ∀ p, H p = none → Q (.ref p) (upd H p (pr (Rat.divInt a b)))
theorem gI_le {a b : Int} (hb : 0 < b) : gI a b ≤ b := by
  have h := Nat.gcd_le_right a.natAbs (show 0 < b.natAbs by omega)
  show ((Nat.gcd a.natAbs b.natAbs : Nat) : Int) ≤ b
  omega
theorem c_lowest (G : Glb mg) (D : DefAt K mg "lowest" s_lowest ["top", "bottom"]) (c_great_divisor : Callee P w K mg base CX0 1 "great_divisor" ["one", "other"] spGcd) : Callee P w K mg base CX0 2 "lowest" ["top", "bottom"] spLowest := by
  refine D.ok fun f fd F => F.ok sc_lowest (fun vs H Q E h => ?_) (fun cdv A outer s H vs Q E hr h => ?_)
  · obtain ⟨a, b, rfl, _⟩ := h
    rfl
  · obtain ⟨a, b, rfl, ha, hb, hz, q⟩ := h
    have hg := gI_pos (t := a) hb
    have hgz : (gI a b).natAbs < 2 ^ 8000 := wide_le (Int.le_of_lt hg) (gI_le hb) hz
    refine ⟨_, (pss_cons (ps_set (i := 2) sc_lowest.nd rfl (Or.inl rfl) (pe_fn c_great_divisor hr rfl (pa_cons (pv 0) (pa_cons (pv 1) pa_nil))))
    (pss_one (ps_ret (pe_tup (pa_cons (pe_op op_fdivW (pv 0) (pv 2)) (pa_cons (pe_op op_fdivW (pv 1) (pv 2)) pa_nil)))))), ?_⟩
    walk_at "vc"
    refine ⟨a, b, rfl, ha, Int.le_of_lt hb, ?_⟩
    walk_at "vc"
    refine ⟨wide_div hg hgz (by decide) (by decide), wide_div hg hgz (by decide) (by decide), fun p np => ?_⟩
    have e1 := lo_num (t := a) hb
    have e2 := lo_den (t := a) hb
    rw [e1, e2]
    exact q p np
/-! ### is_share -/
abbrev s_is_share : Stmt := topS 10
theorem sc_is_share : FnScope ["value", "one"] ["value"] (defScope s_is_share) := ⟨rfl, rfl, rfl, by decide +kernel, rfl, by decide +kernel, by decide +kernel⟩
def spIsShare (K : PySem.W.Frag) : Sp := fun vs H Q _ => ∃ (t : Addr) (a b : Int), vs = [.ref t] ∧ SqT K H t [.int a, .int b] ∧ 0 < a ∧ 0 < b ∧ ∀ H', Same H H' → Q (.bl (decide (a ≤ b) && decide (gI a b = 1))) H'
theorem c_is_share (G : Glb mg) (D : DefAt K mg "is_share" s_is_share ["value"]) (c_is_integer : Callee P w K mg base CX0 1 "is_integer" ["value"] spIsInt) (c_great_divisor : Callee P w K mg base CX0 1 "great_divisor" ["one", "other"] spGcd) : Callee P w K mg base CX0 2 "is_share" ["value"] (spIsShare K) := by
  refine D.ok fun f fd F => F.ok sc_is_share (fun vs H Q E h => ?_) (fun cdv A outer s H vs Q E hr h => ?_)
  · obtain ⟨t, a, b, rfl, _⟩ := h
    rfl
  · obtain ⟨t, a, b, rfl, hT, ha, hb, q⟩ := h
    refine ⟨_, (pss_cons (ps_if (PW.pt (pw_or (pt_not (pt_val (pe_callB call_isi (by rfl) G.m_isinstance (by decide +kernel) (pa_cons (pv 0) (pa_cons (pe_bltn (v := .ty "tuple") (by rfl) G.m_tuple (by decide +kernel) rfl) pa_nil))))) (pw_or (pt_cmpR op_ne (pe_callB call_len_seq (by rfl) G.m_len PySem.boot_len (pa_cons (pv 0) pa_nil)) pe_int (nomark _)) (pw_or1 (pt_not (pt_val (pe_callB (cr_all rfl) (by rfl) G.m_all (by decide +kernel) (pa_cons (pe_lc (own := [("one", 1)]) (g := gName 1) (by rfl) sc_is_share.nd (pi_tup (pv 0)) (blkOk_by (own := [("one", 1)]) (N := ["value", "one"]) (sc := defScope s_is_share) (by decide +kernel)) (fun _ _ _ _ _ => (pg_name (i := 1) sc_is_share.nd rfl (Or.inl rfl))) (fun _ _ _ _ _ => pts_nil) (fun _ _ _ _ _ => (pe_fn c_is_integer hr rfl (pa_cons (pv 1) pa_nil)))) pa_nil)))))))) (pss_one (ps_ret pe_bl)) pss_nil)
    (pss_one (ps_ret (pe_and (pe_chain op_lt op_le pe_int (pe_ix ix_tup (pv 0) pe_int (fun _ _ => rfl)) (pe_ix ix_tup (pv 0) pe_int (fun _ _ => rfl))) (pe_one (pe_cmpR op_eq (pe_fn c_great_divisor hr rfl (pa_cons (pe_ix ix_tup (pv 0) pe_int (fun _ _ => rfl)) (pa_cons (pe_ix ix_tup (pv 0) pe_int (fun _ _ => rfl)) pa_nil))) pe_int (nomark _))))))), ?_⟩
    walk_at "vc"
    refine isi1 (.tup hT) (b := true) rfl ?_
    walk_at "vc"
    refine ⟨t, _, rfl, .inr hT, ?_⟩
    refine iteT' rfl ?_
    refine lcW (J := Itt K t) (H1 := H) (fun R h => ⟨_, rfl, t, rfl, ⟨_, hT⟩, h⟩) (walkT (xs := [.int a, .int b])) (fun _ => .bl true) (fun H' s' => s'.seqT hT) vq_sz2 (fun _ => rfl) (fun i H' R hi s' hR => ?_) fun D H' s' nD eD => ?_
    · have : i = 0 ∨ i = 1 := by
        have : i < 2 := hi
        omega
      rcases this with rfl | rfl
      · exact ⟨_, rfl, a, rfl, hR _ (Same.refl _)⟩
      · exact ⟨_, rfl, b, rfl, hR _ (Same.refl _)⟩
    have hT' := s'.seqT hT
    refine ⟨D, [true, true], rfl, .inl (.inl eD), ?_⟩
    walk_at "vc"
    refine iteF' (by decide) ?_
    refine ixT hT' rfl ?_
    walk_at "vc"
    refine iteT' ha ?_
    refine ixT hT' rfl ?_
    walk_at "vc"
    by_cases h : a ≤ b
    · refine iteT' h ?_
      refine ixT hT' rfl (ixT hT' rfl ⟨a, b, rfl, Int.le_of_lt ha, Int.le_of_lt hb, ?_⟩)
      walk_at "vc"
      have q' := q H' s'
      rw [decide_eq_true h, Bool.true_and] at q'
      exact q'
    · refine iteF' h ?_
      have q' := q H' s'
      rw [decide_eq_false h, Bool.false_and] at q'
      exact q'
end
end K0
set_option Elab.async false
set_option linter.all false
set_option maxRecDepth 100000
set_option maxHeartbeats 4400000
set_option exponentiation.threshold 20000
namespace K0
open PySem PySem.Spec PyProof.Rows L2
local macro_rules | `(tactic| walk_at "vc") => `(tactic| try simp only [vq_st1_1, vq_st1_2, vq_st1_3, vq_st1_4, vq_st1_5, vq_st1_6, vq_st1_7, vq_st1_8, vq_st1_9, vq_st1_10, vq_st1_11, vq_st1_12, vq_st1_13, vq_st1_14, vq_st1_15, vq_st1_16, vq_st1_17, vq_st2_2, vq_st2_3, vq_st2_4, vq_st2_5, vq_st2_6, vq_st2_7, vq_st2_8, vq_st2_9, vq_st2_10, vq_st2_11, vq_st2_12, vq_st2_13, vq_st2_14, vq_st2_15, vq_st2_16, vq_st2_17, vq_st2_18, vq_st3_3, vq_st3_4, vq_st3_5, vq_st3_6, vq_st3_7, vq_st3_8, vq_st3_9, vq_st3_10, vq_st3_11, vq_st3_12, vq_st3_13, vq_st3_14, vq_st3_15, vq_st3_16, vq_st3_17, vq_st3_18, vq_st3_19, vq_st4_4, vq_st4_5, vq_st4_6, vq_st4_7, vq_st4_8, vq_st4_9, vq_st4_10, vq_st4_11, vq_st4_12, vq_st4_13, vq_st4_14, vq_st4_15, vq_st4_16, vq_st4_17, vq_st4_18, vq_st4_19, vq_st4_20, vq_cK, vq_cKn, vq_var, vq_c, vq_op, vq_un, vq_I, vq_I0, vq_U, vq_eqI, vq_neI, vq_neB, vq_nil, vq_cons, vq_call, vq_CB, vq_bl, vq_B, vq_test, vq_and, vq_or, vq_not, vq_andV, vq_orV, vq_notV, vq_if, vq_ifS, vq_chain, vq_seq, vq_next, vq_ret, vq_retN, vq_drop, vq_asg, vq_par, vq_par2, vq_aug, vq_some, vq_name, vq_gnil, vq_tup, vq_lst, vq_sz0, vq_sz1, vq_sz2, vq_sz3, vq_sz4, vq_tru, vq_BM, vq_BM0, vq_sl, vq_ite_t, vq_ite_f, vq_ite_d, vq_ite_n, List.getElem?_cons_zero, List.getElem?_cons_succ, List.set_cons_zero, List.set_cons_succ, vq_app, vq_yes, vq_wn, vq_wc, vq_o1, vq_o2, vq_o3, vq_intI, vq_gsub, reduceIte, Bool.false_eq_true, Bool.not_true, Bool.not_false])
/-- v is a pair of numbers in H, of r -/
def shV (K : PySem.W.Frag) (H : Hp) (v : V) (r : Rat) : Prop := ∃ t, v = .ref t ∧ SqT K H t [.int r.num, .int (r.den : Int)]
theorem shV.same {K : PySem.W.Frag} {H H' : Hp} {v : V} {r : Rat} (h : shV K H v r) (s : Same H H') : shV K H' v r := by
  obtain ⟨t, e, h⟩ := h
  exact ⟨t, e, s.seqT h⟩
theorem shs_same {K : PySem.W.Frag} {H H' : Hp} {xs : List V} {rs : List Rat} (h : Paired (shV K H) xs rs) (s : Same H H') : Paired (shV K H') xs rs := Paired.mono (fun _ _ x => x.same s) h
theorem add_lo (r s : Rat) : Rat.divInt (r.num * s.den + s.num * r.den) ((r.den : Int) * (s.den : Int)) = r + s := by
  rw [Rat.add_def', ← Int.natCast_mul, Rat.divInt_ofNat]
theorem sub_lo (r s : Rat) : Rat.divInt (r.num * s.den - s.num * r.den) ((r.den : Int) * (s.den : Int)) = r - s := by
  rw [Rat.sub_def', ← Int.natCast_mul, Rat.divInt_ofNat]
theorem red_gI (r : Rat) : gI r.num (r.den : Int) = 1 := by
  have h := r.reduced
  show ((Nat.gcd r.num.natAbs (r.den : Int).natAbs : Nat) : Int) = 1
  rw [Int.natAbs_natCast]
  exact congrArg Int.ofNat h
theorem den_pos' (r : Rat) : (0 : Int) < (r.den : Int) := by
  have := r.den_pos
  omega
theorem num_le {r : Rat} {n : Nat} (h : r ≤ (n : Rat)) : r.num ≤ n * (r.den : Int) := by
  rw [Rat.le_iff] at h
  simpa using h
/-- what is small enough to be reckoned with -/
structure Fit (D : Nat) (r : Rat) : Prop where
  nn : 0 ≤ r
  le : r ≤ (4000 : Nat)
  dv : Dv D r
theorem Fit.den {D : Nat} {r : Rat} (h0 : D ≠ 0) (hD : D < 2 ^ 1000) (h : Fit D r) : (r.den : Int).natAbs < 2 ^ 1000 := by
  have := h.dv.den h0
  rw [Int.natAbs_natCast]
  omega
theorem Fit.num {D : Nat} {r : Rat} (h0 : D ≠ 0) (hD : D < 2 ^ 1000) (h : Fit D r) : r.num.natAbs < 2 ^ 1012 := by
  have h1 := num_le h.le
  have h2 := Rat.num_nonneg.mpr h.nn
  have h3 := h.dv.den h0
  have h4 : ((4000 : Nat) : Int) * (r.den : Int) ≤ 4000 * 2 ^ 1000 := by omega
  have h5 : r.num ≤ 4000 * 2 ^ 1000 := Int.le_trans h1 h4
  have h6 : (2 : Nat) ^ 1012 = 2 ^ 12 * 2 ^ 1000 := by rw [← Nat.pow_add]
  rw [h6]
  omega
theorem Sh.fit {D : Nat} {r : Rat} (h : Sh r) (dv : Dv D r) : Fit D r := ⟨Rat.le_of_lt h.1, Rat.le_trans h.2 (by decide +kernel), dv⟩
theorem rsum_fit {D : Nat} (h0 : D ≠ 0) {rs : List Rat} (hs : ∀ r ∈ rs, Sh r ∧ Dv D r) (hl : rs.length ≤ 4000) : Fit D (rsum 0 rs) :=
  ⟨rsum_nonneg fun r hr => (hs r hr).1, Rat.le_trans (rsum_le fun r hr => (hs r hr).1) (Rat.natCast_le_natCast.mpr hl), rsum_Dv h0 fun r hr => (hs r hr).2⟩
section
variable {P : Program} {w : World} {K : PySem.W.Frag} {mg : Str → Option Value} {base : Heap}
def spIsShareR (K : PySem.W.Frag) : Sp := fun vs H Q _ => ∃ v r, vs = [v] ∧ shV K H v r ∧ Sh r ∧ ∀ H', Same H H' → Q (.bl true) H'
theorem is_share_r {CX : CXT} {k : Nat} (C : Callee P w K mg base CX k "is_share" ["value"] (spIsShare K)) : Callee P w K mg base CX k "is_share" ["value"] (spIsShareR K) := by
  refine C.imp fun vs H Q E h => ?_
  obtain ⟨v, r, rfl, ⟨t, rfl, hT⟩, hs, q⟩ := h
  have hn := hs.num
  refine ⟨t, _, _, rfl, hT, hn.1, den_pos' r, fun H' s' => ?_⟩
  rw [decide_eq_true hn.2, red_gI, decide_eq_true rfl]
  exact q H' s'
/-! ### checked_share -/
abbrev s_checked_share : Stmt := topS 11
theorem sc_checked_share : FnScope ["value", "at"] ["value", "at"] (defScope s_checked_share) := ⟨rfl, rfl, rfl, by decide +kernel, rfl, by decide +kernel, by decide +kernel⟩
def spChecked (K : PySem.W.Frag) : Sp := fun vs H Q _ => ∃ v r z, vs = [v, z] ∧ shV K H v r ∧ Sh r ∧ ∀ H', Same H H' → Q .non H'
theorem c_checked_share (G : Glb mg) (D : DefAt K mg "checked_share" s_checked_share ["value", "at"]) (c_is_share : Callee P w K mg base CX0 2 "is_share" ["value"] (spIsShareR K)) : Callee P w K mg base CX0 3 "checked_share" ["value", "at"] (spChecked K) := by
  refine D.ok fun f fd F => F.ok sc_checked_share (fun vs H Q E h => ?_) (fun cdv A outer s H vs Q E hr h => ?_)
  · obtain ⟨v, r, z, rfl, _⟩ := h
    rfl
  · obtain ⟨v, r, z, rfl, hV, hS, q⟩ := h
    refine ⟨_, (pss_one (ps_if (pt_not (pt_val (pe_fn c_is_share hr rfl (pa_cons (pv 0) pa_nil)))) (pss_one ps_never) pss_nil)), ?_⟩
    walk_at "vc"
    refine ⟨v, r, rfl, hV, hS, fun H' s' => ?_⟩
    walk_at "vc"
    exact q H' s'
/-! ### sum_of -/
abbrev s_sum_of : Stmt := topS 14
theorem sc_sum_of : FnScope ["shares", "top", "bottom", "one"] ["shares"] (defScope s_sum_of) := ⟨rfl, rfl, rfl, by decide +kernel, rfl, by decide +kernel, by decide +kernel⟩
def spSumOf (K : PySem.W.Frag) : Sp := fun vs H Q _ => ∃ (a : Addr) (xs : List V) (rs : List Rat) (D : Nat), vs = [.ref a] ∧ (SqL K H a xs ∨ SqT K H a xs) ∧ Paired (shV K H) xs rs ∧ (∀ r ∈ rs, Sh r ∧ Dv D r) ∧ D ≠ 0 ∧ D < 2 ^ 1000 ∧ rs.length ≤ 2000 ∧
  ∀ H' p, Same H H' → H p = none → H' p = some (pr (rsum 0 rs)) → Q (.ref p) H'
theorem rsum_take {rs : List Rat} {i : Nat} {r : Rat} (h : rs[i]? = some r) : rsum 0 (rs.take (i + 1)) = rsum 0 (rs.take i) + r := by
  rw [List.take_add_one, h, rsum_append]
  congr 1
  show rsum (0 + r) [] = r
  exact Rat.zero_add r
theorem c_sum_of (G : Glb mg) (D : DefAt K mg "sum_of" s_sum_of ["shares"]) (c_lowest : Callee P w K mg base CX0 2 "lowest" ["top", "bottom"] spLowest) : Callee P w K mg base CX0 3 "sum_of" ["shares"] (spSumOf K) := by
  refine D.ok fun f fd F => F.ok sc_sum_of (fun vs H Q E h => ?_) (fun cdv A outer s H vs Q E hr h => ?_)
  · obtain ⟨a, xs, rs, D, rfl, _⟩ := h
    rfl
  · obtain ⟨a, xs, rs, D, rfl, hA, hP, hR, h0, hD, hl, q⟩ := h
    refine ⟨_, (pss_cons (ps_asg (pe_tup (pa_cons pe_int (pa_cons pe_int pa_nil))) (pg_tup rfl (pgs_cons (pg_name (i := 1) sc_sum_of.nd rfl (Or.inl rfl)) (pgs_cons (pg_name (i := 2) sc_sum_of.nd rfl (Or.inl rfl)) pgs_nil))))
    (pss_cons (ps_for PassesOwn.never rfl (pi_seq (pv 0)) (pg_name (i := 3) sc_sum_of.nd rfl (Or.inl rfl)) (pss_one (ps_asg (pe_fn c_lowest hr rfl (pa_cons (pe_op op_add (pe_op op_mulW (pv 1) (pe_ix ix_tup (pv 3) pe_int (fun _ _ => rfl))) (pe_op op_mulW (pe_ix ix_tup (pv 3) pe_int (fun _ _ => rfl)) (pv 2))) (pa_cons (pe_op op_mulW (pv 2) (pe_ix ix_tup (pv 3) pe_int (fun _ _ => rfl))) pa_nil))) (pg_tup rfl (pgs_cons (pg_name (i := 1) sc_sum_of.nd rfl (Or.inl rfl)) (pgs_cons (pg_name (i := 2) sc_sum_of.nd rfl (Or.inl rfl)) pgs_nil))))))
    (pss_one (ps_ret (pe_tup (pa_cons (pv 1) (pa_cons (pv 2) pa_nil))))))), ?_⟩
    walk_at "vc"
    intro p0 n0
    refine gt2 (isT upd_same) ?_
    walk_at "vc"
    have s0 : Same H (upd H p0 (.tup [.int 0, .int 1])) := same_new n0
    have hlen : xs.length = rs.length := hP.length
    refine for_seq rfl (hA.imp s0.seq s0.seqT) (fun i σ H' => Same H H' ∧ Same (upd H p0 (.tup [.int 0, .int 1])) H' ∧ ∃ y, σ = [some (.ref a), some (.int (rsum 0 (rs.take i)).num), some (.int ((rsum 0 (rs.take i)).den : Int)), y]) ⟨s0, Same.refl _, none, rfl⟩ (fun i σ H' _ h => h.2.1) (fun i x σ H' hx hP' => ?_) (fun σ H' hP' => ?_)
    · obtain ⟨s1, s2, y, rfl⟩ := hP'
      obtain ⟨hlt, _⟩ := List.getElem?_eq_some_iff.mp hx
      obtain ⟨x', r, e1, e2, t, rfl, hT⟩ := paired_at (shs_same hP s1) i hlt
      obtain rfl : x = .ref t := Option.some.inj (hx.symm.trans e1)
      have hr' := hR r (List.mem_of_getElem? e2)
      have fr := hr'.1.fit hr'.2
      have fs := rsum_fit h0 (rs := rs.take i) (fun r hr => hR r (List.mem_of_mem_take hr)) (by rw [List.length_take]; omega)
      have e := rsum_take e2
      walk_at "vc"
      refine ixT hT rfl ?_
      walk_at "vc"
      refine ⟨wide_mul (fs.num h0 hD) (fr.den h0 hD) (by decide) (by decide) (by decide), ?_⟩
      refine ixT hT rfl ?_
      walk_at "vc"
      refine ⟨wide_mul (fr.num h0 hD) (fs.den h0 hD) (by decide) (by decide) (by decide), ?_⟩
      refine ixT hT rfl ?_
      walk_at "vc"
      refine ⟨wide_mul (fs.den h0 hD) (fr.den h0 hD) (by decide) (by decide) (by decide), ?_⟩
      refine ⟨_, _, rfl, ?_, Int.mul_pos (den_pos' _) (den_pos' _), Nat.lt_trans (wide_lt (fs.den h0 hD) (fr.den h0 hD)) (by decide +kernel), fun p np => ?_⟩
      · have a1 := Int.mul_nonneg (Rat.num_nonneg.mpr fs.nn) (Int.le_of_lt (den_pos' r))
        have a2 := Int.mul_nonneg (Rat.num_nonneg.mpr fr.nn) (Int.le_of_lt (den_pos' (rsum 0 (rs.take i))))
        omega
      · refine gt2 (isT upd_same) ?_
        have s3 : Same H' (upd H' p (pr (Rat.divInt ((rsum 0 (rs.take i)).num * (r.den : Int) + r.num * ((rsum 0 (rs.take i)).den : Int)) (((rsum 0 (rs.take i)).den : Int) * (r.den : Int))))) := same_new np
        refine ⟨s1.trans s3, s2.trans s3, some (.ref t), ?_⟩
        rw [add_lo, ← e]
        rfl
    · obtain ⟨s1, s2, y, rfl⟩ := hP'
      walk_at "vc"
      intro p np
      have e : rs.take xs.length = rs := by rw [hlen]; exact List.take_length
      rw [e]
      exact q _ p (s1.trans (same_new np)) (s1.free np) upd_same
end
end K0
set_option Elab.async false
set_option linter.all false
set_option maxRecDepth 100000
set_option maxHeartbeats 4400000
set_option exponentiation.threshold 20000
namespace K0
open PySem PySem.Spec PyProof.Rows L2
local macro_rules | `(tactic| walk_at "vc") => `(tactic| try simp only [vq_st1_1, vq_st1_2, vq_st1_3, vq_st1_4, vq_st1_5, vq_st1_6, vq_st1_7, vq_st1_8, vq_st1_9, vq_st1_10, vq_st1_11, vq_st1_12, vq_st1_13, vq_st1_14, vq_st1_15, vq_st1_16, vq_st1_17, vq_st2_2, vq_st2_3, vq_st2_4, vq_st2_5, vq_st2_6, vq_st2_7, vq_st2_8, vq_st2_9, vq_st2_10, vq_st2_11, vq_st2_12, vq_st2_13, vq_st2_14, vq_st2_15, vq_st2_16, vq_st2_17, vq_st2_18, vq_st3_3, vq_st3_4, vq_st3_5, vq_st3_6, vq_st3_7, vq_st3_8, vq_st3_9, vq_st3_10, vq_st3_11, vq_st3_12, vq_st3_13, vq_st3_14, vq_st3_15, vq_st3_16, vq_st3_17, vq_st3_18, vq_st3_19, vq_st4_4, vq_st4_5, vq_st4_6, vq_st4_7, vq_st4_8, vq_st4_9, vq_st4_10, vq_st4_11, vq_st4_12, vq_st4_13, vq_st4_14, vq_st4_15, vq_st4_16, vq_st4_17, vq_st4_18, vq_st4_19, vq_st4_20, vq_cK, vq_cKn, vq_var, vq_c, vq_op, vq_un, vq_I, vq_I0, vq_U, vq_eqI, vq_neI, vq_neB, vq_nil, vq_cons, vq_call, vq_CB, vq_bl, vq_B, vq_test, vq_and, vq_or, vq_not, vq_andV, vq_orV, vq_notV, vq_if, vq_ifS, vq_chain, vq_seq, vq_next, vq_ret, vq_retN, vq_drop, vq_asg, vq_par, vq_par2, vq_aug, vq_some, vq_name, vq_gnil, vq_tup, vq_lst, vq_sz0, vq_sz1, vq_sz2, vq_sz3, vq_sz4, vq_tru, vq_BM, vq_BM0, vq_sl, vq_ite_t, vq_ite_f, vq_ite_d, vq_ite_n, List.getElem?_cons_zero, List.getElem?_cons_succ, List.set_cons_zero, List.set_cons_succ, vq_app, vq_yes, vq_wn, vq_wc, vq_o1, vq_o2, vq_o3, vq_intI, vq_gsub, reduceIte, Bool.false_eq_true, Bool.not_true, Bool.not_false])
section
variable {P : Program} {w : World} {K : PySem.W.Frag} {mg : Str → Option Value} {base : Heap}
/-! ### is_sequence of a list or a tuple -/
abbrev s_is_sequence : Stmt := topS 6
theorem sc_is_sequence : FnScope ["value"] ["value"] (defScope s_is_sequence) := ⟨rfl, rfl, rfl, by decide +kernel, rfl, by decide +kernel, by decide +kernel⟩
def spIsSeq (K : PySem.W.Frag) : Sp := fun vs H Q _ => ∃ a xs, vs = [.ref a] ∧ (SqL K H a xs ∨ SqT K H a xs) ∧ ∀ H', Same H H' → Q (.bl true) H'
theorem c_is_sequence (G : Glb mg) (D : DefAt K mg "is_sequence" s_is_sequence ["value"]) : Callee P w K mg base CX0 1 "is_sequence" ["value"] (spIsSeq K) := by
  refine D.ok fun f fd F => F.ok sc_is_sequence (fun vs H Q E h => ?_) (fun cdv A outer s H vs Q E hr h => ?_)
  · obtain ⟨a, xs, rfl, _⟩ := h
    rfl
  · obtain ⟨a, xs, rfl, hA, q⟩ := h
    refine ⟨_, (pss_one (ps_ret (pe_callB call_isiT (by rfl) G.m_isinstance (by decide +kernel) (pa_cons (pv 0) (pa_cons (pe_tup (pa_cons (pe_bltn (v := .ty "list") (by rfl) G.m_list (by decide +kernel) rfl) (pa_cons (pe_bltn (v := .ty "tuple") (by rfl) G.m_tuple (by decide +kernel) rfl) pa_nil))) pa_nil))))), ?_⟩
    walk_at "vc"
    intro p np
    have s' : Same H (upd H p (.tup [.ty "list", .ty "tuple"])) := same_new np
    rcases hA with hA | hA
    · exact isi2 (.lst (s'.seq hA)) upd_same (by first | rfl | decide +kernel) (q _ s')
    · exact isi2 (.tup (s'.seqT hA)) upd_same (by first | rfl | decide +kernel) (q _ s')
/-- all([is_share(one) for one in shares]) -/
theorem all_shares {H : Hp} {Q : VK} {k : Nat} {vs : List Nat} {σ : L2.St} {te : TE} {a : Addr} {xs : List V} {rs : List Rat} {j : Nat} (hσ : σ[j]? = some (some (.ref a))) (hA : SqL K H a xs ∨ SqT K H a xs) (hP : Paired (shV K H) xs rs) (hR : ∀ r ∈ rs, Sh r) (hl : rs.length ≤ 2000)
    (hw : ∀ x, wipe ((wipe σ vs).set k (some x)) vs = wipe σ vs)
    (hte : ∀ v H' R, spIsShareR K [v] H' R E0 → te ((wipe σ vs).set k (some v)) H' R)
    (q : ∀ H', Same H H' → Q (.bl true) H') : tLc (iSeq K (tVar j)) (gName k) tYes te vs σ H fun x H1 => rAll K [x] H1 Q := by
  have hlen : xs.length = rs.length := hP.length
  have fin : ∀ D H', Same H H' → H D = none → H' D = some (.lst ((List.range xs.length).map fun _ => V.bl true)) → rAll K [.ref D] H' Q := fun D H' s' _ e => by
    refine ⟨D, List.replicate xs.length true, rfl, isL ?_, ?_⟩
    · rw [e, List.map_const', List.length_range, List.map_replicate]
    · have : (List.replicate xs.length true).all id = true := by simp
      rw [this]
      exact q _ s'
  have step : ∀ i H' (R : VK), i < xs.length → Same H H' → (∀ H2, Same H' H2 → R (.bl true) H2) → te ((wipe σ vs).set k (some (xs.getD i .non))) H' R := fun i H' R hi s' hR2 => by
    obtain ⟨v, r, e1, e2, hv⟩ := paired_at (shs_same hP s') i hi
    have ev : xs.getD i .non = v := by rw [List.getD_eq_getElem?_getD, e1]; rfl
    rw [ev]
    exact hte v H' R ⟨v, r, rfl, hv, hR r (List.mem_of_getElem? e2), hR2⟩
  have hz : xs.length ≤ sizeLine := by rw [sizeLine_eq]; omega
  rcases hA with hA | hA
  · exact lcW (J := Itl K a) (H1 := H) (fun R h => .inl ⟨_, hσ, a, rfl, ⟨_, hA⟩, h⟩) (walkL (xs := xs)) (fun _ => .bl true) (fun H' s' => s'.seq hA) hz hw step fin
  · exact lcW (J := Itt K a) (H1 := H) (fun R h => .inr ⟨_, hσ, a, rfl, ⟨_, hA⟩, h⟩) (walkT (xs := xs)) (fun _ => .bl true) (fun H' s' => s'.seqT hA) hz hw step fin
/-! ### is_whole -/
abbrev s_is_whole : Stmt := topS 17
theorem sc_is_whole : FnScope ["value"] ["value"] (defScope s_is_whole) := ⟨rfl, rfl, rfl, by decide +kernel, rfl, by decide +kernel, by decide +kernel⟩
def spIsWhole (K : PySem.W.Frag) : Sp := fun vs H Q _ => ∃ v r, vs = [v] ∧ shV K H v r ∧ Sh r ∧ ∀ H', Same H H' → Q (.bl (decide (r = 1))) H'
theorem one_iff {r : Rat} : r.num = (r.den : Int) ↔ r = 1 := by
  constructor
  · intro h
    have h1 := r.reduced
    rw [h] at h1
    have h2 : r.den = 1 := by
      have : (r.den : Int).natAbs = r.den := Int.natAbs_natCast _
      rw [this] at h1
      unfold Nat.Coprime at h1
      rw [Nat.gcd_self] at h1
      exact h1
    exact Rat.ext (by rw [h, h2]; rfl) (by rw [h2]; rfl)
  · rintro rfl
    rfl
theorem c_is_whole (G : Glb mg) (D : DefAt K mg "is_whole" s_is_whole ["value"]) (c_is_share : Callee P w K mg base CX0 2 "is_share" ["value"] (spIsShareR K)) : Callee P w K mg base CX0 3 "is_whole" ["value"] (spIsWhole K) := by
  refine D.ok fun f fd F => F.ok sc_is_whole (fun vs H Q E h => ?_) (fun cdv A outer s H vs Q E hr h => ?_)
  · obtain ⟨v, r, rfl, _⟩ := h
    rfl
  · obtain ⟨v, r, rfl, hV, hS, q⟩ := h
    refine ⟨_, (pss_one (ps_ret (pe_and (pe_fn c_is_share hr rfl (pa_cons (pv 0) pa_nil)) (pe_one (pe_cmpR op_eq (pe_ix ix_tup (pv 0) pe_int (fun _ _ => rfl)) (pe_ix ix_tup (pv 0) pe_int (fun _ _ => rfl)) (nomark _)))))), ?_⟩
    walk_at "vc"
    refine ⟨v, r, rfl, hV, hS, fun H' s' => ?_⟩
    obtain ⟨t, rfl, hT⟩ := hV.same s'
    walk_at "vc"
    refine ixT hT rfl ?_
    walk_at "vc"
    refine ixT hT rfl ?_
    walk_at "vc"
    have e : decide (r.num = (r.den : Int)) = decide (r = 1) := by
      by_cases h : r = 1
      · rw [decide_eq_true h, decide_eq_true (one_iff.mpr h)]
      · rw [decide_eq_false h, decide_eq_false (fun z => h (one_iff.mp z))]
    rw [e]
    exact q H' s'
/-! ### checked_shares, joined_shares: of shares that come to the whole at most -/
abbrev s_checked_shares : Stmt := topS 15
theorem sc_checked_shares : FnScope ["shares", "one", "top", "bottom"] ["shares"] (defScope s_checked_shares) := ⟨rfl, rfl, rfl, by decide +kernel, rfl, by decide +kernel, by decide +kernel⟩
def spCheckedShares (K : PySem.W.Frag) (res : (Rat → VK → Hp → Prop)) : Sp := fun vs H Q _ => ∃ (a : Addr) (xs : List V) (rs : List Rat) (D : Nat), vs = [.ref a] ∧ (SqL K H a xs ∨ SqT K H a xs) ∧ Paired (shV K H) xs rs ∧ (∀ r ∈ rs, Sh r ∧ Dv D r) ∧ D ≠ 0 ∧ D < 2 ^ 1000 ∧ 1 ≤ rs.length ∧ rs.length ≤ 1000 ∧ rsum 0 rs ≤ 1 ∧
  res (rsum 0 rs) Q H
def resNon : Rat → VK → Hp → Prop := fun _ Q H => ∀ H', Same H H' → Q .non H'
def resPr : Rat → VK → Hp → Prop := fun r Q H => ∀ H' p, Same H H' → H p = none → H' p = some (pr r) → Q (.ref p) H'
theorem num_le_den {r : Rat} (h : r ≤ 1) : r.num ≤ (r.den : Int) := by
  rw [Rat.le_iff] at h
  simpa using h
theorem c_checked_shares (G : Glb mg) (D : DefAt K mg "checked_shares" s_checked_shares ["shares"]) (c_is_sequence : Callee P w K mg base CX0 1 "is_sequence" ["value"] (spIsSeq K)) (c_is_share : Callee P w K mg base CX0 2 "is_share" ["value"] (spIsShareR K)) (c_sum_of : Callee P w K mg base CX0 3 "sum_of" ["shares"] (spSumOf K)) :
    Callee P w K mg base CX0 4 "checked_shares" ["shares"] (spCheckedShares K resNon) := by
  obtain ⟨tMP, g_MOST_PARTS⟩ := G.g_MOST_PARTS
  refine D.ok fun f fd F => F.ok sc_checked_shares (fun vs H Q E h => ?_) (fun cdv A outer s H vs Q E hr h => ?_)
  · obtain ⟨a, xs, rs, D, rfl, _⟩ := h
    rfl
  · obtain ⟨a, xs, rs, D, rfl, hA, hP, hR, h0, hD, hl1, hl, hle, q⟩ := h
    refine ⟨_, (pss_cons (ps_if (PW.pt (pw_or (pt_not (pt_val (pe_fn c_is_sequence hr rfl (pa_cons (pv 0) pa_nil)))) (pw_or (pt_not (pt_chain op_le op_le pe_int (pe_callB call_len_seq (by rfl) G.m_len PySem.boot_len (pa_cons (pv 0) pa_nil)) (pe_glob (v := .int 1000) rfl g_MOST_PARTS ⟨_, rfl⟩))) (pw_or1 (pt_not (pt_val (pe_callB (cr_all rfl) (by rfl) G.m_all (by decide +kernel) (pa_cons (pe_lc (own := [("one", 1)]) (g := gName 1) (by rfl) sc_checked_shares.nd (pi_seq (pv 0)) (blkOk_by (own := [("one", 1)]) (N := ["shares", "one", "top", "bottom"]) (sc := defScope s_checked_shares) (by decide +kernel)) (fun _ _ _ _ _ => (pg_name (i := 1) sc_checked_shares.nd rfl (Or.inl rfl))) (fun _ _ _ _ _ => pts_nil) (fun _ _ _ _ _ => (pe_fn c_is_share hr rfl (pa_cons (pv 1) pa_nil)))) pa_nil)))))))) (pss_one ps_never) pss_nil)
    (pss_cons (ps_asg (pe_fn c_sum_of hr rfl (pa_cons (pv 0) pa_nil)) (pg_tup rfl (pgs_cons (pg_name (i := 2) sc_checked_shares.nd rfl (Or.inl rfl)) (pgs_cons (pg_name (i := 3) sc_checked_shares.nd rfl (Or.inl rfl)) pgs_nil))))
    (pss_one (ps_if (pt_cmpR op_gt (pv 2) (pv 3) (nomark _)) (pss_one ps_never) pss_nil)))), ?_⟩
    walk_at "vc"
    refine ⟨a, xs, rfl, hA, fun H1 s1 => ?_⟩
    walk_at "vc"
    have hA1 := hA.imp s1.seq s1.seqT
    have hlen : xs.length = rs.length := hP.length
    refine ⟨a, xs, rfl, hA1, ?_⟩
    walk_at "vc"
    refine iteT' (by omega) (iteT' (by omega) ?_)
    refine all_shares rfl hA1 (shs_same hP s1) (fun r hr => (hR r hr).1) (by omega) (by intro _; rfl) (fun v H' R h => ?_) fun H2 s2 => ?_
    · exact ⟨v, rfl, h⟩
    walk_at "vc"
    have s12 := s1.trans s2
    refine ⟨a, xs, rs, D, rfl, hA.imp s12.seq s12.seqT, shs_same hP s12, hR, h0, hD, by omega, fun H3 p s3 np ep => ?_⟩
    refine gt2 (isT ep) ?_
    walk_at "vc"
    refine iteF' (fun z => ?_) ?_
    · have := num_le_den hle
      omega
    exact q _ (s12.trans s3)
abbrev s_joined_shares : Stmt := topS 16
theorem sc_joined_shares : FnScope ["shares"] ["shares"] (defScope s_joined_shares) := ⟨rfl, rfl, rfl, by decide +kernel, rfl, by decide +kernel, by decide +kernel⟩
theorem c_joined_shares (G : Glb mg) (D : DefAt K mg "joined_shares" s_joined_shares ["shares"]) (c_checked_shares : Callee P w K mg base CX0 4 "checked_shares" ["shares"] (spCheckedShares K resNon)) (c_sum_of : Callee P w K mg base CX0 3 "sum_of" ["shares"] (spSumOf K)) :
    Callee P w K mg base CX0 5 "joined_shares" ["shares"] (spCheckedShares K resPr) := by
  refine D.ok fun f fd F => F.ok sc_joined_shares (fun vs H Q E h => ?_) (fun cdv A outer s H vs Q E hr h => ?_)
  · obtain ⟨a, xs, rs, D, rfl, _⟩ := h
    rfl
  · obtain ⟨a, xs, rs, D, rfl, hA, hP, hR, h0, hD, hl1, hl, hle, q⟩ := h
    refine ⟨_, (pss_cons (ps_expr (pe_fn c_checked_shares hr rfl (pa_cons (pv 0) pa_nil)))
    (pss_one (ps_ret (pe_fn c_sum_of hr rfl (pa_cons (pv 0) pa_nil))))), ?_⟩
    walk_at "vc"
    refine ⟨a, xs, rs, D, rfl, hA, hP, hR, h0, hD, hl1, hl, hle, fun H1 s1 => ?_⟩
    walk_at "vc"
    refine ⟨a, xs, rs, D, rfl, hA.imp s1.seq s1.seqT, shs_same hP s1, hR, h0, hD, by omega, fun H2 p s2 np ep => ?_⟩
    exact q H2 p (s1.trans s2) (s1.free np) ep
end
end K0
set_option Elab.async false
set_option linter.all false
set_option maxRecDepth 100000
set_option maxHeartbeats 4400000
namespace L2
open PySem PySem.Spec PyProof.Rows
/-! ### tuple * 1 is the tuple itself -/
theorem tuple_mul1 (l : Addr) (items : Array Value) (n : Nat) (dd : Option Addr) (sl : Array (Option Value)) (u : Tok) :
    Meets (Builtin.«tuple.__mul__» ⟨[.ref l, .int 1 u], []⟩) (fun _ R s => s.heap.get? l = some { cls := .type "tuple", dict := dd, data := .seq items n, slots := sl } ∧ R (.ok (.ret (Value.ref l))) s) :=
  .of_wp fun prog w A R st hh => by
    cases st
    obtain ⟨at_l, h⟩ := hh
    have f1 := AutoSeq1.idx_int
    have c0 : (decide ((1 : Int) < -(2 ^ 63)) || decide ((1 : Int) ≥ 2 ^ 63)) = false := by decide
    have c1 : (items.isEmpty || (1 : Int) == 1) = true := by simp
    have c3 : (Value.type "tuple" == Value.type "tuple") = true := by decide
    have n0 : ¬ (decide ((1 : Int) < -(2 ^ 63)) || decide ((1 : Int) ≥ 2 ^ 63)) = true := by rw [c0]; exact Bool.false_ne_true
    wp_walk using wpAny_loadPart' at_l
    repeat (first
      | (apply wpAny_ite_false (decide_eq_false n0); wp_walk using wpAny_loadPart' at_l)
      | (apply wpAny_ite_true (decide_eq_true c1); wp_walk using wpAny_loadPart' at_l))
    exact ⟨_, rfl, h⟩
def rRepT1 (K : PySem.W.Frag) : R2 := fun x y H Q => ∃ l k xs, x = .ref l ∧ y = .int k ∧ SqT K H l xs ∧ xs ≠ [] ∧ 1 ≤ k ∧ k ≤ 1000 ∧ xs.length ≤ 1000 ∧ (k = 1 → Q (.ref l) H) ∧ (k ≠ 1 → ∀ p, H p = none → Q (.ref p) (upd H p (.tup (List.replicate k.toNat xs).flatten)))
theorem op_repT1 {X : Cx} : OpR X (binaryOp .Mult) (rRepT1 X.K) := by
  intro pins s σ H x y v u Q I rx ry
  rintro ⟨l, k, xs, rfl, rfl, hT, hne, h1, h2, hz, q1, q2⟩
  by_cases hk : k = 1
  · subst hk
    cases rx
    obtain ⟨t, rfl⟩ := ry
    obtain ⟨its, r, ⟨⟨cls, dd, dat, sl⟩, ho, hc, n, hd⟩, _⟩ := I.tuple hT
    simp only at hc hd
    subst hc hd
    refine wpAny_binaryOp_repeat_ref (T := "tuple") (U := "int") (by decide) ⟨_, ho, rfl⟩ (fun s' => typeIs_int s' 1 t) noFill_tuple_mul F.fills_int_mul F.slot_int_rmul repeat_tuple F.slot_int_index.lookup
      (call_meets F.slot_int_rmul (typeIs_int s 1 t) F.entry_int_rmul (F.args_int_rmul_2 _ _) (int_rmul_tuple 1 t l its.toArray n dd sl)
        ⟨ho, rfl, ⟨_, ho, rfl⟩, call_meets F.slot_tuple_mul ⟨_, ho, rfl⟩ F.entry_tuple_mul (F.args_tuple_mul_2 _ _) (tuple_mul1 l its.toArray n dd sl t) ⟨ho, ?_⟩⟩)
    exact ⟨.ref l, H, I, rfl, q1 rfl⟩
  · exact op_repT pins s σ H _ _ v u Q I rx ry ⟨l, k, xs, rfl, rfl, hT, hne, by omega, h2, hz, q2 hk⟩
end L2
set_option Elab.async false
set_option linter.all false
set_option maxRecDepth 100000
set_option maxHeartbeats 4400000
set_option exponentiation.threshold 20000
namespace K0
open PySem PySem.Spec PyProof.Rows L2
local macro_rules | `(tactic| walk_at "vc") => `(tactic| try simp only [vq_st1_1, vq_st1_2, vq_st1_3, vq_st1_4, vq_st1_5, vq_st1_6, vq_st1_7, vq_st1_8, vq_st1_9, vq_st1_10, vq_st1_11, vq_st1_12, vq_st1_13, vq_st1_14, vq_st1_15, vq_st1_16, vq_st1_17, vq_st2_2, vq_st2_3, vq_st2_4, vq_st2_5, vq_st2_6, vq_st2_7, vq_st2_8, vq_st2_9, vq_st2_10, vq_st2_11, vq_st2_12, vq_st2_13, vq_st2_14, vq_st2_15, vq_st2_16, vq_st2_17, vq_st2_18, vq_st3_3, vq_st3_4, vq_st3_5, vq_st3_6, vq_st3_7, vq_st3_8, vq_st3_9, vq_st3_10, vq_st3_11, vq_st3_12, vq_st3_13, vq_st3_14, vq_st3_15, vq_st3_16, vq_st3_17, vq_st3_18, vq_st3_19, vq_st4_4, vq_st4_5, vq_st4_6, vq_st4_7, vq_st4_8, vq_st4_9, vq_st4_10, vq_st4_11, vq_st4_12, vq_st4_13, vq_st4_14, vq_st4_15, vq_st4_16, vq_st4_17, vq_st4_18, vq_st4_19, vq_st4_20, vq_cK, vq_cKn, vq_var, vq_c, vq_op, vq_un, vq_I, vq_I0, vq_U, vq_eqI, vq_neI, vq_neB, vq_nil, vq_cons, vq_call, vq_CB, vq_bl, vq_B, vq_test, vq_and, vq_or, vq_not, vq_andV, vq_orV, vq_notV, vq_if, vq_ifS, vq_chain, vq_seq, vq_next, vq_ret, vq_retN, vq_drop, vq_asg, vq_par, vq_par2, vq_aug, vq_some, vq_name, vq_gnil, vq_tup, vq_lst, vq_sz0, vq_sz1, vq_sz2, vq_sz3, vq_sz4, vq_tru, vq_BM, vq_BM0, vq_sl, vq_ite_t, vq_ite_f, vq_ite_d, vq_ite_n, List.getElem?_cons_zero, List.getElem?_cons_succ, List.set_cons_zero, List.set_cons_succ, vq_app, vq_yes, vq_wn, vq_wc, vq_o1, vq_o2, vq_o3, vq_intI, vq_gsub, reduceIte, Bool.false_eq_true, Bool.not_true, Bool.not_false])
section
variable {P : Program} {w : World} {K : PySem.W.Frag} {mg : Str → Option Value} {base : Heap}
/-! ### parts_of -/
abbrev s_parts_of : Stmt := topS 13
theorem sc_parts_of : FnScope ["share", "many"] ["share", "many"] (defScope s_parts_of) := ⟨rfl, rfl, rfl, by decide +kernel, rfl, by decide +kernel, by decide +kernel⟩
def spParts (K : PySem.W.Frag) : Sp := fun vs H Q _ => ∃ (v : V) (r : Rat) (m : Nat) (D : Nat), vs = [v, .int m] ∧ shV K H v r ∧ Sh r ∧ Dv D r ∧ D ≠ 0 ∧ D < 2 ^ 900 ∧ 1 ≤ m ∧ m ≤ 1000 ∧
  ∀ H' t p, Same H H' → H t = none → H' t = some (pr (Rat.divInt r.num (r.den * m))) → H' p = some (.tup (List.replicate m (.ref t))) → Q (.ref p) H'
theorem c_parts_of (G : Glb mg) (D : DefAt K mg "parts_of" s_parts_of ["share", "many"]) (c_checked_share : Callee P w K mg base CX0 3 "checked_share" ["value", "at"] (spChecked K)) (c_is_integer : Callee P w K mg base CX0 1 "is_integer" ["value"] spIsInt) (c_lowest : Callee P w K mg base CX0 2 "lowest" ["top", "bottom"] spLowest) :
    Callee P w K mg base CX0 4 "parts_of" ["share", "many"] (spParts K) := by
  obtain ⟨tMP, g_MOST_PARTS⟩ := G.g_MOST_PARTS
  refine D.ok fun f fd F => F.ok sc_parts_of (fun vs H Q E h => ?_) (fun cdv A outer s H vs Q E hr h => ?_)
  · obtain ⟨v, r, m, D, rfl, _⟩ := h
    rfl
  · obtain ⟨v, r, m, D, rfl, hV, hS, dv, h0, hD, hm1, hm, q⟩ := h
    refine ⟨_, (pss_cons (ps_expr (pe_fn c_checked_share hr rfl (pa_cons (pv 0) (pa_cons pe_int pa_nil))))
    (pss_cons (ps_if (PW.pt (pw_or (pt_not (pt_val (pe_fn c_is_integer hr rfl (pa_cons (pv 1) pa_nil)))) (pw_or1 (pt_not (pt_chain op_le op_le pe_int (pv 1) (pe_glob (v := .int 1000) rfl g_MOST_PARTS ⟨_, rfl⟩)))))) (pss_one ps_never) pss_nil)
    (pss_one (ps_ret (pe_op op_repT1 (pe_tup (pa_cons (pe_fn c_lowest hr rfl (pa_cons (pe_ix ix_tup (pv 0) pe_int (fun _ _ => rfl)) (pa_cons (pe_op op_mulW (pe_ix ix_tup (pv 0) pe_int (fun _ _ => rfl)) (pv 1)) pa_nil))) pa_nil)) (pv 1)))))), ?_⟩
    walk_at "vc"
    refine ⟨v, r, _, rfl, hV, hS, fun H1 s1 => ?_⟩
    walk_at "vc"
    refine ⟨(m : Int), rfl, ?_⟩
    walk_at "vc"
    refine iteT' (by omega) (iteT' (by omega) ?_)
    obtain ⟨t, rfl, hT⟩ := hV.same s1
    refine ixT hT rfl ?_
    walk_at "vc"
    refine ixT hT rfl ?_
    walk_at "vc"
    have hd : (r.den : Int).natAbs < 2 ^ 900 := by
      have := dv.den h0
      rw [Int.natAbs_natCast]
      omega
    have hm' : (m : Int).natAbs < 2 ^ 10 := by
      rw [Int.natAbs_natCast]
      omega
    have hn := hS.num
    refine ⟨wide_mul hd hm' (by decide) (by decide) (by decide), ?_⟩
    refine ⟨_, _, rfl, Int.le_of_lt hn.1, Int.mul_pos (den_pos' r) (by omega), Nat.lt_trans (wide_lt hd hm') (by decide +kernel), fun p np => ?_⟩
    walk_at "vc"
    intro p2 np2
    refine ⟨p2, m, [.ref p], rfl, rfl, isT upd_same, by simp, by omega, by omega, by simp, fun e => ?_, fun e p3 np3 => ?_⟩
    · have e1 : m = 1 := by omega
      subst e1
      have np2' : p2 ≠ p := fun z => by rw [z, upd_same] at np2; cases np2
      exact q _ p p2 (s1.trans ((same_new np).trans (same_new np2))) (s1.free np) (by rw [upd_ne np2'.symm, upd_same]) upd_same
    · have np2' : p2 ≠ p := fun z => by rw [z, upd_same] at np2; cases np2
      have np3' : p ≠ p3 := ne_of_none (o := pr (Rat.divInt r.num (r.den * m))) (by rw [upd_ne np2'.symm, upd_same]) np3
      refine q _ p p3 (s1.trans ((same_new np).trans ((same_new np2).trans (same_new np3)))) (s1.free np) (by rw [upd_ne np3', upd_ne np2'.symm, upd_same]) ?_
      rw [upd_same]
      congr 2
      show (List.replicate ((m : Int).toNat) [V.ref p]).flatten = _
      rw [Int.toNat_natCast]
      simp
theorem lt_sgn {a b : Rat} : a < b ↔ a.num * (b.den : Int) - b.num * (a.den : Int) < 0 := by
  rw [Rat.lt_iff]
  omega
theorem eq_sgn {a b : Rat} : a = b ↔ a.num * (b.den : Int) - b.num * (a.den : Int) = 0 := by
  rw [Rat.eq_iff_mul_eq_mul]
  omega
/-! ### what_is_left -/
abbrev s_what_is_left : Stmt := topS 18
theorem sc_what_is_left : FnScope ["share", "shares", "one", "top", "bottom", "left"] ["share", "shares"] (defScope s_what_is_left) := ⟨rfl, rfl, rfl, by decide +kernel, rfl, by decide +kernel, by decide +kernel⟩
def spLeft (K : PySem.W.Frag) (C : Addr) : Sp := fun vs H Q E => ∃ (v : V) (a : Addr) (s : Rat) (xs : List V) (rs : List Rat) (D : Nat), vs = [v, .ref a] ∧ shV K H v s ∧ Sh s ∧ Dv D s ∧ (SqL K H a xs ∨ SqT K H a xs) ∧ Paired (shV K H) xs rs ∧ (∀ r ∈ rs, Sh r ∧ Dv D r) ∧ D ≠ 0 ∧ D < 2 ^ 1000 ∧ rs.length ≤ 2000 ∧
  (s < rsum 0 rs → ∀ H' d, Same H H' → H d = none → H' d = some (atO (.int 0)) → E (.ref C) (some d) H') ∧ (s = rsum 0 rs → ∀ H', Same H H' → Q .non H') ∧
  (rsum 0 rs < s → ∀ H' p, Same H H' → H p = none → H' p = some (pr (s - rsum 0 rs)) → Q (.ref p) H')
theorem c_what_is_left {C fI : Addr} {qn : Str} (G : Glb mg) (ER : PySem.ErrX.ErrTxt P K C fI qn) (gR : mg "Refused" = some (.ref C)) (D : DefAt K mg "what_is_left" s_what_is_left ["share", "shares"]) (c_checked_share : Callee P w K mg base CX0 3 "checked_share" ["value", "at"] (spChecked K))
    (c_is_sequence : Callee P w K mg base CX0 1 "is_sequence" ["value"] (spIsSeq K)) (c_is_share : Callee P w K mg base CX0 2 "is_share" ["value"] (spIsShareR K)) (c_sum_of : Callee P w K mg base CX0 3 "sum_of" ["shares"] (spSumOf K)) (c_lowest : Callee P w K mg base CX0 2 "lowest" ["top", "bottom"] spLowest) :
    Callee P w K mg base (L2.CX P w) 4 "what_is_left" ["share", "shares"] (spLeft K C) := by
  refine D.ok fun f fd F => F.okX sc_what_is_left (fun vs H Q E h => ?_) (fun cdv A outer s H vs Q E hr h => ?_)
  · obtain ⟨v, a, s, xs, rs, D, rfl, _⟩ := h
    rfl
  · obtain ⟨v, a, sh, xs, rs, D, rfl, hV, hS, dv, hA, hP, hR, h0, hD, hl, qE, q0, q1⟩ := h
    refine ⟨_, (pss_cons (ps_expr (pe_fn c_checked_share hr rfl (pa_cons (pv 0) (pa_cons pe_int pa_nil))))
    (pss_cons (ps_if (PW.pt (pw_or (pt_not (pt_val (pe_fn c_is_sequence hr rfl (pa_cons (pv 1) pa_nil)))) (pw_or1 (pt_not (pt_val (pe_callB (cr_all rfl) (by rfl) G.m_all (by decide +kernel) (pa_cons (pe_lc (own := [("one", 2)]) (g := gName 2) (by rfl) sc_what_is_left.nd (pi_seq (pv 1)) (blkOk_by (own := [("one", 2)]) (N := ["share", "shares", "one", "top", "bottom", "left"]) (sc := defScope s_what_is_left) (by decide +kernel)) (fun _ _ _ _ _ => (pg_name (i := 2) sc_what_is_left.nd rfl (Or.inl rfl))) (fun _ _ _ _ _ => pts_nil) (fun _ _ _ _ _ => (pe_fn c_is_share hr rfl (pa_cons (pv 2) pa_nil)))) pa_nil))))))) (pss_one (ps_never)) pss_nil)
    (pss_cons (ps_asg (pe_fn c_sum_of hr rfl (pa_cons (pv 1) pa_nil)) (pg_tup rfl (pgs_cons (pg_name (i := 3) sc_what_is_left.nd rfl (Or.inl rfl)) (pgs_cons (pg_name (i := 4) sc_what_is_left.nd rfl (Or.inl rfl)) pgs_nil))))
    (pss_cons (ps_set (i := 5) sc_what_is_left.nd rfl (Or.inl rfl) (pe_op op_sub (pe_op op_mulW (pe_ix ix_tup (pv 0) pe_int (fun _ _ => rfl)) (pv 4)) (pe_op op_mulW (pv 3) (pe_ix ix_tup (pv 0) pe_int (fun _ _ => rfl)))))
    (pss_cons (ps_if (pt_cmpR op_lt (pv 5) pe_int (nomark _)) (pss_one (ps_raiseErr rfl ER gR G.m_super hr (takes_of rfl rfl rfl rfl) (pa_cons pe_int pa_nil))) pss_nil)
    (pss_one (ps_ret (pe_ifExp (pt_cmpR op_eq (pv 5) pe_int (nomark _)) pe_non (pe_fn c_lowest hr rfl (pa_cons (pv 5) (pa_cons (pe_op op_mulW (pe_ix ix_tup (pv 0) pe_int (fun _ _ => rfl)) (pv 4)) pa_nil))))))))))), ?_⟩
    walk_at "vc"
    refine ⟨v, sh, _, rfl, hV, hS, fun H1 s1 => ?_⟩
    walk_at "vc"
    refine ⟨a, xs, rfl, hA.imp s1.seq s1.seqT, fun H2 s2 => ?_⟩
    walk_at "vc"
    have s12 := s1.trans s2
    refine all_shares rfl (hA.imp s12.seq s12.seqT) (shs_same hP s12) (fun r hr => (hR r hr).1) (by omega) (by intro _; rfl) (fun v H' R h => ?_) fun H3 s3 => ?_
    · exact ⟨v, rfl, h⟩
    walk_at "vc"
    have s13 := s12.trans s3
    refine ⟨a, xs, rs, D, rfl, hA.imp s13.seq s13.seqT, shs_same hP s13, hR, h0, hD, by omega, fun H4 p s4 np ep => ?_⟩
    refine gt2 (isT ep) ?_
    walk_at "vc"
    have s14 := s13.trans s4
    obtain ⟨t, rfl, hT⟩ := hV.same s14
    have fr := hS.fit dv
    have fs := rsum_fit h0 hR (by omega)
    refine ixT hT rfl ?_
    walk_at "vc"
    refine ⟨wide_mul (fr.num h0 hD) (fs.den h0 hD) (by decide) (by decide) (by decide), ?_⟩
    refine ixT hT rfl ?_
    walk_at "vc"
    refine ⟨wide_mul (fs.num h0 hD) (fr.den h0 hD) (by decide) (by decide) (by decide), ?_⟩
    by_cases hlt : sh < rsum 0 rs
    · refine iteT' (lt_sgn.mp hlt) ?_
      exact ⟨.int 0, rfl, fun d nd => qE hlt _ d (s14.trans (same_new nd)) (s14.free nd) upd_same⟩
    · refine iteF' (fun z => hlt (lt_sgn.mpr z)) ?_
      by_cases he : sh = rsum 0 rs
      · exact iteT' (eq_sgn.mp he) (q0 he _ s14)
      · refine iteF' (fun z => he (eq_sgn.mpr z)) ?_
        refine ixT hT rfl ?_
        walk_at "vc"
        refine ⟨wide_mul (fr.den h0 hD) (fs.den h0 hD) (by decide) (by decide) (by decide), ?_⟩
        have hgt : rsum 0 rs < sh := Rat.lt_of_le_of_ne (Rat.not_lt.mp hlt) (Ne.symm he)
        refine ⟨_, _, rfl, ?_, Int.mul_pos (den_pos' _) (den_pos' _), Nat.lt_trans (wide_lt (fr.den h0 hD) (fs.den h0 hD)) (by decide +kernel), fun p2 np2 => ?_⟩
        · have : ¬ (sh.num * ↑(rsum 0 rs).den - (rsum 0 rs).num * ↑sh.den < 0) := fun z => hlt (lt_sgn.mpr z)
          omega
        · rw [sub_lo]
          exact q1 hgt _ p2 (s14.trans (same_new np2)) (s14.free np2) upd_same
end
end K0
set_option Elab.async false
set_option linter.all false
set_option maxRecDepth 100000
set_option maxHeartbeats 4400000
namespace L2
open PySem PySem.Spec PyProof.Rows
/-! ### xs == [], xs != [], whatever stands in xs -/
def rEqNil (K : PySem.W.Frag) (neg : Bool) : R2 := fun x y H Q => ∃ a b xs, x = .ref a ∧ y = .ref b ∧ SqL K H a xs ∧ SqL K H b [] ∧ Q (.bl (if neg then !xs.isEmpty else xs.isEmpty)) H
section
variable {X : Cx}
theorem sz_nil {xs : List V} {its : List Value} (r : Vals xs its) : (its.toArray.size != (#[] : Array Value).size) = !xs.isEmpty := by
  have := r.length
  cases xs with
  | nil =>
    cases its with
    | nil => rfl
    | cons a b => cases this
  | cons a b =>
    cases its with
    | nil => cases this
    | cons c d => simp
theorem vals_nil {its : List Value} (r : Vals [] its) : its = [] := by
  cases r
  rfl
theorem op_neNil (hu : X.A.units + 64 < cLine) : OpR X (compareOp .NotEq) (rEqNil X.K true) := by
  intro pins s σ H x y v u Q I rx ry
  rintro ⟨a, b, xs, rfl, rfl, hA, hB, q⟩
  cases rx
  cases ry
  obtain ⟨its, r, p1, _⟩ := I.list hA
  obtain ⟨its2, r2, p2, _⟩ := I.list hB
  obtain rfl := vals_nil r2
  cases hx : xs.isEmpty with
  | true =>
    obtain rfl : xs = [] := by simpa using hx
    obtain rfl := vals_nil r
    exact SeqAt.RcNeAt.lists (e := fun _ => true) p1.isList p2.isList rfl (by omega) (fun j h1 h2 => absurd h1 (by simp)) _ _ _ _ ⟨.bl false, H, I, rfl, q⟩
  | false =>
    rw [hx] at q
    exact SeqAt.RcNeAt.lists_lengths p1.isList p2.isList (by have := sz_nil r; rw [hx] at this; exact this) (by omega) _ _ _ _ ⟨.bl true, H, I, rfl, q⟩
theorem op_eqNil (hu : X.A.units + 64 < cLine) : OpR X (compareOp .Eq) (rEqNil X.K false) := by
  intro pins s σ H x y v u Q I rx ry
  rintro ⟨a, b, xs, rfl, rfl, hA, hB, q⟩
  cases rx
  cases ry
  obtain ⟨its, r, p1, _⟩ := I.list hA
  obtain ⟨its2, r2, p2, _⟩ := I.list hB
  obtain rfl := vals_nil r2
  cases hx : xs.isEmpty with
  | true =>
    obtain rfl : xs = [] := by simpa using hx
    obtain rfl := vals_nil r
    exact SeqAt.RcAt.lists (e := fun _ => true) p1.isList p2.isList rfl (by omega) (fun j h1 h2 => absurd h1 (by simp)) _ _ _ _ ⟨.bl true, H, I, rfl, q⟩
  | false =>
    rw [hx] at q
    exact SeqAt.RcAt.lists_lengths p1.isList p2.isList (by have := sz_nil r; rw [hx] at this; exact this) (by omega) _ _ _ _ ⟨.bl false, H, I, rfl, q⟩
end
theorem eqNil {K : PySem.W.Frag} {H : Hp} {Q : VK} {a b : Addr} {xs : List V} {neg : Bool} (hA : SqL K H a xs) (hB : SqL K H b []) (q : Q (.bl (if neg then !xs.isEmpty else xs.isEmpty)) H) : rEqNil K neg (.ref a) (.ref b) H Q := ⟨a, b, xs, rfl, rfl, hA, hB, q⟩
end L2
set_option Elab.async false
set_option linter.all false
set_option maxRecDepth 100000
set_option maxHeartbeats 4400000
set_option exponentiation.threshold 20000
namespace K0
open PySem PySem.Spec PyProof.Rows L2
local macro_rules | `(tactic| walk_at "vc") => `(tactic| try simp only [vq_st1_1, vq_st1_2, vq_st1_3, vq_st1_4, vq_st1_5, vq_st1_6, vq_st1_7, vq_st1_8, vq_st1_9, vq_st1_10, vq_st1_11, vq_st1_12, vq_st1_13, vq_st1_14, vq_st1_15, vq_st1_16, vq_st1_17, vq_st2_2, vq_st2_3, vq_st2_4, vq_st2_5, vq_st2_6, vq_st2_7, vq_st2_8, vq_st2_9, vq_st2_10, vq_st2_11, vq_st2_12, vq_st2_13, vq_st2_14, vq_st2_15, vq_st2_16, vq_st2_17, vq_st2_18, vq_st3_3, vq_st3_4, vq_st3_5, vq_st3_6, vq_st3_7, vq_st3_8, vq_st3_9, vq_st3_10, vq_st3_11, vq_st3_12, vq_st3_13, vq_st3_14, vq_st3_15, vq_st3_16, vq_st3_17, vq_st3_18, vq_st3_19, vq_st4_4, vq_st4_5, vq_st4_6, vq_st4_7, vq_st4_8, vq_st4_9, vq_st4_10, vq_st4_11, vq_st4_12, vq_st4_13, vq_st4_14, vq_st4_15, vq_st4_16, vq_st4_17, vq_st4_18, vq_st4_19, vq_st4_20, vq_cK, vq_cKn, vq_var, vq_c, vq_op, vq_un, vq_I, vq_I0, vq_U, vq_eqI, vq_neI, vq_neB, vq_nil, vq_cons, vq_call, vq_CB, vq_bl, vq_B, vq_test, vq_and, vq_or, vq_not, vq_andV, vq_orV, vq_notV, vq_if, vq_ifS, vq_chain, vq_seq, vq_next, vq_ret, vq_retN, vq_drop, vq_asg, vq_par, vq_par2, vq_aug, vq_some, vq_name, vq_gnil, vq_tup, vq_lst, vq_sz0, vq_sz1, vq_sz2, vq_sz3, vq_sz4, vq_tru, vq_BM, vq_BM0, vq_sl, vq_ite_t, vq_ite_f, vq_ite_d, vq_ite_n, List.getElem?_cons_zero, List.getElem?_cons_succ, List.set_cons_zero, List.set_cons_succ, vq_app, vq_yes, vq_wn, vq_wc, vq_o1, vq_o2, vq_o3, vq_intI, vq_gsub, reduceIte, Bool.false_eq_true, Bool.not_true, Bool.not_false])
/-! ### the source of draws -/
/-- what stands at d, c: a source of draws -/
def DealIs (H : Hp) (d c : Addr) (cells : List Int) (b : Int) : Prop := H d = some (.lst [.ref c, .int b]) ∧ H c = some (.lst (cells.map V.int)) ∧ (∀ z ∈ cells, 0 ≤ z) ∧ cells.length ≤ 48 ∧ 0 ≤ b ∧ b < 2 ^ 40
def Deal (H : Hp) (d c : Addr) : Prop := ∃ cells b, DealIs H d c cells b
theorem DealIs.ne {H : Hp} {d c : Addr} {cells : List Int} {b : Int} (h : DealIs H d c cells b) : d ≠ c := by
  intro e
  have h1 := h.1
  rw [e, h.2.1] at h1
  have h2 : cells.map V.int = [.ref c, .int b] := by injection h1 with h1; injection h1
  cases cells with
  | nil => cases h2
  | cons x r =>
    rw [List.map_cons] at h2
    injection h2 with h3 _
    cases h3
theorem DealIs.same {H H' : Hp} {d c : Addr} {cells : List Int} {b : Int} (h : DealIs H d c cells b) (s : Same H H') : DealIs H' d c cells b := ⟨s _ _ h.1, s _ _ h.2.1, h.2.2⟩
theorem Deal.same {H H' : Hp} {d c : Addr} (h : Deal H d c) (s : Same H H') : Deal H' d c := by
  obtain ⟨cells, b, h⟩ := h
  exact ⟨cells, b, h.same s⟩
theorem _root_.L2.But.refl (S : List Addr) (H : Hp) : But S H H := fun _ _ h _ => h
theorem _root_.L2.But.trans {S : List Addr} {H H1 H2 : Hp} (a : But S H H1) (b : But S H1 H2) : But S H H2 := fun c o h n => b c o (a c o h n) n
theorem _root_.L2.But.of {S : List Addr} {H H1 : Hp} (a : Same H H1) : But S H H1 := fun c o h _ => a c o h
theorem _root_.L2.But.upd {S : List Addr} {H : Hp} {a : Addr} {o : HO} (h : a ∈ S) : But S H (upd H a o) := fun b u e n => by
  rw [upd_ne (fun z => n (by rw [z]; exact h))]
  exact e
section
variable {P : Program} {w : World} {K : PySem.W.Frag} {mg : Str → Option Value} {base : Heap}
abbrev s__law_any : Stmt := topS 21
theorem sc__law_any : FnScope ["deal", "bound", "rest"] ["deal", "bound"] (defScope s__law_any) := ⟨rfl, rfl, rfl, by decide +kernel, rfl, by decide +kernel, by decide +kernel⟩
def spAny : Sp := fun vs H Q _ => ∃ (d c : Addr) (n : Int), vs = [.ref d, .int n] ∧ Deal H d c ∧ 1 ≤ n ∧ n.natAbs < 2 ^ 8000 ∧ ∀ H' i, But [d, c] H H' → Deal H' d c → 0 ≤ i → i < n → Q (.int i) H'
theorem c__law_any (G : Glb mg) (D : DefAt K mg "_law_any" s__law_any ["deal", "bound"]) : Callee P w K mg base CX0 1 "_law_any" ["deal", "bound"] spAny := by
  refine D.ok fun f fd F => F.ok sc__law_any (fun vs H Q E h => ?_) (fun cdv A outer s H vs Q E hr h => ?_)
  · obtain ⟨d, c, n, rfl, _⟩ := h
    rfl
  · obtain ⟨d, c, n, rfl, hD, hn, hz, q⟩ := h
    refine ⟨_, (pss_cons (ps_while PassesOwn.never (PW.pt (pw_and (pt_cmpR (op_neNil hr.units) (pe_ix ix_list (pv 0) pe_int (fun _ _ => rfl)) (pe_lst pa_nil) (nomark _)) (pw_and1 (pt_cmpR op_eq (pe_ix ix_list (pe_ix ix_list (pv 0) pe_int (fun _ _ => rfl)) (pe_un un_neg pe_int) (fun _ _ => rfl)) pe_int (nomark _))))) (pss_one (ps_expr (pe_bm0 PySem.F.plainAttrs_list PySem.F.slot_list_pop PySem.F.type_list_pop mt_pop (pe_ix ix_list (pv 0) pe_int (fun _ _ => rfl))))))
    (pss_cons (ps_if (pt_cmpR (op_neNil hr.units) (pe_ix ix_list (pv 0) pe_int (fun _ _ => rfl)) (pe_lst pa_nil) (nomark _)) (pss_cons (ps_set (i := 2) sc__law_any.nd rfl (Or.inl rfl) (pe_callTy call_intI (by rfl) G.m_int (by decide +kernel) (pa_cons (pe_bm0 PySem.F.plainAttrs_list PySem.F.slot_list_pop PySem.F.type_list_pop mt_pop (pe_ix ix_list (pv 0) pe_int (fun _ _ => rfl))) pa_nil)))
    (pss_cons (ps_expr (pe_bm PySem.F.plainAttrs_list PySem.F.slot_list_append PySem.F.type_list_append mt_append (pe_ix ix_list (pv 0) pe_int (fun _ _ => rfl)) (pa_cons (pe_op op_fdivW (pv 2) (pv 1)) pa_nil)))
    (pss_one (ps_ret (pe_op op_modN (pv 2) (pv 1)))))) pss_nil)
    (pss_cons (ps_asg (pe_op op_modN (pe_callTy call_intI (by rfl) G.m_int (by decide +kernel) (pa_cons (pe_op op_add (pe_op op_mulW (pe_ix ix_list (pv 0) pe_int (fun _ _ => rfl)) pe_int) pe_int) pa_nil)) pe_int) (pg_sub (pv 0) pe_int set_list))
    (pss_one (ps_ret (pe_op op_modN (pe_callTy call_intI (by rfl) G.m_int (by decide +kernel) (pa_cons (pe_op op_fdivW (pe_ix ix_list (pv 0) pe_int (fun _ _ => rfl)) pe_int) pa_nil)) (pv 1))))))), ?_⟩
    refine seq_rest (fun σ H' => σ = [some (.ref d), some (.int n), none] ∧ But [d, c] H H' ∧ Deal H' d c) (fun σ H' hM => ?_) (fun R hR => ?_)
    · obtain ⟨rfl, b1, cells, b, hd⟩ := hM
      have ndc := hd.ne
      have hL := isL (K := K) hd.1
      walk_at "vc"
      refine ixL hL rfl fun p np => ?_
      have s1 : Same H' (upd H' p (.lst [])) := same_new np
      refine eqNil (s1.seq (isL hd.2.1)) (isL upd_same) ?_
      walk_at "vc"
      have n1 : d ≠ p := ne_of_none hd.1 np
      have n2 : c ≠ p := ne_of_none hd.2.1 np
      have hd1 := hd.same s1
      have hL1 := isL (K := K) hd1.1
      rcases List.eq_nil_or_concat cells with rfl | ⟨r, z, rfl⟩
      · refine iteF' (by simp) ?_
        refine ixL hL1 rfl ?_
        walk_at "vc"
        refine ⟨wide_mul (a := 40) (b := 40) (by have := hd.2.2.2.2; omega) (by decide) (by decide) (by decide) (by decide), ?_⟩
        walk_at "vc"
        have hb := hd.2.2.2.2
        rw [fmod_pos (by omega) (by decide)]
        have e1 := Int.emod_nonneg (b * 40693 + 71) (b := 2147483647) (by decide)
        have e2 := Int.emod_lt_of_pos (b * 40693 + 71) (b := 2147483647) (by decide)
        generalize (b * 40693 + 71) % 2147483647 = b2 at e1 e2 ⊢
        refine ⟨by decide, setL hd1.1 (j := 1) rfl ?_⟩
        show _
        refine ixL (isL upd_same) rfl ?_
        walk_at "vc"
        refine ⟨⟨by decide, by decide⟩, ?_⟩
        walk_at "vc"
        have e3 : 0 ≤ b2 / 64 := by omega
        rw [fmod_pos e3 (by omega)]
        refine ⟨by omega, q _ _ ((b1.trans (.of s1)).trans (.upd (by simp))) ⟨[], b2, upd_same, ?_, by simp, by simp, e1, by omega⟩ (Int.emod_nonneg _ (by omega)) (Int.emod_lt_of_pos _ (by omega))⟩
        rw [upd_ne ndc.symm]
        exact hd1.2.1
      · refine iteT' (by simp) ?_
        have hc : (upd H' p (.lst [])) c = some (.lst (r.map V.int ++ [V.int z])) := by
          have := hd1.2.1
          rw [this]
          simp
        have hz0 : 0 ≤ z := hd.2.2.1 z (by simp)
        refine ixL hL1 rfl ⟨tyVL (isL hc), popL hc ?_⟩
        walk_at "vc"
        have hd2 : (upd (upd H' p (.lst [])) c (.lst (r.map V.int))) d = some (.lst [.ref c, .int b]) := by
          rw [upd_ne ndc]
          exact hd1.1
        refine ixL (isL hd2) rfl ⟨tyVL (isL upd_same), ⟨by omega, ?_⟩, appL upd_same ?_ ?_⟩
        · exact Nat.lt_of_lt_of_le (PySem.Flt.log2_lt_of (by decide) hz) (by decide)
        · have := hd.2.2.2.1
          rw [sizeLine_eq, List.length_map]
          simp at this
          omega
        · walk_at "vc"
          rw [fmod_pos hz0 (by omega)]
          have l0 := hd.2.2.2.1
          refine ⟨by omega, q _ _ (((b1.trans (.of s1)).trans (.upd (by simp))).trans (.upd (by simp))) ⟨r ++ [z / n], b, ?_, ?_, ?_, ?_, hd.2.2.2.2⟩ (Int.emod_nonneg _ (by omega)) (Int.emod_lt_of_pos _ (by omega))⟩
          · rw [upd_ne ndc]
            exact hd2
          · rw [upd_same]
            simp
          · intro y hy
            rcases (List.mem_append.mp hy) with hy | hy
            · exact hd.2.2.1 y (by simp [hy])
            · obtain rfl : y = z / n := by simpa using hy
              exact Int.ediv_nonneg hz0 (by omega)
          · simpa using l0
    walk_at "vc"
    refine ⟨fun m σ H' => σ = [some (.ref d), some (.int n), none] ∧ But [d, c] H H' ∧ ∃ cells b, DealIs H' d c cells b ∧ cells.length = m, ?_, fun m σ H' hW => ?_⟩
    · obtain ⟨cells, b, h⟩ := hD
      exact ⟨_, rfl, But.refl _ _, cells, b, h, rfl⟩
    obtain ⟨rfl, b1, cells, b, hd, rfl⟩ := hW
    have ndc := hd.ne
    have hL := isL (K := K) hd.1
    walk_at "vc"
    refine ixL hL rfl fun p np => ?_
    have s1 : Same H' (upd H' p (.lst [])) := same_new np
    refine eqNil (s1.seq (isL hd.2.1)) (isL upd_same) ?_
    walk_at "vc"
    have hd1 := hd.same s1
    have hL1 := isL (K := K) hd1.1
    rcases List.eq_nil_or_concat cells with rfl | ⟨r, z, rfl⟩
    · exact iteF' (by simp) (hR _ _ ⟨rfl, b1.trans (.of s1), _, _, hd1⟩)
    · refine iteT' (by simp) ?_
      have hc : (upd H' p (.lst [])) c = some (.lst (r.map V.int ++ [V.int z])) := by
        have := hd1.2.1
        rw [this]
        simp
      refine ixL hL1 rfl (ixL (isL hc) atI_last' ?_)
      walk_at "vc"
      by_cases hz : z = 0
      · refine iteT' hz ⟨fun σ' H2 => σ' = [some (.ref d), some (.int n), none] ∧ But [d, c] H H2 ∧ DealIs H2 d c r b, fun σ' H2 hN => ?_, ?_⟩
        · exact ⟨r.length, by simp, hN.1, hN.2.1, r, b, hN.2.2, rfl⟩
        · refine ixL hL1 rfl ⟨tyVL (isL hc), popL hc ⟨rfl, (b1.trans (.of s1)).trans (.upd (by simp)), ?_, upd_same, fun y hy => hd.2.2.1 y (by simp [hy]), by have := hd.2.2.2.1; simp at this; omega, hd.2.2.2.2⟩⟩
          rw [upd_ne ndc]
          exact hd1.1
      · exact iteF' hz (hR _ _ ⟨rfl, b1.trans (.of s1), _, _, hd1⟩)
end
end K0
set_option Elab.async false
set_option linter.all false
set_option maxRecDepth 100000
set_option maxHeartbeats 4400000
set_option exponentiation.threshold 20000
namespace K0
open PySem PySem.Spec PyProof.Rows L2
local macro_rules | `(tactic| walk_at "vc") => `(tactic| try simp only [vq_st1_1, vq_st1_2, vq_st1_3, vq_st1_4, vq_st1_5, vq_st1_6, vq_st1_7, vq_st1_8, vq_st1_9, vq_st1_10, vq_st1_11, vq_st1_12, vq_st1_13, vq_st1_14, vq_st1_15, vq_st1_16, vq_st1_17, vq_st2_2, vq_st2_3, vq_st2_4, vq_st2_5, vq_st2_6, vq_st2_7, vq_st2_8, vq_st2_9, vq_st2_10, vq_st2_11, vq_st2_12, vq_st2_13, vq_st2_14, vq_st2_15, vq_st2_16, vq_st2_17, vq_st2_18, vq_st3_3, vq_st3_4, vq_st3_5, vq_st3_6, vq_st3_7, vq_st3_8, vq_st3_9, vq_st3_10, vq_st3_11, vq_st3_12, vq_st3_13, vq_st3_14, vq_st3_15, vq_st3_16, vq_st3_17, vq_st3_18, vq_st3_19, vq_st4_4, vq_st4_5, vq_st4_6, vq_st4_7, vq_st4_8, vq_st4_9, vq_st4_10, vq_st4_11, vq_st4_12, vq_st4_13, vq_st4_14, vq_st4_15, vq_st4_16, vq_st4_17, vq_st4_18, vq_st4_19, vq_st4_20, vq_cK, vq_cKn, vq_var, vq_c, vq_op, vq_un, vq_I, vq_I0, vq_U, vq_eqI, vq_neI, vq_neB, vq_nil, vq_cons, vq_call, vq_CB, vq_bl, vq_B, vq_test, vq_and, vq_or, vq_not, vq_andV, vq_orV, vq_notV, vq_if, vq_ifS, vq_chain, vq_seq, vq_next, vq_ret, vq_retN, vq_drop, vq_asg, vq_par, vq_par2, vq_aug, vq_some, vq_name, vq_gnil, vq_tup, vq_lst, vq_sz0, vq_sz1, vq_sz2, vq_sz3, vq_sz4, vq_tru, vq_BM, vq_BM0, vq_sl, vq_ite_t, vq_ite_f, vq_ite_d, vq_ite_n, List.getElem?_cons_zero, List.getElem?_cons_succ, List.set_cons_zero, List.set_cons_succ, vq_app, vq_yes, vq_wn, vq_wc, vq_o1, vq_o2, vq_o3, vq_intI, vq_gsub, reduceIte, Bool.false_eq_true, Bool.not_true, Bool.not_false])
theorem _root_.L2.But.seqL {K : PySem.W.Frag} {S : List Addr} {H H' : Hp} {a : Addr} {xs : List V} (e : But S H H') (n : a ∉ S) (h : SqL K H a xs) : SqL K H' a xs := by
  rcases h with (h | ⟨ob, h⟩) | h
  · exact .inl (.inl (e _ _ h n))
  · exact .inl (.inr ⟨ob, e _ _ h n⟩)
  · exact .inr h
theorem _root_.L2.But.free {S : List Addr} {H H' : Hp} (e : But S H H') {p : Addr} (n : p ∉ S) (h : H' p = none) : H p = none := by
  cases q : H p with
  | none => rfl
  | some o =>
    rw [e p o q n] at h
    cases h
theorem _root_.L2.But.new {S : List Addr} {H H' : Hp} {p : Addr} {o : HO} (e : But S H H') (n : H p = none) : But S H (upd H' p o) := fun b u h hb => by
  rw [upd_ne (ne_of_none h n)]
  exact e b u h hb
theorem cons_erase {α : Type} : ∀ (l : List α) (i : Nat) (h : i < l.length), (l[i] :: l.eraseIdx i).Perm l
  | [], _, hi => absurd hi (Nat.not_lt_zero _)
  | _ :: _, 0, _ => List.Perm.refl _
  | a :: r, i + 1, h => (List.Perm.swap a _ _).trans ((cons_erase r i (Nat.lt_of_succ_lt_succ h)).cons a)
theorem not2 {a d c : Addr} (h1 : a ≠ d) (h2 : a ≠ c) : a ∉ [d, c] := by simp [h1, h2]
theorem atI_int {xs : List V} {i : Int} (h0 : 0 ≤ i) (h1 : i < xs.length) : atI xs i = xs[i.toNat]? := by
  unfold atI ixN
  rw [if_pos h0, if_pos h1]
  rfl
section
variable {P : Program} {w : World} {K : PySem.W.Frag} {mg : Str → Option Value} {base : Heap}
/-! ### _law_of -/
abbrev s__law_of : Stmt := topS 22
theorem sc__law_of : FnScope ["deal", "some"] ["deal", "some"] (defScope s__law_of) := ⟨rfl, rfl, rfl, by decide +kernel, rfl, by decide +kernel, by decide +kernel⟩
def spOf (K : PySem.W.Frag) : Sp := fun vs H Q _ => ∃ (d c a : Addr) (xs : List V), vs = [.ref d, .ref a] ∧ Deal H d c ∧ SqL K H a xs ∧ a ≠ d ∧ a ≠ c ∧ 1 ≤ xs.length ∧ xs.length < 2 ^ 60 ∧ ∀ H' v, But [d, c] H H' → Deal H' d c → v ∈ xs → Q v H'
theorem c__law_of (G : Glb mg) (D : DefAt K mg "_law_of" s__law_of ["deal", "some"]) (c__law_any : Callee P w K mg base CX0 1 "_law_any" ["deal", "bound"] spAny) : Callee P w K mg base CX0 2 "_law_of" ["deal", "some"] (spOf K) := by
  refine D.ok fun f fd F => F.ok sc__law_of (fun vs H Q E h => ?_) (fun cdv A outer s H vs Q E hr h => ?_)
  · obtain ⟨d, c, a, xs, rfl, _⟩ := h
    rfl
  · obtain ⟨d, c, a, xs, rfl, hD, hA, n1, n2, h1, h2, q⟩ := h
    refine ⟨_, (pss_one (ps_ret (pe_ix ix_list (pv 1) (pe_fn c__law_any hr rfl (pa_cons (pv 0) (pa_cons (pe_callB call_len_seq (by rfl) G.m_len PySem.boot_len (pa_cons (pv 1) pa_nil)) pa_nil))) (fun _ _ => rfl)))), ?_⟩
    walk_at "vc"
    refine ⟨a, xs, rfl, .inl hA, ?_⟩
    walk_at "vc"
    refine ⟨d, c, _, rfl, hD, by omega, Nat.lt_of_lt_of_le (m := 2 ^ 60) (by rw [Int.natAbs_natCast]; exact h2) (by decide +kernel), fun H' i b1 hD' hi0 hi1 => ?_⟩
    have hA' := b1.seqL (not2 n1 n2) hA
    have hlt : i.toNat < xs.length := by omega
    refine ixL hA' ((atI_int hi0 hi1).trans (List.getElem?_eq_getElem hlt)) (q H' _ b1 hD' (List.getElem_mem hlt))
/-! ### _law_mixed -/
abbrev s__law_mixed : Stmt := topS 23
theorem sc__law_mixed : FnScope ["deal", "some", "left", "found"] ["deal", "some"] (defScope s__law_mixed) := ⟨rfl, rfl, rfl, by decide +kernel, rfl, by decide +kernel, by decide +kernel⟩
def spMixed (K : PySem.W.Frag) : Sp := fun vs H Q _ => ∃ (d c a : Addr) (xs : List V), vs = [.ref d, .ref a] ∧ Deal H d c ∧ (SqL K H a xs ∨ SqT K H a xs) ∧ xs.length ≤ 10000 ∧ ∀ H' p ys, But [d, c] H H' → Deal H' d c → H p = none → H' p = some (.lst ys) → ys.Perm xs → Q (.ref p) H'
theorem popAtL {H : Hp} {Q : VK} {l : Addr} {xs : List V} {i : Int} {y : V} (h : H l = some (.lst xs)) (h0 : 0 ≤ i) (h1 : i < xs.length) (hz : xs.length ≤ 10000) (e : xs[i.toNat]? = some y) (q : Q y (upd H l (.lst (xs.eraseIdx i.toNat)))) : rPopAt (.ref l) [.int i] H Q := by
  refine ⟨l, xs, i, i.toNat, y, rfl, rfl, h, by omega, by omega, ?_, e, q⟩
  exact (ixN_seq (show ixN xs.length i = some i.toNat by unfold ixN; rw [if_pos h0, if_pos h1])).1
theorem c__law_mixed (G : Glb mg) (D : DefAt K mg "_law_mixed" s__law_mixed ["deal", "some"]) (c__law_any : Callee P w K mg base CX0 1 "_law_any" ["deal", "bound"] spAny) : Callee P w K mg base CX0 2 "_law_mixed" ["deal", "some"] (spMixed K) := by
  refine D.ok fun f fd F => F.ok sc__law_mixed (fun vs H Q E h => ?_) (fun cdv A outer s H vs Q E hr h => ?_)
  · obtain ⟨d, c, a, xs, rfl, _⟩ := h
    rfl
  · obtain ⟨d, c, a, xs, rfl, hD, hA, hz, q⟩ := h
    refine ⟨_, (pss_cons (ps_par (i := 2) (j := 3) (by rfl) sc__law_mixed.nd rfl rfl (by decide) rfl rfl (pa_cons (pe_callTy call_list_of (by rfl) G.m_list (by decide +kernel) (pa_cons (pv 1) pa_nil)) (pa_cons (pe_lst pa_nil) pa_nil)) (by rfl))
    (pss_cons (ps_while PassesOwn.never (pt_cmpR (op_neNil hr.units) (pv 2) (pe_lst pa_nil) (nomark _)) (pss_one (ps_expr (pe_bm PySem.F.plainAttrs_list PySem.F.slot_list_append PySem.F.type_list_append mt_append (pv 3) (pa_cons (pe_bm PySem.F.plainAttrs_list PySem.F.slot_list_pop PySem.F.type_list_pop mt_popAt (pv 2) (pa_cons (pe_fn c__law_any hr rfl (pa_cons (pv 0) (pa_cons (pe_callB call_len_seq (by rfl) G.m_len PySem.boot_len (pa_cons (pv 2) pa_nil)) pa_nil))) pa_nil)) pa_nil)))))
    (pss_one (ps_ret (pv 3))))), ?_⟩
    walk_at "vc"
    refine ⟨a, xs, rfl, hA, fun l nl fo nf => ?_⟩
    obtain ⟨cells, b0, hd⟩ := id hD
    have eld : d ≠ l := ne_of_none hd.1 nl
    have elc : c ≠ l := ne_of_none hd.2.1 nl
    have hl0 : (upd H l (.lst xs)) l = some (.lst xs) := upd_same
    have elf : l ≠ fo := ne_of_none hl0 nf
    have nfo : H fo = none := (same_new nl).free nf
    have efd : d ≠ fo := ne_of_none hd.1 nfo
    have efc : c ≠ fo := ne_of_none hd.2.1 nfo
    have s0 : Same H (upd (upd H l (.lst xs)) fo (.lst [])) := (same_new nl).trans (same_new nf)
    refine ⟨fun m σ H' => σ = [some (.ref d), some (.ref a), some (.ref l), some (.ref fo)] ∧ But [d, c] H H' ∧ Deal H' d c ∧ ∃ ls fs, H' l = some (.lst ls) ∧ H' fo = some (.lst fs) ∧ (fs ++ ls).Perm xs ∧ ls.length = m, ?_, fun m σ H' hW => ?_⟩
    · exact ⟨_, rfl, .of s0, hD.same s0, xs, [], by rw [upd_ne elf, upd_same], upd_same, List.Perm.refl _, rfl⟩
    obtain ⟨rfl, b1, hD1, ls, fs, hl, hf, hp, rfl⟩ := hW
    walk_at "vc"
    intro p np
    have s1 : Same H' (upd H' p (.lst [])) := same_new np
    refine eqNil (isL (s1 _ _ hl)) (isL upd_same) ?_
    walk_at "vc"
    by_cases he : ls = []
    · subst he
      refine iteF' (by simp) (q _ fo fs (b1.trans (.of s1)) (hD1.same s1) nfo (s1 _ _ hf) (by simpa using hp))
    · have hlen : 0 < ls.length := List.length_pos_iff.mpr he
      have hlen2 : ls.length ≤ 10000 := by
        have := hp.length_eq
        rw [List.length_append] at this
        omega
      refine iteT' (by simpa using he) ⟨fun σ' H2 => σ' = [some (.ref d), some (.ref a), some (.ref l), some (.ref fo)] ∧ But [d, c] H H2 ∧ Deal H2 d c ∧ ∃ ls2 fs2, H2 l = some (.lst ls2) ∧ H2 fo = some (.lst fs2) ∧ (fs2 ++ ls2).Perm xs ∧ ls2.length + 1 = ls.length, fun σ' H2 hN => ?_, ?_⟩
      · obtain ⟨e, b2, hD2, ls2, fs2, h1, h2, h3, h4⟩ := hN
        exact ⟨ls2.length, by omega, e, b2, hD2, ls2, fs2, h1, h2, h3, rfl⟩
      · refine ⟨tyVL (isL (s1 _ _ hf)), tyVL (isL (s1 _ _ hl)), l, ls, rfl, .inl (isL (s1 _ _ hl)), ?_⟩
        refine ⟨d, c, _, rfl, hD1.same s1, by omega, Nat.lt_of_le_of_lt (m := 10000) (by rw [Int.natAbs_natCast]; exact hlen2) (by decide +kernel), fun H2 i b2 hD2 hi0 hi1 => ?_⟩
        have hl2 : H2 l = some (.lst ls) := b2 _ _ (s1 _ _ hl) (not2 eld.symm elc.symm)
        have hf2 : H2 fo = some (.lst fs) := b2 _ _ (s1 _ _ hf) (not2 efd.symm efc.symm)
        have hlt : i.toNat < ls.length := by omega
        refine popAtL hl2 hi0 hi1 hlen2 (List.getElem?_eq_getElem hlt) ?_
        have hf3 : (upd H2 l (.lst (ls.eraseIdx i.toNat))) fo = some (.lst fs) := by
          rw [upd_ne elf.symm]
          exact hf2
        have hfl : fs.length ≤ 10000 := by
          have := hp.length_eq
          rw [List.length_append] at this
          omega
        refine appL hf3 (by rw [sizeLine_eq]; omega) ⟨rfl, ?_, ?_, ls.eraseIdx i.toNat, fs ++ [ls[i.toNat]], ?_, upd_same, ?_, ?_⟩
        · exact (((b1.trans (.of s1)).trans b2).new nl).new nfo
        · obtain ⟨cs, b3, hd3⟩ := hD2
          exact ⟨cs, b3, by rw [upd_ne efd, upd_ne eld]; exact hd3.1, by rw [upd_ne efc, upd_ne elc]; exact hd3.2.1, hd3.2.2⟩
        · rw [upd_ne elf, upd_same]
        · refine List.Perm.trans ?_ hp
          rw [List.append_assoc]
          refine List.Perm.append_left fs ?_
          exact cons_erase ls i.toNat hlt
        · rw [List.length_eraseIdx, if_pos hlt]
          omega
end
end K0
set_option Elab.async false
set_option linter.all false
set_option maxRecDepth 100000
set_option maxHeartbeats 4400000
set_option exponentiation.threshold 20000
namespace K0
open PySem PySem.Spec PyProof.Rows L2
local macro_rules | `(tactic| walk_at "vc") => `(tactic| try simp only [vq_st1_1, vq_st1_2, vq_st1_3, vq_st1_4, vq_st1_5, vq_st1_6, vq_st1_7, vq_st1_8, vq_st1_9, vq_st1_10, vq_st1_11, vq_st1_12, vq_st1_13, vq_st1_14, vq_st1_15, vq_st1_16, vq_st1_17, vq_st2_2, vq_st2_3, vq_st2_4, vq_st2_5, vq_st2_6, vq_st2_7, vq_st2_8, vq_st2_9, vq_st2_10, vq_st2_11, vq_st2_12, vq_st2_13, vq_st2_14, vq_st2_15, vq_st2_16, vq_st2_17, vq_st2_18, vq_st3_3, vq_st3_4, vq_st3_5, vq_st3_6, vq_st3_7, vq_st3_8, vq_st3_9, vq_st3_10, vq_st3_11, vq_st3_12, vq_st3_13, vq_st3_14, vq_st3_15, vq_st3_16, vq_st3_17, vq_st3_18, vq_st3_19, vq_st4_4, vq_st4_5, vq_st4_6, vq_st4_7, vq_st4_8, vq_st4_9, vq_st4_10, vq_st4_11, vq_st4_12, vq_st4_13, vq_st4_14, vq_st4_15, vq_st4_16, vq_st4_17, vq_st4_18, vq_st4_19, vq_st4_20, vq_cK, vq_cKn, vq_var, vq_c, vq_op, vq_un, vq_I, vq_I0, vq_U, vq_eqI, vq_neI, vq_neB, vq_nil, vq_cons, vq_call, vq_CB, vq_bl, vq_B, vq_test, vq_and, vq_or, vq_not, vq_andV, vq_orV, vq_notV, vq_if, vq_ifS, vq_chain, vq_seq, vq_next, vq_ret, vq_retN, vq_drop, vq_asg, vq_par, vq_par2, vq_aug, vq_some, vq_name, vq_gnil, vq_tup, vq_lst, vq_sz0, vq_sz1, vq_sz2, vq_sz3, vq_sz4, vq_tru, vq_BM, vq_BM0, vq_sl, vq_ite_t, vq_ite_f, vq_ite_d, vq_ite_n, List.getElem?_cons_zero, List.getElem?_cons_succ, List.set_cons_zero, List.set_cons_succ, vq_app, vq_yes, vq_wn, vq_wc, vq_o1, vq_o2, vq_o3, vq_intI, vq_gsub, reduceIte, Bool.false_eq_true, Bool.not_true, Bool.not_false])
theorem euc_succ : ∀ (k a b : Nat), (euc k a b).2 ≠ 0 → euc (k + 1) a b = ((euc k a b).2, (euc k a b).1 % (euc k a b).2)
  | 0, a, b, h => by
    have hb : b ≠ 0 := h
    show (if b = 0 then (a, b) else euc 0 b (a % b)) = _
    rw [if_neg hb]
    rfl
  | k + 1, a, b, h => by
    by_cases hb : b = 0
    · exfalso
      apply h
      show (if b = 0 then (a, b) else euc k b (a % b)).2 = 0
      rw [if_pos hb]
      exact hb
    · have e1 : euc (k + 1) a b = euc k b (a % b) := by
        show (if b = 0 then (a, b) else euc k b (a % b)) = _
        rw [if_neg hb]
      have e2 : euc (k + 1 + 1) a b = euc (k + 1) b (a % b) := by
        show (if b = 0 then (a, b) else euc (k + 1) b (a % b)) = _
        rw [if_neg hb]
      rw [e1] at h ⊢
      rw [e2, euc_succ k b (a % b) h]
section
variable {P : Program} {w : World} {K : PySem.W.Frag} {mg : Str → Option Value} {base : Heap}
/-! ### _law_m_lowest -/
abbrev s__law_m_lowest : Stmt := topS 25
theorem sc__law_m_lowest : FnScope ["top", "bottom", "one", "other", "turn"] ["top", "bottom"] (defScope s__law_m_lowest) := ⟨rfl, rfl, rfl, by decide +kernel, rfl, by decide +kernel, by decide +kernel⟩
def spMLowest : Sp := fun vs H Q _ => ∃ a b : Nat, vs = [.int a, .int b] ∧ 0 < b ∧ b ≤ 10 ^ 80 ∧ ∀ p, H p = none → Q (.ref p) (upd H p (pr (Rat.divInt a b)))
theorem c__law_m_lowest (G : Glb mg) (D : DefAt K mg "_law_m_lowest" s__law_m_lowest ["top", "bottom"]) : Callee P w K mg base CX0 1 "_law_m_lowest" ["top", "bottom"] spMLowest := by
  refine D.ok fun f fd F => F.ok sc__law_m_lowest (fun vs H Q E h => ?_) (fun cdv A outer s H vs Q E hr h => ?_)
  · obtain ⟨a, b, rfl, _⟩ := h
    rfl
  · obtain ⟨a, b, rfl, hb, hz, q⟩ := h
    refine ⟨_, (pss_cons (ps_par (i := 2) (j := 3) (by rfl) sc__law_m_lowest.nd rfl rfl (by decide) rfl rfl (pa_cons (pv 0) (pa_cons (pv 1) pa_nil)) (by rfl))
    (pss_cons (ps_for PassesOwn.never rfl (pi_range1 rfl G.m_range (pa_cons pe_int pa_nil)) (pg_name (i := 4) sc__law_m_lowest.nd rfl (Or.inl rfl)) (pss_cons (ps_if (pt_cmpR op_eq (pv 3) pe_int (nomark _)) (pss_one (ps_ret (pe_tup (pa_cons (pe_op op_fdivW (pv 0) (pv 2)) (pa_cons (pe_op op_fdivW (pv 1) (pv 2)) pa_nil))))) pss_nil)
    (pss_one (ps_par (i := 2) (j := 3) (by rfl) sc__law_m_lowest.nd rfl rfl (by decide) rfl rfl (pa_cons (pv 3) (pa_cons (pe_op op_modN (pe_callTy call_intI (by rfl) G.m_int (by decide +kernel) (pa_cons (pv 2) pa_nil)) (pv 3)) pa_nil)) (by rfl)))))
    (pss_one (ps_ret (pe_tup (pa_cons (pv 0) (pa_cons (pv 1) pa_nil))))))), ?_⟩
    walk_at "vc"
    refine ⟨_, rfl, by decide, by decide, for_range (lo := 0) (n := 400) (fun i σ H' => H' = H ∧ (∀ j, j < i → (euc j a b).2 ≠ 0) ∧ ∃ y, σ = [some (.int a), some (.int b), some (.int (euc i a b).1), some (.int (euc i a b).2), y]) ⟨rfl, fun j hj => absurd hj (Nat.not_lt_zero j), none, rfl⟩ (fun i σ H' hi hP => ?_) fun σ H' hP => ?_⟩
    · obtain ⟨rfl, hne, y, rfl⟩ := hP
      walk_at "vc"
      by_cases h0 : (euc i a b).2 = 0
      · have hg := euc_is_gcd h0
        have hg0 : 0 < Nat.gcd a b := Nat.gcd_pos_of_pos_right a hb
        have eg : ((euc i a b).1 : Int) = gI a b := by
          rw [hg]
          show _ = ((Nat.gcd (a : Int).natAbs (b : Int).natAbs : Nat) : Int)
          rw [Int.natAbs_natCast, Int.natAbs_natCast]
        have hgz : ((euc i a b).1 : Int).natAbs < 2 ^ 400 := by
          rw [hg, Int.natAbs_natCast]
          exact Nat.lt_of_le_of_lt (Nat.le_trans (Nat.gcd_le_right a hb) hz) (by decide +kernel)
        have hgp : (0 : Int) < ((euc i a b).1 : Int) := by
          rw [hg]
          omega
        refine iteT' (by omega) ⟨wide_div hgp hgz (by decide) (by decide), wide_div hgp hgz (by decide) (by decide), fun p np => ?_⟩
        have hb' : (0 : Int) < (b : Int) := by omega
        rw [eg, lo_num hb', lo_den hb']
        exact q p np
      · refine iteF' (by omega) ?_
        walk_at "vc"
        refine ⟨by omega, fun j hj => ?_, some (.int (0 + (i : Int))), ?_⟩
        · by_cases e : j = i
          · rw [e]
            exact h0
          · exact hne j (by omega)
        · rw [euc_succ i a b h0]
          have e1 : ((euc i a b).1 : Int).fmod ((euc i a b).2 : Int) = (((euc i a b).1 % (euc i a b).2 : Nat) : Int) := by
            rw [Int.fmod_eq_emod_of_nonneg _ (by omega), Int.natCast_emod]
          rw [e1]
    · obtain ⟨rfl, hne, y, rfl⟩ := hP
      exact absurd (euc_ends hz) (hne 399 (by decide))
/-! ### _law_shared -/
abbrev s__law_shared : Stmt := topS 29
theorem sc__law_shared : FnScope ["one", "other", "turn"] ["one", "other"] (defScope s__law_shared) := ⟨rfl, rfl, rfl, by decide +kernel, rfl, by decide +kernel, by decide +kernel⟩
def spShared : Sp := fun vs H Q _ => ∃ a b : Nat, vs = [.int a, .int b] ∧ b ≤ 10 ^ 80 ∧ Q (.int (Nat.gcd a b : Nat)) H
theorem c__law_shared (G : Glb mg) (D : DefAt K mg "_law_shared" s__law_shared ["one", "other"]) : Callee P w K mg base CX0 1 "_law_shared" ["one", "other"] spShared := by
  refine D.ok fun f fd F => F.ok sc__law_shared (fun vs H Q E h => ?_) (fun cdv A outer s H vs Q E hr h => ?_)
  · obtain ⟨a, b, rfl, _⟩ := h
    rfl
  · obtain ⟨a, b, rfl, hz, q⟩ := h
    refine ⟨_, (pss_cons (ps_for PassesOwn.never rfl (pi_range1 rfl G.m_range (pa_cons pe_int pa_nil)) (pg_name (i := 2) sc__law_shared.nd rfl (Or.inl rfl)) (pss_cons (ps_if (pt_cmpR op_eq (pv 1) pe_int (nomark _)) (pss_one (ps_ret (pv 0))) pss_nil)
    (pss_one (ps_par (i := 0) (j := 1) (by rfl) sc__law_shared.nd rfl rfl (by decide) rfl rfl (pa_cons (pv 1) (pa_cons (pe_op op_modN (pe_callTy call_intI (by rfl) G.m_int (by decide +kernel) (pa_cons (pv 0) pa_nil)) (pv 1)) pa_nil)) (by rfl)))))
    (pss_one (ps_ret pe_int))), ?_⟩
    walk_at "vc"
    refine ⟨_, rfl, by decide, by decide, for_range (lo := 0) (n := 400) (fun i σ H' => H' = H ∧ (∀ j, j < i → (euc j a b).2 ≠ 0) ∧ ∃ y, σ = [some (.int (euc i a b).1), some (.int (euc i a b).2), y]) ⟨rfl, fun j hj => absurd hj (Nat.not_lt_zero j), none, rfl⟩ (fun i σ H' hi hP => ?_) fun σ H' hP => ?_⟩
    · obtain ⟨rfl, hne, y, rfl⟩ := hP
      walk_at "vc"
      by_cases h0 : (euc i a b).2 = 0
      · refine iteT' (by omega) ?_
        rw [euc_is_gcd h0]
        exact q
      · refine iteF' (by omega) ?_
        walk_at "vc"
        refine ⟨by omega, fun j hj => ?_, some (.int (0 + (i : Int))), ?_⟩
        · by_cases e : j = i
          · rw [e]
            exact h0
          · exact hne j (by omega)
        · rw [euc_succ i a b h0]
          have e1 : ((euc i a b).1 : Int).fmod ((euc i a b).2 : Int) = (((euc i a b).1 % (euc i a b).2 : Nat) : Int) := by
            rw [Int.fmod_eq_emod_of_nonneg _ (by omega), Int.natCast_emod]
          rw [e1]
    · obtain ⟨rfl, hne, y, rfl⟩ := hP
      exact absurd (euc_ends hz) (hne 399 (by decide))
end
end K0
set_option Elab.async false
set_option linter.all false
set_option maxRecDepth 100000
set_option maxHeartbeats 4400000
set_option exponentiation.threshold 20000
namespace K0
open PySem PySem.Spec PyProof.Rows L2
local macro_rules | `(tactic| walk_at "vc") => `(tactic| try simp only [vq_st1_1, vq_st1_2, vq_st1_3, vq_st1_4, vq_st1_5, vq_st1_6, vq_st1_7, vq_st1_8, vq_st1_9, vq_st1_10, vq_st1_11, vq_st1_12, vq_st1_13, vq_st1_14, vq_st1_15, vq_st1_16, vq_st1_17, vq_st2_2, vq_st2_3, vq_st2_4, vq_st2_5, vq_st2_6, vq_st2_7, vq_st2_8, vq_st2_9, vq_st2_10, vq_st2_11, vq_st2_12, vq_st2_13, vq_st2_14, vq_st2_15, vq_st2_16, vq_st2_17, vq_st2_18, vq_st3_3, vq_st3_4, vq_st3_5, vq_st3_6, vq_st3_7, vq_st3_8, vq_st3_9, vq_st3_10, vq_st3_11, vq_st3_12, vq_st3_13, vq_st3_14, vq_st3_15, vq_st3_16, vq_st3_17, vq_st3_18, vq_st3_19, vq_st4_4, vq_st4_5, vq_st4_6, vq_st4_7, vq_st4_8, vq_st4_9, vq_st4_10, vq_st4_11, vq_st4_12, vq_st4_13, vq_st4_14, vq_st4_15, vq_st4_16, vq_st4_17, vq_st4_18, vq_st4_19, vq_st4_20, vq_cK, vq_cKn, vq_var, vq_c, vq_op, vq_un, vq_I, vq_I0, vq_U, vq_eqI, vq_neI, vq_neB, vq_nil, vq_cons, vq_call, vq_CB, vq_bl, vq_B, vq_test, vq_and, vq_or, vq_not, vq_andV, vq_orV, vq_notV, vq_if, vq_ifS, vq_chain, vq_seq, vq_next, vq_ret, vq_retN, vq_drop, vq_asg, vq_par, vq_par2, vq_aug, vq_some, vq_name, vq_gnil, vq_tup, vq_lst, vq_sz0, vq_sz1, vq_sz2, vq_sz3, vq_sz4, vq_tru, vq_BM, vq_BM0, vq_sl, vq_ite_t, vq_ite_f, vq_ite_d, vq_ite_n, List.getElem?_cons_zero, List.getElem?_cons_succ, List.set_cons_zero, List.set_cons_succ, vq_app, vq_yes, vq_wn, vq_wc, vq_o1, vq_o2, vq_o3, vq_intI, vq_gsub, reduceIte, Bool.false_eq_true, Bool.not_true, Bool.not_false])
section
variable {P : Program} {w : World} {K : PySem.W.Frag} {mg : Str → Option Value} {base : Heap}
/-! ### _law_less -/
abbrev s__law_less : Stmt := topS 28
theorem sc__law_less : FnScope ["share", "some", "top", "bottom", "one", "by"] ["share", "some"] (defScope s__law_less) := ⟨rfl, rfl, rfl, by decide +kernel, rfl, by decide +kernel, by decide +kernel⟩
def spLess (K : PySem.W.Frag) : Sp := fun vs H Q _ => ∃ (v : V) (a : Addr) (s : Rat) (xs : List V) (rs : List Rat) (D : Nat), vs = [v, .ref a] ∧ shV K H v s ∧ Sh s ∧ Dv D s ∧ SqL K H a xs ∧ Paired (shV K H) xs rs ∧ (∀ r ∈ rs, Sh r ∧ Dv D r) ∧ D ≠ 0 ∧ D ≤ 10 ^ 40 ∧ rs.length ≤ 2000 ∧
  ∀ p, H p = none → Q (.ref p) (upd H p (pr (s - rsum 0 rs)))
theorem gcd_abs {t b : Int} : ((Nat.gcd (if t < 0 then -t else t).toNat b.toNat : Nat) : Int) = gI t b ∨ b < 0 := by
  by_cases hb : b < 0
  · exact .inr hb
  · refine .inl ?_
    have e1 : (if t < 0 then -t else t).toNat = t.natAbs := by split <;> omega
    have e2 : b.toNat = b.natAbs := by omega
    rw [e1, e2]
theorem c__law_less (G : Glb mg) (D : DefAt K mg "_law_less" s__law_less ["share", "some"]) (c__law_shared : Callee P w K mg base CX0 1 "_law_shared" ["one", "other"] spShared) : Callee P w K mg base CX0 2 "_law_less" ["share", "some"] (spLess K) := by
  refine D.ok fun f fd F => F.ok sc__law_less (fun vs H Q E h => ?_) (fun cdv A outer s H vs Q E hr h => ?_)
  · obtain ⟨v, a, s, xs, rs, D, rfl, _⟩ := h
    rfl
  · obtain ⟨v, a, sh, xs, rs, D, rfl, ⟨t0, rfl, hT0⟩, hS, dv, hA, hP, hR, h0, hD, hl, q⟩ := h
    refine ⟨_, (pss_cons (ps_asg (pv 0) (pg_tup rfl (pgs_cons (pg_name (i := 2) sc__law_less.nd rfl (Or.inl rfl)) (pgs_cons (pg_name (i := 3) sc__law_less.nd rfl (Or.inl rfl)) pgs_nil))))
    (pss_cons (ps_for PassesOwn.never rfl (pi_list (pv 1)) (pg_name (i := 4) sc__law_less.nd rfl (Or.inl rfl)) (pss_cons (ps_par (i := 2) (j := 3) (by rfl) sc__law_less.nd rfl rfl (by decide) rfl rfl (pa_cons (pe_op op_sub (pe_op op_mulW (pv 2) (pe_ix ix_tup (pv 4) pe_int (fun _ _ => rfl))) (pe_op op_mulW (pe_ix ix_tup (pv 4) pe_int (fun _ _ => rfl)) (pv 3))) (pa_cons (pe_op op_mulW (pv 3) (pe_ix ix_tup (pv 4) pe_int (fun _ _ => rfl))) pa_nil)) (by rfl))
    (pss_cons (ps_set (i := 5) sc__law_less.nd rfl (Or.inl rfl) (pe_callB (call_max2 rfl) (by rfl) G.m_max (by decide +kernel) (pa_cons pe_int (pa_cons (pe_fn c__law_shared hr rfl (pa_cons (pe_callB call_abs (by rfl) G.m_abs (by decide +kernel) (pa_cons (pv 2) pa_nil)) (pa_cons (pv 3) pa_nil))) pa_nil))))
    (pss_one (ps_par (i := 2) (j := 3) (by rfl) sc__law_less.nd rfl rfl (by decide) rfl rfl (pa_cons (pe_op op_fdivW (pv 2) (pv 5)) (pa_cons (pe_op op_fdivW (pv 3) (pv 5)) pa_nil)) (by rfl))))))
    (pss_one (ps_ret (pe_tup (pa_cons (pv 2) (pa_cons (pv 3) pa_nil))))))), ?_⟩
    walk_at "vc"
    refine gt2 hT0 ?_
    walk_at "vc"
    have hlen : xs.length = rs.length := hP.length
    have hD9 : D < 2 ^ 1000 := Nat.lt_of_le_of_lt hD (by decide +kernel)
    refine ⟨_, rfl, a, rfl, ⟨_, hA⟩, for_list (K := K) (a := a) (xs := xs) (fun i σ H' => H' = H ∧ ∃ y z, σ = [some (.ref t0), some (.ref a), some (.int (sh - rsum 0 (rs.take i)).num), some (.int ((sh - rsum 0 (rs.take i)).den : Int)), y, z]) ⟨rfl, none, none, ?_⟩ (fun i σ H' _ h => by rw [h.1]; exact hA) (fun i x σ H' hx hP' => ?_) (fun σ H' hP' => ?_)⟩
    · show _ = [_, _, some (V.int (sh - 0).num), some (V.int ((sh - 0).den : Int)), none, none]
      rw [show sh - 0 = sh by grind]
    · obtain ⟨rfl, y, z, rfl⟩ := hP'
      obtain ⟨hlt, _⟩ := List.getElem?_eq_some_iff.mp hx
      obtain ⟨x', r, e1, e2, t, rfl, hT⟩ := paired_at hP i hlt
      obtain rfl : x = .ref t := Option.some.inj (hx.symm.trans e1)
      have hr' := hR r (List.mem_of_getElem? e2)
      have fr := hr'.1.fit hr'.2
      have fs := rsum_fit h0 (rs := rs.take i) (fun r hr => hR r (List.mem_of_mem_take hr)) (by rw [List.length_take]; omega)
      have e := rsum_take e2
      generalize hg : sh - rsum 0 (rs.take i) = g
      have gdv : Dv D g := hg ▸ dv.sub h0 fs.dv
      have gle : g ≤ 1 := by
        have := hS.2
        have := fs.nn
        rw [← hg]
        grind
      have gge : -(4000 : Rat) ≤ g := by
        have := hS.1
        have := fs.le
        rw [← hg]
        grind
      have gd : g.den ≤ D := gdv.den h0
      have rd : r.den ≤ D := fr.dv.den h0
      have gn : g.num.natAbs ≤ 4000 * D := by
        have h1 := num_le_den gle
        have h2 : -(4000 * (g.den : Int)) ≤ g.num := by
          have h3 : -g ≤ ((4000 : Nat) : Rat) := by
            have : ((4000 : Nat) : Rat) = 4000 := rfl
            rw [this]
            grind
          have h4 := num_le h3
          rw [Rat.neg_num, Rat.neg_den] at h4
          omega
        omega
      have rn : r.num.natAbs ≤ D := by
        have h1 := num_le_den hr'.1.2
        have h2 := hr'.1.num.1
        omega
      have dpg := den_pos' g
      have dpr := den_pos' r
      have b1 : D < 2 ^ 140 := Nat.lt_of_le_of_lt hD (by decide +kernel)
      have w1 : g.num.natAbs < 2 ^ 152 := by
        have e9 : (2 : Nat) ^ 152 = 2 ^ 12 * 2 ^ 140 := by decide +kernel
        rw [e9]
        omega
      have w2 : (r.den : Int).natAbs < 2 ^ 140 := by rw [Int.natAbs_natCast]; omega
      have w3 : r.num.natAbs < 2 ^ 140 := by omega
      have w4 : (g.den : Int).natAbs < 2 ^ 140 := by rw [Int.natAbs_natCast]; omega
      walk_at "vc"
      refine ixT hT rfl ?_
      walk_at "vc"
      refine ⟨wide_mul w1 w2 (by decide) (by decide) (by decide), ?_⟩
      refine ixT hT rfl ?_
      walk_at "vc"
      refine ⟨wide_mul w3 w4 (by decide) (by decide) (by decide), ?_⟩
      refine ixT hT rfl ?_
      walk_at "vc"
      refine ⟨wide_mul w4 w2 (by decide) (by decide) (by decide), ?_⟩
      have hb : (0 : Int) < (g.den : Int) * (r.den : Int) := Int.mul_pos dpg dpr
      have hbz : (((g.den : Int) * (r.den : Int)).toNat) ≤ 10 ^ 80 := by
        have e9 : ((g.den : Int) * (r.den : Int)) = ((g.den * r.den : Nat) : Int) := by rw [Int.natCast_mul]
        rw [e9, Int.toNat_natCast]
        have h1 : g.den * r.den ≤ 10 ^ 40 * 10 ^ 40 := Nat.mul_le_mul (Nat.le_trans gd hD) (Nat.le_trans rd hD)
        have h2 : (10 : Nat) ^ 40 * 10 ^ 40 = 10 ^ 80 := by decide +kernel
        omega
      generalize ht : g.num * (r.den : Int) - r.num * (g.den : Int) = tt
      generalize hbb : (g.den : Int) * (r.den : Int) = bb at hb hbz ⊢
      have hgp := gI_pos (t := tt) hb
      have hgc := (gcd_abs (t := tt) (b := bb)).resolve_right (by omega)
      refine ⟨tt, rfl, (if tt < 0 then -tt else tt).toNat, bb.toNat, ?_, hbz, ?_⟩
      · have h1 : (((if tt < 0 then -tt else tt).toNat : Nat) : Int) = if tt < 0 then -tt else tt := by split <;> omega
        have h2 : ((bb.toNat : Nat) : Int) = bb := by omega
        rw [h1, h2]
      · rw [hgc]
        have hmx : (if gI tt bb > 1 then gI tt bb else 1) = gI tt bb := by split <;> omega
        have hgz : (gI tt bb).natAbs < 2 ^ 280 := by
          refine wide_le (Int.le_of_lt hgp) (gI_le hb) ?_
          have h2 : (10 : Nat) ^ 80 < 2 ^ 280 := by decide +kernel
          omega
        refine ⟨1, gI tt bb, rfl, ?_⟩
        rw [hmx]
        walk_at "vc"
        refine ⟨wide_div hgp hgz (by decide) (by decide), wide_div hgp hgz (by decide) (by decide), some (.ref t), some (.int (gI tt bb)), ?_⟩
        have e3 : Rat.divInt tt bb = sh - rsum 0 (rs.take (i + 1)) := by
          rw [← ht, ← hbb, sub_lo, e, ← hg]
          grind
        rw [lo_num hb, lo_den hb, e3]
    · obtain ⟨rfl, y, z, rfl⟩ := hP'
      walk_at "vc"
      intro p np
      have e : rs.take xs.length = rs := by rw [hlen]; exact List.take_length
      rw [e]
      exact q p np
end
end K0
set_option Elab.async false
set_option linter.all false
set_option maxRecDepth 100000
set_option maxHeartbeats 4400000
set_option exponentiation.threshold 20000
namespace K0
open PySem PySem.Spec PyProof.Rows L2
local macro_rules | `(tactic| walk_at "vc") => `(tactic| try simp only [vq_st1_1, vq_st1_2, vq_st1_3, vq_st1_4, vq_st1_5, vq_st1_6, vq_st1_7, vq_st1_8, vq_st1_9, vq_st1_10, vq_st1_11, vq_st1_12, vq_st1_13, vq_st1_14, vq_st1_15, vq_st1_16, vq_st1_17, vq_st2_2, vq_st2_3, vq_st2_4, vq_st2_5, vq_st2_6, vq_st2_7, vq_st2_8, vq_st2_9, vq_st2_10, vq_st2_11, vq_st2_12, vq_st2_13, vq_st2_14, vq_st2_15, vq_st2_16, vq_st2_17, vq_st2_18, vq_st3_3, vq_st3_4, vq_st3_5, vq_st3_6, vq_st3_7, vq_st3_8, vq_st3_9, vq_st3_10, vq_st3_11, vq_st3_12, vq_st3_13, vq_st3_14, vq_st3_15, vq_st3_16, vq_st3_17, vq_st3_18, vq_st3_19, vq_st4_4, vq_st4_5, vq_st4_6, vq_st4_7, vq_st4_8, vq_st4_9, vq_st4_10, vq_st4_11, vq_st4_12, vq_st4_13, vq_st4_14, vq_st4_15, vq_st4_16, vq_st4_17, vq_st4_18, vq_st4_19, vq_st4_20, vq_cK, vq_cKn, vq_var, vq_c, vq_op, vq_un, vq_I, vq_I0, vq_U, vq_eqI, vq_neI, vq_neB, vq_nil, vq_cons, vq_call, vq_CB, vq_bl, vq_B, vq_test, vq_and, vq_or, vq_not, vq_andV, vq_orV, vq_notV, vq_if, vq_ifS, vq_chain, vq_seq, vq_next, vq_ret, vq_retN, vq_drop, vq_asg, vq_par, vq_par2, vq_aug, vq_some, vq_name, vq_gnil, vq_tup, vq_lst, vq_sz0, vq_sz1, vq_sz2, vq_sz3, vq_sz4, vq_tru, vq_BM, vq_BM0, vq_sl, vq_ite_t, vq_ite_f, vq_ite_d, vq_ite_n, List.getElem?_cons_zero, List.getElem?_cons_succ, List.set_cons_zero, List.set_cons_succ, vq_app, vq_yes, vq_wn, vq_wc, vq_o1, vq_o2, vq_o3, vq_intI, vq_gsub, reduceIte, Bool.false_eq_true, Bool.not_true, Bool.not_false])
theorem seqT_upd {K : PySem.W.Frag} {H : Hp} {D t : Addr} {l xs : List V} {o : HO} (hD : H D = some (.lst l)) (h : SqT K H t xs) : SqT K (upd H D o) t xs := by
  rcases h with (h | ⟨ob, h⟩) | h
  · exact .inl (.inl (by rw [upd_ne (ne_of h hD (by intro z; cases z))]; exact h))
  · exact .inl (.inr ⟨ob, by rw [upd_ne (ne_of h hD (by intro z; cases z))]; exact h⟩)
  · exact .inr h
theorem shV_upd {K : PySem.W.Frag} {H : Hp} {D : Addr} {l : List V} {o : HO} {v : V} {r : Rat} (hD : H D = some (.lst l)) (h : shV K H v r) : shV K (upd H D o) v r := by
  obtain ⟨t, e, h⟩ := h
  exact ⟨t, e, seqT_upd hD h⟩
/-- a part of s by weights -/
def cutR (s : Rat) (W : Nat) (w : Nat) : Rat := Rat.divInt (s.num * w) (s.den * W)
theorem cutR_eq {s : Rat} {W w : Nat} (hW : W ≠ 0) : cutR s W w = s * (Rat.divInt w W) := by
  unfold cutR
  have h1 : (s.den : Int) ≠ 0 := by have := s.den_pos; omega
  have h2 : (W : Int) ≠ 0 := by omega
  rw [← Rat.divInt_mul_divInt, Rat.num_divInt_den]
theorem cut_sum {s : Rat} {W : Nat} (hW : W ≠ 0) : ∀ ws : List Nat, rsum 0 (ws.map (cutR s W)) = s * Rat.divInt ws.sum W
  | [] => by
    show (0 : Rat) = s * Rat.divInt ((0 : Nat) : Int) W
    rw [show ((0 : Nat) : Int) = 0 from rfl, Rat.zero_divInt]
    grind
  | w :: ws => by
    rw [List.map_cons, rsum_cons, cut_sum hW ws, cutR_eq hW, List.sum_cons, Int.natCast_add]
    have h2 : (W : Int) ≠ 0 := by omega
    have e : Rat.divInt ((w : Int) + (ws.sum : Int)) W = Rat.divInt w W + Rat.divInt ws.sum W := by
      rw [Rat.divInt_add_divInt _ _ h2 h2, Rat.divInt_eq_divInt_iff h2 (Int.mul_ne_zero h2 h2)]
      grind
    rw [e]
    grind
theorem cut_all {s : Rat} {ws : List Nat} (h : ws.sum ≠ 0) : rsum 0 (ws.map (cutR s ws.sum)) = s := by
  rw [cut_sum h]
  have h2 : (ws.sum : Int) ≠ 0 := by omega
  rw [Rat.divInt_self' h2]
  grind
theorem cut_sh {s : Rat} {W w : Nat} (hs : Sh s) (h1 : 1 ≤ w) (h2 : w ≤ W) : Sh (cutR s W w) := by
  have hn := hs.num
  have hb : (0 : Int) < (s.den : Int) * (W : Int) := Int.mul_pos (den_pos' s) (by omega)
  unfold cutR
  have hp : (0 : Int) < s.num * (w : Int) := Int.mul_pos hn.1 (by omega)
  have hle : s.num * (w : Int) ≤ (s.den : Int) * (W : Int) := Int.mul_le_mul hn.2 (by omega) (by omega) (by omega)
  have hg := gI_pos (t := s.num * (w : Int)) hb
  refine sh_of ?_ ?_
  · rw [← lo_num hb]
    exact Int.ediv_pos_of_pos_of_dvd hp (Int.le_of_lt hg) (Int.natAbs_dvd_natAbs.mp (by rw [Int.natAbs_natCast]; exact Nat.gcd_dvd_left _ _))
  · rw [← lo_num hb, ← lo_den hb]
    exact Int.ediv_le_ediv hg hle
theorem cut_dv {s : Rat} {D W w : Nat} (hW : W ≠ 0) (h0 : D ≠ 0) (dv : Dv D s) : Dv (D * W) (cutR s W w) := by
  obtain ⟨n, rfl⟩ := dv
  refine ⟨n * w, ?_⟩
  rw [cutR_eq hW, Rat.divInt_mul_divInt, Int.natCast_mul]
section
variable {P : Program} {w : World} {K : PySem.W.Frag} {mg : Str → Option Value} {base : Heap}
/-! ### _law_cut -/
abbrev s__law_cut : Stmt := topS 27
theorem sc__law_cut : FnScope ["share", "weights", "whole", "one"] ["share", "weights"] (defScope s__law_cut) := ⟨rfl, rfl, rfl, by decide +kernel, rfl, by decide +kernel, by decide +kernel⟩
def spCut (K : PySem.W.Frag) : Sp := fun vs H Q _ => ∃ (v : V) (a : Addr) (s : Rat) (ws : List Nat) (D : Nat), vs = [v, .ref a] ∧ shV K H v s ∧ Sh s ∧ Dv D s ∧ D ≠ 0 ∧ D ≤ 10 ^ 60 ∧ SqL K H a (ws.map fun w : Nat => V.int w) ∧ 1 ≤ ws.length ∧ ws.length ≤ 20 ∧ (∀ w ∈ ws, 1 ≤ w ∧ w ≤ 99) ∧
  ∀ H' p xs, Same H H' → H p = none → H' p = some (.lst xs) → Paired (shV K H') xs (ws.map (cutR s ws.sum)) → Q (.ref p) H'
theorem sum_le {ws : List Nat} (h : ∀ w ∈ ws, 1 ≤ w ∧ w ≤ 99) : ws.length ≤ ws.sum ∧ ws.sum ≤ 99 * ws.length := by
  induction ws with
  | nil => exact ⟨Nat.le_refl _, Nat.le_refl _⟩
  | cons a r ih =>
    have h1 := ih fun w hw => h w (List.mem_cons_of_mem _ hw)
    have h2 := h a List.mem_cons_self
    rw [List.length_cons, List.sum_cons]
    omega
theorem mem_le_sum {ws : List Nat} {w : Nat} (h : w ∈ ws) : w ≤ ws.sum := by
  induction ws with
  | nil => cases h
  | cons a r ih =>
    rw [List.sum_cons]
    rcases (List.mem_cons.mp h) with rfl | h
    · omega
    · have := ih h
      omega
theorem c__law_cut (G : Glb mg) (D : DefAt K mg "_law_cut" s__law_cut ["share", "weights"]) (c__law_m_lowest : Callee P w K mg base CX0 1 "_law_m_lowest" ["top", "bottom"] spMLowest) : Callee P w K mg base CX0 2 "_law_cut" ["share", "weights"] (spCut K) := by
  refine D.ok fun f fd F => F.ok sc__law_cut (fun vs H Q E h => ?_) (fun cdv A outer s H vs Q E hr h => ?_)
  · obtain ⟨v, a, s, ws, D, rfl, _⟩ := h
    rfl
  · obtain ⟨v, a, sh, ws, D, rfl, ⟨t, rfl, hT⟩, hS, dv, h0, hD, hA, hl1, hl, hw, q⟩ := h
    refine ⟨_, (pss_cons (ps_set (i := 2) sc__law_cut.nd rfl (Or.inr rfl) (pe_callB (cr_sum rfl) (by rfl) G.m_sum (by decide +kernel) (pa_cons (pv 1) pa_nil)))
    (pss_one (ps_ret (pe_lc (own := [("one", 3)]) (g := gName 3) (by rfl) sc__law_cut.nd (pi_list (pv 1)) (blkOk_by (own := [("one", 3)]) (N := ["share", "weights", "whole", "one"]) (sc := defScope s__law_cut) (by decide +kernel)) (fun _ _ _ _ _ => (pg_name (i := 3) sc__law_cut.nd rfl (Or.inl rfl))) (fun _ _ _ _ _ => pts_nil) (fun _ _ _ _ _ => (pe_fn c__law_m_lowest hr rfl (pa_cons (pe_op op_mulW (pe_ix (ix_tupK (K := K) rfl) (pv 0) pe_int (fun _ _ => rfl)) (pv 3)) (pa_cons (pe_op op_mulW (pe_ix (ix_tupK (K := K) rfl) (pv 0) pe_int (fun _ _ => rfl)) (pv 2)) pa_nil)))))))), ?_⟩
    walk_at "vc"
    have hmap : (ws.map fun w : Nat => V.int w) = (ws.map fun w : Nat => (w : Int)).map V.int := by rw [List.map_map]; rfl
    have hsum : (ws.map fun w : Nat => (w : Int)).sum = (ws.sum : Nat) := by
      clear hA hl1 hl hw q hmap
      induction ws with
      | nil => rfl
      | cons a r ih => rw [List.map_cons, List.sum_cons, List.sum_cons, ih, Int.natCast_add]
    refine ⟨a, ws.map fun w : Nat => (w : Int), rfl, hmap ▸ hA, ?_⟩
    rw [hsum]
    walk_at "vc"
    have hsz := sum_le hw
    have hn := hS.num
    have hd : sh.den ≤ D := dv.den h0
    have hD2 : D < 2 ^ 300 := Nat.lt_of_le_of_lt hD (by decide +kernel)
    refine ⟨_, rfl, a, rfl, ⟨_, hA⟩, fun Dd nD => ?_⟩
    refine lc_list (K := K) (a := a) (xs := ws.map fun w : Nat => V.int w) (fun i H' => Same H H' ∧ ∃ acc, H' Dd = some (.lst acc) ∧ Paired (shV K H') acc ((ws.map (cutR sh ws.sum)).take i)) ⟨same_new nD, [], upd_same, .nil⟩ (fun i H' _ h => h.1.seq hA) (fun i x H' hx hP => ?_) fun H' hP => ?_
    · obtain ⟨s1, acc, hacc, hp⟩ := hP
      rw [List.getElem?_map] at hx
      obtain ⟨w0, ew, rfl⟩ := Option.map_eq_some_iff.mp hx
      have hwm := List.mem_of_getElem? ew
      have hw0 := hw w0 hwm
      have hT' := s1.seqT hT
      refine ⟨rfl, ?_⟩
      walk_at "vc"
      refine ixT hT' rfl ?_
      walk_at "vc"
      have w1 : sh.num.natAbs < 2 ^ 300 := by omega
      have w2 : (sh.den : Int).natAbs < 2 ^ 300 := by rw [Int.natAbs_natCast]; omega
      have w3 : (w0 : Int).natAbs < 2 ^ 20 := by rw [Int.natAbs_natCast]; omega
      have w4 : (ws.sum : Int).natAbs < 2 ^ 20 := by rw [Int.natAbs_natCast]; omega
      refine ⟨wide_mul w1 w3 (by decide) (by decide) (by decide), ?_⟩
      refine ixT hT' rfl ?_
      walk_at "vc"
      refine ⟨wide_mul w2 w4 (by decide) (by decide) (by decide), ?_⟩
      have e1 : sh.num * (w0 : Int) = ((sh.num.toNat * w0 : Nat) : Int) := by
        rw [Int.natCast_mul, Int.toNat_of_nonneg (Int.le_of_lt hn.1)]
      refine ⟨sh.num.toNat * w0, sh.den * ws.sum, ?_, Nat.mul_pos sh.den_pos (by omega), ?_, fun p np => ?_⟩
      · rw [e1]
        simp only [Int.natCast_mul]
      · have h1 : sh.den * ws.sum ≤ 10 ^ 60 * 1980 := Nat.mul_le_mul (Nat.le_trans hd hD) (by omega)
        have h2 : (10 : Nat) ^ 60 * 1980 ≤ 10 ^ 80 := by decide +kernel
        omega
      · have e2 : Rat.divInt ((sh.num.toNat * w0 : Nat) : Int) ((sh.den * ws.sum : Nat) : Int) = cutR sh ws.sum w0 := by
          unfold cutR
          rw [← e1, Int.natCast_mul]
        rw [e2]
        have s2 := same_new (o := pr (cutR sh ws.sum w0)) np
        have hacc2 := s2 _ _ hacc
        refine ⟨acc, hacc2, ?_, ?_, acc ++ [.ref p], upd_same, ?_⟩
        · have := hp.length
          rw [List.length_take, List.length_map] at this
          rw [sizeLine_eq]
          omega
        · intro b o e
          rw [upd_ne (ne_of_none e nD)]
          exact s2 _ _ (s1 _ _ e)
        · have e3 : ((ws.map (cutR sh ws.sum)).take (i + 1)) = (ws.map (cutR sh ws.sum)).take i ++ [cutR sh ws.sum w0] := by
            rw [List.take_add_one, List.getElem?_map, ew]
            rfl
          rw [e3]
          refine Paired.snoc (Paired.mono (fun v r h => shV_upd hacc2 (h.same s2)) hp) (shV_upd hacc2 ⟨p, rfl, isT upd_same⟩)
    · obtain ⟨s1, acc, hacc, hp⟩ := hP
      rw [List.take_of_length_le (by rw [List.length_map, List.length_map]; exact Nat.le_refl _)] at hp
      exact q H' Dd acc s1 nD hacc hp
end
end K0
set_option Elab.async false
set_option linter.all false
set_option maxRecDepth 100000
set_option maxHeartbeats 4400000
set_option exponentiation.threshold 20000
namespace K0
open PySem PySem.Spec PyProof.Rows L2
local macro_rules | `(tactic| walk_at "vc") => `(tactic| try simp only [vq_st1_1, vq_st1_2, vq_st1_3, vq_st1_4, vq_st1_5, vq_st1_6, vq_st1_7, vq_st1_8, vq_st1_9, vq_st1_10, vq_st1_11, vq_st1_12, vq_st1_13, vq_st1_14, vq_st1_15, vq_st1_16, vq_st1_17, vq_st2_2, vq_st2_3, vq_st2_4, vq_st2_5, vq_st2_6, vq_st2_7, vq_st2_8, vq_st2_9, vq_st2_10, vq_st2_11, vq_st2_12, vq_st2_13, vq_st2_14, vq_st2_15, vq_st2_16, vq_st2_17, vq_st2_18, vq_st3_3, vq_st3_4, vq_st3_5, vq_st3_6, vq_st3_7, vq_st3_8, vq_st3_9, vq_st3_10, vq_st3_11, vq_st3_12, vq_st3_13, vq_st3_14, vq_st3_15, vq_st3_16, vq_st3_17, vq_st3_18, vq_st3_19, vq_st4_4, vq_st4_5, vq_st4_6, vq_st4_7, vq_st4_8, vq_st4_9, vq_st4_10, vq_st4_11, vq_st4_12, vq_st4_13, vq_st4_14, vq_st4_15, vq_st4_16, vq_st4_17, vq_st4_18, vq_st4_19, vq_st4_20, vq_cK, vq_cKn, vq_var, vq_c, vq_op, vq_un, vq_I, vq_I0, vq_U, vq_eqI, vq_neI, vq_neB, vq_nil, vq_cons, vq_call, vq_CB, vq_bl, vq_B, vq_test, vq_and, vq_or, vq_not, vq_andV, vq_orV, vq_notV, vq_if, vq_ifS, vq_chain, vq_seq, vq_next, vq_ret, vq_retN, vq_drop, vq_asg, vq_par, vq_par2, vq_aug, vq_some, vq_name, vq_gnil, vq_tup, vq_lst, vq_sz0, vq_sz1, vq_sz2, vq_sz3, vq_sz4, vq_tru, vq_BM, vq_BM0, vq_sl, vq_ite_t, vq_ite_f, vq_ite_d, vq_ite_n, List.getElem?_cons_zero, List.getElem?_cons_succ, List.set_cons_zero, List.set_cons_succ, vq_app, vq_yes, vq_wn, vq_wc, vq_o1, vq_o2, vq_o3, vq_intI, vq_gsub, reduceIte, Bool.false_eq_true, Bool.not_true, Bool.not_false])
section
variable {P : Program} {w : World} {K : PySem.W.Frag} {mg : Str → Option Value} {base : Heap}
/-! ### _law_draw -/
abbrev s__law_draw : Stmt := topS 20
theorem sc__law_draw : FnScope ["script", "salt", "cells", "cell", "blend"] ["script", "salt"] (defScope s__law_draw) := ⟨rfl, rfl, rfl, by decide +kernel, rfl, by decide +kernel, by decide +kernel⟩
def spDraw (K : PySem.W.Frag) : Sp := fun vs H Q _ => ∃ (a : Addr) (ns : List Int) (z : Int), vs = [.ref a, .int z] ∧ SqL K H a (ns.map V.int) ∧ 0 ≤ z ∧ z < 1000 ∧ ∀ H' d c, Same H H' → H d = none → H c = none → Deal H' d c → Q (.ref d) H'
def Ints (n : Nat) (acc : List V) : Prop := ∃ zs : List Int, acc = zs.map V.int ∧ zs.length ≤ n ∧ ∀ z ∈ zs, 0 ≤ z
theorem Ints.snoc {n : Nat} {acc : List V} {z : Int} (h : Ints n acc) (hz : 0 ≤ z) : Ints (n + 1) (acc ++ [.int z]) := by
  obtain ⟨zs, rfl, h1, h2⟩ := h
  refine ⟨zs ++ [z], by simp, by simp; omega, fun y hy => ?_⟩
  rcases (List.mem_append.mp hy) with hy | hy
  · exact h2 y hy
  · obtain rfl : y = z := by simpa using hy
    exact hz
theorem getD_int {zs : List Int} {i : Nat} (h : i < (zs.map V.int).length) : ∃ z, z ∈ zs ∧ (zs.map V.int).getD i .non = .int z := by
  have hi : i < zs.length := by simpa using h
  refine ⟨zs[i], List.getElem_mem hi, ?_⟩
  rw [List.getD_eq_getElem?_getD, List.getElem?_map, List.getElem?_eq_getElem hi]
  rfl
theorem c__law_draw (G : Glb mg) (D : DefAt K mg "_law_draw" s__law_draw ["script", "salt"]) : Callee P w K mg base CX0 1 "_law_draw" ["script", "salt"] (spDraw K) := by
  refine D.ok fun f fd F => F.ok sc__law_draw (fun vs H Q E h => ?_) (fun cdv A outer s H vs Q E hr h => ?_)
  · obtain ⟨a, ns, z, rfl, _⟩ := h
    rfl
  · obtain ⟨a, ns, z, rfl, hA, hz0, hz1, q⟩ := h
    refine ⟨_, (pss_cons (ps_setLc (i := 2) (own := [("cell", 3)]) (g := gName 3) (by rfl) sc__law_draw.nd rfl rfl (sw_true rfl rfl rfl (by decide +kernel)) (pi_list (pe_slice sl_list (pv 0) po_none (po_some pe_int))) (blkOk_by (own := [("cell", 3)]) (N := ["script", "salt", "cells", "cell", "blend"]) (sc := defScope s__law_draw) (by decide +kernel)) (fun _ _ _ _ _ => (pg_name (i := 3) sc__law_draw.nd rfl (Or.inl rfl))) (fun _ _ _ _ _ => pts_nil) (fun _ _ _ _ _ => (pe_op op_modN (pe_callB call_abs (by rfl) G.m_abs (by decide +kernel) (pa_cons (pe_callTy call_intI (by rfl) G.m_int (by decide +kernel) (pa_cons (pv 3) pa_nil)) pa_nil)) (pe_op op_pow pe_int pe_int))))
    (pss_cons (ps_set (i := 4) sc__law_draw.nd rfl (Or.inl rfl) (pe_op op_add pe_int (pe_op op_mulW pe_int (pv 1))))
    (pss_cons (ps_for PassesOwn.never rfl (pi_list (pv 2)) (pg_name (i := 3) sc__law_draw.nd rfl (Or.inl rfl)) (pss_one (ps_set (i := 4) sc__law_draw.nd rfl (Or.inl rfl) (pe_op op_modN (pe_callTy call_intI (by rfl) G.m_int (by decide +kernel) (pa_cons (pe_op op_add (pe_op op_add (pe_op op_mulW (pv 4) pe_int) (pe_op op_modN (pv 3) pe_int)) pe_int) pa_nil)) pe_int))))
    (pss_one (ps_ret (pe_lst (pa_cons (pe_revL (pe_lc (own := [("cell", 3)]) (g := gName 3) (by rfl) sc__law_draw.nd (pi_list (pv 2)) (blkOk_by (own := [("cell", 3)]) (N := ["script", "salt", "cells", "cell", "blend"]) (sc := defScope s__law_draw) (by decide +kernel)) (fun _ _ _ _ _ => (pg_name (i := 3) sc__law_draw.nd rfl (Or.inl rfl))) (fun _ _ _ _ _ => (pts_one (pt_cmpR op_ge (pv 3) (pe_op op_pow pe_int pe_int) (nomark _)))) (fun _ _ _ _ _ => (pv 3)))) (pa_cons (pv 4) pa_nil)))))))), ?_⟩
    walk_at "vc"
    refine tLc_new (iList_slice (fun Q h => ⟨_, rfl, h⟩) (fun Q h => h) (fun Q h => ⟨48, rfl, h⟩) hA) fun p np => ?_
    have ecut : cutV (ns.map V.int) none (some 48) = (ns.take 48).map V.int := by
      rw [show (some (48 : Int)) = some ((48 : Nat) : Int) from rfl, cutV_to, List.map_take]
    have hp : (upd H p (.lst (cutV (ns.map V.int) none (some 48)))) p = some (.lst ((ns.take 48).map V.int)) := by rw [upd_same, ecut]
    have s1 : Same H (upd H p (.lst (cutV (ns.map V.int) none (some 48)))) := same_new np
    generalize upd H p (.lst (cutV (ns.map V.int) none (some 48))) = H1 at hp s1 ⊢
    have l48 : ((ns.take 48).map V.int).length ≤ 48 := by rw [List.length_map, List.length_take]; omega
    refine lcF (J := Itl K p) (H1 := H1) (fun R h => h) (walkL (xs := (ns.take 48).map V.int)) (fun i acc => Ints i acc ∧ acc.length ≤ i) (fun H' s' => s'.seq (isL hp)) (by rw [sizeLine_eq]; omega) (by intro _; rfl) ⟨⟨[], rfl, Nat.le_refl _, by simp⟩, Nat.le_refl _⟩ (fun i acc h => h.2) (fun i H' acc Rt Rf hi s' hI hT _ => ?_) fun Dd H2 acc s2 nD eD hI => ?_
    · obtain ⟨y, _, ey⟩ := getD_int hi
      walk_at "vc"
      rw [ey]
      refine ⟨y, rfl, y, rfl, ⟨by decide, by decide, by decide⟩, by decide +kernel, hT _ H' (Same.refl _) ⟨hI.1.snoc ?_, by rw [List.length_append]; have := hI.2; simp; omega⟩⟩
      exact Int.fmod_nonneg (by split <;> omega) (by decide +kernel)
    · obtain ⟨⟨zs, rfl, hz2, hz3⟩, _⟩ := hI
      have hzl : zs.length ≤ 48 := Nat.le_trans hz2 l48
      walk_at "vc"
      refine ⟨wide_mul (a := 20) (b := 20) (by decide) (by omega) (by decide) (by decide) (by decide), ?_⟩
      have s12 := s1.trans s2
      refine ⟨_, rfl, Dd, rfl, ⟨_, isL eD⟩, for_list (K := K) (a := Dd) (xs := zs.map V.int) (fun i σ H' => H' = H2 ∧ ∃ b y, σ = [some (.ref a), some (.int z), some (.ref Dd), y, some (.int b)] ∧ 0 ≤ b ∧ b < 2 ^ 40) ⟨rfl, 7919 + 104729 * z, none, rfl, by omega, by omega⟩ (fun i σ H' _ h => by rw [h.1]; exact isL eD) (fun i x σ H' hx hP => ?_) fun σ H' hP => ?_⟩
      · obtain ⟨rfl, b, y, rfl, hb0, hb1⟩ := hP
        rw [List.getElem?_map] at hx
        obtain ⟨c, ec, rfl⟩ := Option.map_eq_some_iff.mp hx
        walk_at "vc"
        refine ⟨wide_mul (a := 40) (b := 20) (by omega) (by decide) (by decide) (by decide) (by decide), by decide, by decide, _, _, rfl, ?_, ?_⟩
        · exact Int.fmod_nonneg (by have := Int.fmod_nonneg (a := c) (b := 2147483549) (hz3 c (List.mem_of_getElem? ec)) (by decide); omega) (by decide)
        · have := Int.fmod_lt_of_pos (b * 48271 + c.fmod 2147483549 + 11) (b := 2147483647) (by decide)
          omega
      · obtain ⟨rfl, b, y, rfl, hb0, hb1⟩ := hP
        walk_at "vc"
        refine lcF (J := Itl K Dd) (H1 := H') (fun R h => ⟨_, rfl, Dd, rfl, ⟨_, isL eD⟩, h⟩) (walkL (xs := zs.map V.int)) (fun i acc => Ints i acc ∧ acc.length ≤ i) (fun H' s' => s'.seq (isL eD)) (by rw [sizeLine_eq, List.length_map]; omega) (by intro _; rfl) ⟨⟨[], rfl, Nat.le_refl _, by simp⟩, Nat.le_refl _⟩ (fun i acc h => h.2) (fun i H' acc Rt Rf hi s' hI hT hF => ?_) fun D2 H3 acc s3 nD2 eD2 hI => ?_
        · obtain ⟨y, hy, ey⟩ := getD_int hi
          walk_at "vc"
          rw [ey]
          refine ⟨⟨by decide, by decide, by decide⟩, ?_⟩
          walk_at "vc"
          refine ite2 (fun _ => hT _ H' (Same.refl _) ⟨hI.1.snoc (hz3 y hy), by rw [List.length_append]; have := hI.2; simp; omega⟩) fun _ => hF H' (Same.refl _) ⟨?_, by have := hI.2; omega⟩
          obtain ⟨ys, h1, h2, h3⟩ := hI.1
          exact ⟨ys, h1, by omega, h3⟩
        · obtain ⟨⟨ys, rfl, hy2, hy3⟩, _⟩ := hI
          refine ⟨D2, _, rfl, isL eD2, fun c nc => ?_⟩
          walk_at "vc"
          intro d nd
          have s4 := s3.trans (same_new (o := .lst (ys.map V.int).reverse) nc)
          refine q _ d c ((s12.trans s4).trans (same_new nd)) ((s12.trans s4).free nd) ((s12.trans s3).free nc) ⟨ys.reverse, b, upd_same, ?_, fun y hy => hy3 y (by simpa using hy), ?_, hb0, hb1⟩
          · have e := upd_same (H := H3) (a := c) (o := .lst (ys.map V.int).reverse)
            rw [upd_ne (ne_of_none e nd), e, List.map_reverse]
          · rw [List.length_reverse]
            rw [List.length_map] at hy2
            omega
end
end K0
set_option Elab.async false
set_option linter.all false
set_option maxRecDepth 100000
set_option maxHeartbeats 4400000
namespace L2
open PySem PySem.Spec PyProof.Rows
/-! ### x is True, x is False, x any plain value -/
def sc1 : V → Bool
  | .non => true | .bl _ => true | .int _ => true | .str _ => true
  | _ => false
def rIs1 : R2 := fun x y H Q => ∃ b, y = .bl b ∧ sc1 x = true ∧ Q (.bl (decide (x = .bl b))) H
theorem op_is1 {X : Cx} : OpR X (compareOp .Is) rIs1 := by
  intro pins s σ H x y v u Q I rx ry
  rintro ⟨b, rfl, hs, q⟩
  have eu : u = Value.bool b := ry
  subst eu
  cases x with
  | bl a =>
    have ev : v = Value.bool a := rx
    subst ev
    by_cases e : a = b
    · rw [← e] at q ⊢
      rw [decide_eq_true rfl] at q
      exact wpAny_is_self rfl ⟨V.bl true, H, I, rfl, q⟩
    · have nq : V.bl a ≠ V.bl b := fun z => e (V.bl.inj z)
      rw [decide_eq_false nq] at q
      exact wpAny_is_other rfl (fun z => e (Value.bool.inj z)) ⟨V.bl false, H, I, rfl, q⟩
  | non =>
    cases (show v = Value.none from rx)
    exact wpAny_is_other rfl (fun z => nomatch z) ⟨.bl false, H, I, rfl, by simpa using q⟩
  | int i =>
    obtain ⟨t, rfl⟩ := rx
    exact wpAny_is_other rfl (fun z => nomatch z) ⟨.bl false, H, I, rfl, by simpa using q⟩
  | str i =>
    obtain ⟨t, rfl⟩ := rx
    exact wpAny_is_other rfl (fun z => nomatch z) ⟨.bl false, H, I, rfl, by simpa using q⟩
  | _ => cases hs
end L2
set_option Elab.async false
set_option linter.all false
set_option maxRecDepth 100000
set_option maxHeartbeats 4400000
set_option exponentiation.threshold 20000
namespace K0
open PySem PySem.Spec PyProof.Rows L2
local macro_rules | `(tactic| walk_at "vc") => `(tactic| try simp only [vq_st1_1, vq_st1_2, vq_st1_3, vq_st1_4, vq_st1_5, vq_st1_6, vq_st1_7, vq_st1_8, vq_st1_9, vq_st1_10, vq_st1_11, vq_st1_12, vq_st1_13, vq_st1_14, vq_st1_15, vq_st1_16, vq_st1_17, vq_st2_2, vq_st2_3, vq_st2_4, vq_st2_5, vq_st2_6, vq_st2_7, vq_st2_8, vq_st2_9, vq_st2_10, vq_st2_11, vq_st2_12, vq_st2_13, vq_st2_14, vq_st2_15, vq_st2_16, vq_st2_17, vq_st2_18, vq_st3_3, vq_st3_4, vq_st3_5, vq_st3_6, vq_st3_7, vq_st3_8, vq_st3_9, vq_st3_10, vq_st3_11, vq_st3_12, vq_st3_13, vq_st3_14, vq_st3_15, vq_st3_16, vq_st3_17, vq_st3_18, vq_st3_19, vq_st4_4, vq_st4_5, vq_st4_6, vq_st4_7, vq_st4_8, vq_st4_9, vq_st4_10, vq_st4_11, vq_st4_12, vq_st4_13, vq_st4_14, vq_st4_15, vq_st4_16, vq_st4_17, vq_st4_18, vq_st4_19, vq_st4_20, vq_cK, vq_cKn, vq_var, vq_c, vq_op, vq_un, vq_I, vq_I0, vq_U, vq_eqI, vq_neI, vq_neB, vq_nil, vq_cons, vq_call, vq_CB, vq_bl, vq_B, vq_test, vq_and, vq_or, vq_not, vq_andV, vq_orV, vq_notV, vq_if, vq_ifS, vq_chain, vq_seq, vq_next, vq_ret, vq_retN, vq_drop, vq_asg, vq_par, vq_par2, vq_aug, vq_some, vq_name, vq_gnil, vq_tup, vq_lst, vq_sz0, vq_sz1, vq_sz2, vq_sz3, vq_sz4, vq_tru, vq_BM, vq_BM0, vq_sl, vq_ite_t, vq_ite_f, vq_ite_d, vq_ite_n, List.getElem?_cons_zero, List.getElem?_cons_succ, List.set_cons_zero, List.set_cons_succ, vq_app, vq_yes, vq_wn, vq_wc, vq_o1, vq_o2, vq_o3, vq_intI, vq_gsub, reduceIte, Bool.false_eq_true, Bool.not_true, Bool.not_false])
/-- plain data, less than n deep -/
def Lv : Nat → PyData → Prop
  | 0, _ => False
  | n + 1, .list ds => ds.length ≤ 10000 ∧ ∀ d ∈ ds, Lv n d
  | n + 1, .tuple ds => ds.length ≤ 10000 ∧ ∀ d ∈ ds, Lv n d
  | _ + 1, .dict _ => False
  | _ + 1, _ => True
theorem Dp.keep {K : PySem.W.Frag} {H H' : Hp} (s : Same H H') : ∀ {v : V} {d : PyData}, Dp K H v d → Dp K H' v d
  | _, _, .non => .non
  | _, _, .bl b => .bl b
  | _, _, .int b => .int b
  | _, _, .str b => .str b
  | _, _, .lst h r => .lst (s.seq h) (keepAll s r)
  | _, _, .tup h r => .tup (s.seqT h) (keepAll s r)
where keepAll {K : PySem.W.Frag} {H H' : Hp} (s : Same H H') : ∀ {vs : List V} {ds : List PyData}, DpAll K H vs ds → DpAll K H' vs ds
  | _, _, .nil => .nil
  | _, _, .cons h r => .cons (Dp.keep s h) (keepAll s r)
theorem dpAll_at {K : PySem.W.Frag} {H : Hp} : ∀ {vs : List V} {ds : List PyData}, DpAll K H vs ds → vs.length = ds.length ∧ ∀ (i : Nat) x, vs[i]? = some x → ∃ d, ds[i]? = some d ∧ Dp K H x d
  | _, _, .nil => ⟨rfl, fun i x h => by simp at h⟩
  | _, _, .cons h r => by
    obtain ⟨e, f⟩ := dpAll_at r
    refine ⟨by simp [e], fun i x hx => ?_⟩
    cases i with
    | zero =>
      obtain rfl := Option.some.inj hx
      exact ⟨_, rfl, h⟩
    | succ i =>
      obtain ⟨d, h1, h2⟩ := f i x (by simpa using hx)
      exact ⟨d, by simpa using h1, h2⟩
section
variable {P : Program} {w : World} {K : PySem.W.Frag} {mg : Str → Option Value} {base : Heap}
/-! ### _law_same: of two things that are the same plain data -/
abbrev s__law_same : Stmt := topS 24
theorem sc__law_same : FnScope ["value", "due", "one", "other"] ["value", "due"] (defScope s__law_same) := ⟨rfl, rfl, rfl, by decide +kernel, rfl, by decide +kernel, by decide +kernel⟩
def spSame (K : PySem.W.Frag) (n : Nat) : Sp := fun vs H Q _ => ∃ v u d, vs = [v, u] ∧ Dp K H v d ∧ Dp K H u d ∧ Lv n d ∧ ∀ H', Same H H' → Q (.bl true) H'
theorem same_comp {n m : Nat} {J : It} {G : Hp → Prop} {xs ys : List V} {ds : List PyData} {te : TE} {v u : V} {H1 : Hp} {Q : VK} (w : Walk J m G (YPair (fun i => xs[i]?) (fun i => ys[i]?))) (hG : ∀ H', Same H1 H' → G H') (hx : DpAll K H1 xs ds) (hy : DpAll K H1 ys ds) (hL : ∀ d ∈ ds, Lv n d)
    (q : ∀ D H', Same H1 H' → H1 D = none → H' D = some (.lst []) → Q (.ref D) H') :
    tLc (fun _ H R => R J H) (gTup K 2 (gCons (gName 2) (gCons (gName 3) gNil))) (tNot (tB (tCall (spSame K n) [] E0 (tCons (tVar 2) (tCons (tVar 3) tNil))))) te [2, 3] [some v, some u, none, none] H1 Q := by
  intro D nD
  refine lc_it w (fun i H => Same H1 H ∧ H D = some (.lst [])) ⟨same_new nD, upd_same⟩ (fun i H _ h => hG H h.1) (fun i x H H' hi h y => ?_) fun H h => q D H h.1 nD h.2
  obtain ⟨T, a, b, rfl, nT, rfl, ea, eb⟩ := y
  have s1 := same_new (o := .tup [a, b]) nT
  refine gt2 (isT upd_same) ⟨rfl, ?_⟩
  obtain ⟨d, ed, hd⟩ := (dpAll_at hx).2 i a ea
  obtain ⟨d2, ed2, hd2⟩ := (dpAll_at hy).2 i b eb
  obtain rfl : d = d2 := Option.some.inj (ed.symm.trans ed2)
  have s2 := h.1.trans s1
  refine ⟨a, rfl, b, rfl, a, b, d, rfl, Dp.keep s2 hd, Dp.keep s2 hd2, hL d (List.mem_of_getElem? ed), fun H2 s3 => ⟨true, rfl, ?_⟩⟩
  exact ⟨s2.trans s3, s3 _ _ (s1 _ _ h.2)⟩
theorem same_0 (D : DefAt K mg "_law_same" s__law_same ["value", "due"]) : Callee P w K mg base CX0 0 "_law_same" ["value", "due"] (spSame K 0) := by
  refine D.ok fun f fd F => ⟨fun vs H Q E h => ?_, fun A outer s H args us vs Q E hr he hb hv h => ?_⟩
  · obtain ⟨_, _, _, _, _, _, h, _⟩ := h
    exact h.elim
  · obtain ⟨_, _, _, _, _, _, h, _⟩ := h
    exact h.elim
theorem same_step {n : Nat} (G : Glb mg) (D : DefAt K mg "_law_same" s__law_same ["value", "due"]) (c__law_same : Callee P w K mg base CX0 n "_law_same" ["value", "due"] (spSame K n)) : Callee P w K mg base CX0 (n + 1) "_law_same" ["value", "due"] (spSame K (n + 1)) := by
  refine D.ok fun f fd F => F.ok sc__law_same (fun vs H Q E h => ?_) (fun cdv A outer s H vs Q E hr h => ?_)
  · obtain ⟨v, u, d, rfl, _⟩ := h
    rfl
  · obtain ⟨v, u, d, rfl, hv, hu, hL, q⟩ := h
    refine ⟨_, (pss_cons (ps_if (pt_val (pe_callB call_isiT (by rfl) G.m_isinstance (by decide +kernel) (pa_cons (pv 1) (pa_cons (pe_tup (pa_cons (pe_bltn (v := .ty "tuple") (by rfl) G.m_tuple (by decide +kernel) rfl) (pa_cons (pe_bltn (v := .ty "list") (by rfl) G.m_list (by decide +kernel) rfl) pa_nil))) pa_nil)))) (pss_cons (ps_if (PW.pt (pw_or (pt_cmpR op_ne (pe_callB call_isi (by rfl) G.m_isinstance (by decide +kernel) (pa_cons (pv 1) (pa_cons (pe_bltn (v := .ty "tuple") (by rfl) G.m_tuple (by decide +kernel) rfl) pa_nil))) (pe_callB call_isi (by rfl) G.m_isinstance (by decide +kernel) (pa_cons (pv 0) (pa_cons (pe_bltn (v := .ty "tuple") (by rfl) G.m_tuple (by decide +kernel) rfl) pa_nil))) (nomark _)) (pw_or (pt_not (pt_val (pe_callB call_isiT (by rfl) G.m_isinstance (by decide +kernel) (pa_cons (pv 0) (pa_cons (pe_tup (pa_cons (pe_bltn (v := .ty "tuple") (by rfl) G.m_tuple (by decide +kernel) rfl) (pa_cons (pe_bltn (v := .ty "list") (by rfl) G.m_list (by decide +kernel) rfl) pa_nil))) pa_nil))))) (pw_or1 (pt_cmpR op_ne (pe_callB call_len_seq (by rfl) G.m_len PySem.boot_len (pa_cons (pv 0) pa_nil)) (pe_callB call_len_seq (by rfl) G.m_len PySem.boot_len (pa_cons (pv 1) pa_nil)) (nomark _)))))) (pss_one (ps_ret pe_bl)) pss_nil)
    (pss_one (ps_ret (pe_cmpR (op_eqNil hr.units) (pe_lc (own := [("one", 2), ("other", 3)]) (g := gTup K 2 (gCons (gName 2) (gCons (gName 3) gNil))) (by rfl) sc__law_same.nd (RZ.pi_zipA (by rfl) G.m_zip (pa_cons (pv 0) (pa_cons (pv 1) pa_nil))) (blkOk_by (own := [("one", 2), ("other", 3)]) (N := ["value", "due", "one", "other"]) (sc := defScope s__law_same) (by decide +kernel)) (fun _ _ _ _ _ => (pg_tup rfl (pgs_cons (pg_name (i := 2) sc__law_same.nd rfl (Or.inl rfl)) (pgs_cons (pg_name (i := 3) sc__law_same.nd rfl (Or.inl rfl)) pgs_nil)))) (fun _ _ _ _ _ => (pts_one (pt_not (pt_val (pe_fn c__law_same hr rfl (pa_cons (pv 2) (pa_cons (pv 3) pa_nil))))))) (fun _ _ _ _ _ => pe_int)) (pe_lst pa_nil) (nomark _))))) pss_nil)
    (pss_cons (ps_if (pt_cmpR op_isN (pv 1) pe_non (nomark _)) (pss_one (ps_ret (pe_cmpR op_isN (pv 0) pe_non (nomark _)))) pss_nil)
    (pss_cons (ps_if (pt_cmpR op_is1 (pv 1) pe_bl (nomark _)) (pss_one (ps_ret (pe_cmpR op_is1 (pv 0) pe_bl (nomark _)))) pss_nil)
    (pss_cons (ps_if (pt_cmpR op_is1 (pv 1) pe_bl (nomark _)) (pss_one (ps_ret (pe_cmpR op_is1 (pv 0) pe_bl (nomark _)))) pss_nil)
    (pss_cons (ps_if (pt_val (pe_callB call_isi (by rfl) G.m_isinstance (by decide +kernel) (pa_cons (pv 1) (pa_cons (pe_bltn (v := .ty "int") (by rfl) G.m_int (by decide +kernel) rfl) pa_nil)))) (pss_one (ps_ret (pe_and (pe_callB call_isi (by rfl) G.m_isinstance (by decide +kernel) (pa_cons (pv 0) (pa_cons (pe_bltn (v := .ty "int") (by rfl) G.m_int (by decide +kernel) rfl) pa_nil))) (pe_and (pe_not (pe_callB call_isi (by rfl) G.m_isinstance (by decide +kernel) (pa_cons (pv 0) (pa_cons (pe_bltn (v := .ty "bool") (by rfl) G.m_bool (by decide +kernel) rfl) pa_nil)))) (pe_one (pe_cmpR op_eq (pv 0) (pv 1) (nomark _))))))) pss_nil)
    (pss_one (ps_ret (pe_and (pe_callB call_isi (by rfl) G.m_isinstance (by decide +kernel) (pa_cons (pv 0) (pa_cons (pe_bltn (v := .ty "str") (by rfl) G.m_str (by decide +kernel) rfl) pa_nil))) (pe_one (pe_cmpR op_eq (pv 0) (pv 1) (nomark _))))))))))), ?_⟩
    walk_at "vc"
    intro p np
    have s1 : Same H (upd H p (.tup [.ty "tuple", .ty "list"])) := same_new np
    cases hv with
    | non =>
      cases hu
      refine isi2 .non upd_same (b := false) (by first | rfl | decide +kernel) ?_
      walk_at "vc"
      exact q _ s1
    | bl b =>
      cases hu
      refine isi2 (.bl b) upd_same (b := false) (by first | rfl | decide +kernel) ?_
      walk_at "vc"
      refine iteF' (fun z => by cases z) ⟨true, rfl, rfl, ?_⟩
      cases b with
      | true => exact ⟨true, rfl, true, rfl, rfl, q _ s1⟩
      | false => exact ⟨false, rfl, false, rfl, rfl, true, rfl, false, rfl, rfl, q _ s1⟩
    | int i =>
      cases hu
      refine isi2 (.int i) upd_same (b := false) (by first | rfl | decide +kernel) ?_
      walk_at "vc"
      refine iteF' (fun z => by cases z) ⟨true, rfl, rfl, false, rfl, false, rfl, rfl, false, rfl, ?_⟩
      walk_at "vc"
      refine isi1 (.int i) (b := true) (by first | rfl | decide +kernel) ?_
      walk_at "vc"
      refine isi1 (.int i) (b := true) (by first | rfl | decide +kernel) ?_
      walk_at "vc"
      refine isi1 (.int i) (b := false) (by first | rfl | decide +kernel) ?_
      walk_at "vc"
      simpa using q _ s1
    | str z =>
      cases hu
      refine isi2 (.str z) upd_same (b := false) (by first | rfl | decide +kernel) ?_
      walk_at "vc"
      refine iteF' (fun z => by cases z) ⟨true, rfl, rfl, false, rfl, false, rfl, rfl, false, rfl, ?_⟩
      walk_at "vc"
      refine isi1 (.str z) (b := false) (by first | rfl | decide +kernel) ?_
      walk_at "vc"
      refine isi1 (.str z) (b := true) (by first | rfl | decide +kernel) ?_
      walk_at "vc"
      refine ⟨rfl, ?_⟩
      simpa using q _ s1
    | @lst a xs ds h1 h2 =>
      cases hu with
      | @lst b ys _ h3 h4 =>
      obtain ⟨hl, hL⟩ := hL
      have e1 := (dpAll_at h2).1
      have e2 := (dpAll_at h4).1
      refine isi2 (.lst (s1.seq h3)) upd_same (b := true) (by first | rfl | decide +kernel) ?_
      walk_at "vc"
      refine isi1 (.lst (s1.seq h3)) (b := false) (by first | rfl | decide +kernel) ?_
      walk_at "vc"
      refine isi1 (.lst (s1.seq h1)) (b := false) (by first | rfl | decide +kernel) ?_
      walk_at "vc"
      intro p2 np2
      have s2 := s1.trans (same_new (o := .tup [.ty "tuple", .ty "list"]) np2)
      refine isi2 (.lst (s2.seq h1)) upd_same (b := true) (by first | rfl | decide +kernel) ?_
      walk_at "vc"
      refine ⟨a, xs, rfl, .inl (s2.seq h1), b, ys, rfl, .inl (s2.seq h3), iteT' (by omega) ?_⟩
      refine tLc_wi (J := Itz K a b) (fun R h => ⟨_, rfl, _, rfl, a, b, xs, ys, rfl, .inl ⟨s2.seq h1, s2.seq h3, h⟩⟩) (same_comp (walk_zip (by omega : xs.length = min xs.length ys.length)) (fun H' s' => ⟨(s2.trans s').seq h1, (s2.trans s').seq h3⟩) (Dp.keep.keepAll s2 h2) (Dp.keep.keepAll s2 h4) hL fun D H3 s3 nD eD p3 np3 => ?_)
      exact eqNil (isL (same_new np3 _ _ eD)) (isL upd_same) (q _ ((s2.trans s3).trans (same_new np3)))
    | @tup a xs ds h1 h2 =>
      cases hu with
      | @tup b ys _ h3 h4 =>
      obtain ⟨hl, hL⟩ := hL
      have e1 := (dpAll_at h2).1
      have e2 := (dpAll_at h4).1
      refine isi2 (.tup (s1.seqT h3)) upd_same (b := true) (by first | rfl | decide +kernel) ?_
      walk_at "vc"
      refine isi1 (.tup (s1.seqT h3)) (b := true) (by first | rfl | decide +kernel) ?_
      walk_at "vc"
      refine isi1 (.tup (s1.seqT h1)) (b := true) (by first | rfl | decide +kernel) ?_
      walk_at "vc"
      intro p2 np2
      have s2 := s1.trans (same_new (o := .tup [.ty "tuple", .ty "list"]) np2)
      refine isi2 (.tup (s2.seqT h1)) upd_same (b := true) (by first | rfl | decide +kernel) ?_
      walk_at "vc"
      refine ⟨a, xs, rfl, .inr (s2.seqT h1), b, ys, rfl, .inr (s2.seqT h3), iteT' (by omega) ?_⟩
      refine tLc_wi (J := RZ.ItzT K a b) (fun R h => ⟨_, rfl, _, rfl, a, b, xs, ys, rfl, .inr ⟨s2.seqT h1, s2.seqT h3, h⟩⟩) (same_comp (walk_zipT (by omega : xs.length = min xs.length ys.length)) (fun H' s' => ⟨(s2.trans s').seqT h1, (s2.trans s').seqT h3⟩) (Dp.keep.keepAll s2 h2) (Dp.keep.keepAll s2 h4) hL fun D H3 s3 nD eD p3 np3 => ?_)
      exact eqNil (isL (same_new np3 _ _ eD)) (isL upd_same) (q _ ((s2.trans s3).trans (same_new np3)))
theorem c__law_same (G : Glb mg) (D : DefAt K mg "_law_same" s__law_same ["value", "due"]) : ∀ n, Callee P w K mg base CX0 n "_law_same" ["value", "due"] (spSame K n)
  | 0 => same_0 D
  | n + 1 => same_step G D (c__law_same G D n)
end
end K0
set_option Elab.async false
set_option linter.all false
set_option maxRecDepth 100000
set_option maxHeartbeats 4400000
set_option exponentiation.threshold 20000
namespace K0
open PySem L2 LamX PySem.Spec PyProof.Rows
local macro_rules | `(tactic| walk_at "vc") => `(tactic| try simp only [vq_st1_1, vq_st1_2, vq_st1_3, vq_st1_4, vq_st1_5, vq_st1_6, vq_st1_7, vq_st1_8, vq_st1_9, vq_st1_10, vq_st1_11, vq_st1_12, vq_st1_13, vq_st1_14, vq_st1_15, vq_st1_16, vq_st1_17, vq_st2_2, vq_st2_3, vq_st2_4, vq_st2_5, vq_st2_6, vq_st2_7, vq_st2_8, vq_st2_9, vq_st2_10, vq_st2_11, vq_st2_12, vq_st2_13, vq_st2_14, vq_st2_15, vq_st2_16, vq_st2_17, vq_st2_18, vq_st3_3, vq_st3_4, vq_st3_5, vq_st3_6, vq_st3_7, vq_st3_8, vq_st3_9, vq_st3_10, vq_st3_11, vq_st3_12, vq_st3_13, vq_st3_14, vq_st3_15, vq_st3_16, vq_st3_17, vq_st3_18, vq_st3_19, vq_st4_4, vq_st4_5, vq_st4_6, vq_st4_7, vq_st4_8, vq_st4_9, vq_st4_10, vq_st4_11, vq_st4_12, vq_st4_13, vq_st4_14, vq_st4_15, vq_st4_16, vq_st4_17, vq_st4_18, vq_st4_19, vq_st4_20, vq_cK, vq_cKn, vq_var, vq_c, vq_op, vq_un, vq_I, vq_I0, vq_U, vq_eqI, vq_neI, vq_neB, vq_nil, vq_cons, vq_call, vq_CB, vq_bl, vq_B, vq_test, vq_and, vq_or, vq_not, vq_andV, vq_orV, vq_notV, vq_if, vq_ifS, vq_chain, vq_seq, vq_next, vq_ret, vq_retN, vq_drop, vq_asg, vq_par, vq_par2, vq_aug, vq_some, vq_name, vq_gnil, vq_tup, vq_lst, vq_sz0, vq_sz1, vq_sz2, vq_sz3, vq_sz4, vq_tru, vq_BM, vq_BM0, vq_sl, vq_ite_t, vq_ite_f, vq_ite_d, vq_ite_n, List.getElem?_cons_zero, List.getElem?_cons_succ, List.set_cons_zero, List.set_cons_succ, vq_app, vq_yes, vq_wn, vq_wc, vq_o1, vq_o2, vq_o3, vq_intI, vq_gsub, reduceIte, Bool.false_eq_true, Bool.not_true, Bool.not_false])
/-- the two classes, as the clauses see them -/
structure Cls2 (K : PySem.W.Frag) (mg : Str → Option Value) (CQ CR : Addr) : Prop where
  gQ : mg "InvalidQuestion" = some (.ref CQ)
  gR : mg "Refused" = some (.ref CR)
  rq : PySem.W.exmOne K (.ref CR) (.ref CQ) = some false
  rr : PySem.W.exmOne K (.ref CR) (.ref CR) = some true
  xQ : XfC K CQ
  xR : XfC K CR
  nQ : PySem.W.findIn K (.ref CQ) "at" = some none
  nR : PySem.W.findIn K (.ref CR) "at" = some none
/-- _law_heard of a lambda's reading -/
def TTheard (CR : Addr) : (XK → Hp → VK → Prop) → Hp → VK → Prop := fun tl H Q =>
  tl (fun cls d H' => cls = .ref CR ∧ ∃ dd v, d = some dd ∧ H' dd = some (atO v) ∧ ∀ p, H' p = none → Q (.ref p) (upd H' p (.tup [.str (Str.ofString "refused"), v]))) H
    (fun v H' => ∀ p, H' p = none → Q (.ref p) (upd H' p (.tup [.str (Str.ofString "told"), v])))
abbrev s__law_heard : Stmt := topS 26
theorem sc__law_heard : FnScope ["work", "wrong"] ["work"] (defScope s__law_heard) := ⟨rfl, rfl, rfl, by decide +kernel, rfl, by decide +kernel, by decide +kernel⟩
theorem takesLen {X : Cx} {W : WX} (t : Takes X W) : Takes X (fun cls d σ H => σ.length = X.N.length → W cls d σ H) := fun u s' ⟨a, B, sI, pins, σ, H, cls, d, e, I, nb, up, sky, na, os, ag, w⟩ =>
  t u s' ⟨a, B, sI, pins, σ, H, cls, d, e, I, nb, up, sky, na, os, ag, w I.len⟩
theorem at_look {v : V} : List.lookup ("at" : Str) [(("at" : Str), v)] = some v := by simp [List.lookup]
section
variable {X : Cx} {CQ CR : Addr}
theorem heard_gives {g : Addr} {cdg : Value} {q : Str} (G : Cls2 X.K X.mg CQ CR) : GivesTo X ["work", "wrong"] "_law_heard" (defScope s__law_heard) g cdg (defBody s__law_heard) "work" q (TTheard CR) := by
  intro f c' s H Q tl act hc h
  refine ⟨_, pss_one (ps_try_clauses (X := (cxOf C8.CX0 X.prog X.w X.K X.mg X.base ["work", "wrong"] "_law_heard" (defScope s__law_heard) g cdg X.A X.stack s H C8.E0).nox)
      (tb := fun W D σ H => ∃ Ech : XK, (∀ cls d σ' H', σ'.length = 2 → Ech cls d H' → W cls d σ' H') ∧ σ[0]? = some (some (.ref f)) ∧ H c' = some (CodeO c' q) ∧ tl Ech H (fun v H' => ∀ p, H' p = none → D.rt (.ref p) (upd H' p (.tup [.str (Str.ofString "told"), v])))) (Wout := fun _ _ _ _ => False)
      rfl rfl (show ((["work", "wrong"] : List Str)).Nodup by decide) L2.takes0 (fun W pn xe tk _ => ?_)
      (.next (c := .ref CQ) (i := 1) rfl rfl ⟨rfl, by decide, .inl G.gQ⟩ (fun a oe k d pn hz hf => pss_one (ps_ret (pe_tup (pa_cons pe_str (pa_cons (pe_xf G.xQ G.nQ hz hf (pe_var (i := 1) rfl (Or.inl rfl))) pa_nil)))))
      (.next (c := .ref CR) (i := 1) rfl rfl ⟨rfl, by decide, .inl G.gR⟩ (fun a oe k d pn hz hf => pss_one (ps_ret (pe_tup (pa_cons pe_str (pa_cons (pe_xf G.xR G.nR hz hf (pe_var (i := 1) rfl (Or.inl rfl))) pa_nil)))))
      .done))), ?_⟩
  · refine ⟨fun pins st σ H' D I hh => ?_⟩
    obtain ⟨Ech, hW, h1, h2, h3⟩ := hh
    refine PSs.run (pss_one (ps_ret (pe_tup (pa_cons pe_str (pa_cons (act _ pn xe Ech _ _ (takesLen tk) fun cls d σ' H' hE hl => hW cls d σ' H' hl hE) pa_nil))))) pins st σ H' D I ?_
    refine ⟨h1, h2, ?_⟩
    walk_at "vc"
    exact h3
  · refine ⟨fun cls d H' => cls = .ref CR ∧ ∃ dd v, d = some dd ∧ H' dd = some (atO v) ∧ ∀ p, H' p = none → Q (.ref p) (upd H' p (.tup [.str (Str.ofString "refused"), v])), fun cls d σ' H' hl hE => ?_, rfl, hc, ?_⟩
    · obtain ⟨rfl, dd, v, rfl, hd, hq⟩ := hE
      obtain ⟨a0, a1, rfl⟩ : ∃ a0 a1, σ' = [a0, a1] := by
        match σ', hl with
        | [a0, a1], _ => exact ⟨a0, a1, rfl⟩
      refine ⟨false, G.rq, fun z => (by cases z), fun _ => ⟨true, G.rr, fun _ a na => ?_, fun z => (by cases z)⟩⟩
      walk_at "vc"
      refine ⟨_, rfl, rfl, rfl, dd, _, v, rfl, hd, at_look, ?_⟩
      walk_at "vc"
      exact hq
    · exact h
end
end K0
set_option Elab.async false
set_option linter.all false
set_option maxRecDepth 100000
set_option maxHeartbeats 4400000
set_option exponentiation.threshold 20000
namespace K0
open PySem L2 LamX PySem.Spec PyProof.Rows
local macro_rules | `(tactic| walk_at "vc") => `(tactic| try simp only [vq_st1_1, vq_st1_2, vq_st1_3, vq_st1_4, vq_st1_5, vq_st1_6, vq_st1_7, vq_st1_8, vq_st1_9, vq_st1_10, vq_st1_11, vq_st1_12, vq_st1_13, vq_st1_14, vq_st1_15, vq_st1_16, vq_st1_17, vq_st2_2, vq_st2_3, vq_st2_4, vq_st2_5, vq_st2_6, vq_st2_7, vq_st2_8, vq_st2_9, vq_st2_10, vq_st2_11, vq_st2_12, vq_st2_13, vq_st2_14, vq_st2_15, vq_st2_16, vq_st2_17, vq_st2_18, vq_st3_3, vq_st3_4, vq_st3_5, vq_st3_6, vq_st3_7, vq_st3_8, vq_st3_9, vq_st3_10, vq_st3_11, vq_st3_12, vq_st3_13, vq_st3_14, vq_st3_15, vq_st3_16, vq_st3_17, vq_st3_18, vq_st3_19, vq_st4_4, vq_st4_5, vq_st4_6, vq_st4_7, vq_st4_8, vq_st4_9, vq_st4_10, vq_st4_11, vq_st4_12, vq_st4_13, vq_st4_14, vq_st4_15, vq_st4_16, vq_st4_17, vq_st4_18, vq_st4_19, vq_st4_20, vq_cK, vq_cKn, vq_var, vq_c, vq_op, vq_un, vq_I, vq_I0, vq_U, vq_eqI, vq_neI, vq_neB, vq_nil, vq_cons, vq_call, vq_CB, vq_bl, vq_B, vq_test, vq_and, vq_or, vq_not, vq_andV, vq_orV, vq_notV, vq_if, vq_ifS, vq_chain, vq_seq, vq_next, vq_ret, vq_retN, vq_drop, vq_asg, vq_par, vq_par2, vq_aug, vq_some, vq_name, vq_gnil, vq_tup, vq_lst, vq_sz0, vq_sz1, vq_sz2, vq_sz3, vq_sz4, vq_tru, vq_BM, vq_BM0, vq_sl, vq_ite_t, vq_ite_f, vq_ite_d, vq_ite_n, List.getElem?_cons_zero, List.getElem?_cons_succ, List.set_cons_zero, List.set_cons_succ, vq_app, vq_yes, vq_wn, vq_wc, vq_o1, vq_o2, vq_o3, vq_intI, vq_gsub, reduceIte, Bool.false_eq_true, Bool.not_true, Bool.not_false])
/-! ### a lambda, handed to _law_heard -/
theorem pe_heard {X : Cx} {CQ CR : Addr} {T : List (Addr × Str)} {c P : Addr} {k k' : Nat} {t : XK → TE} {params : Arguments} {body : Expr} {scope : Scope} {p lpos pos : Pos} (G : Cls2 X.K X.mg CQ CR) (D : DefAt X.K X.mg "_law_heard" s__law_heard ["work"]) (hg : Gl X "_law_heard")
    (TB : TabB X.base X.mg c P) (hcode : X.env.code = .ref c) (hmT : (P, X.env.qual ++ "<lambda>") ∈ T) (hu : ∀ p ∈ T, p.1 = P → p.2 = X.env.qual ++ "<lambda>") (hr : Room k' X.A) (L : LamS X.env.scope scope) (hdef : defaultsOf params X.env = ([], []))
    (hargs : ∀ (q : Str) (cl : List (Str × Addr)) (pm cv ctv : Value), bindArgs (PySem.W.kla_fn "<lambda>" q params body scope cl pm cv ctv) ⟨[], []⟩ = pure [])
    (hlam : ∀ (A : Around) (outer : List Env) (s : Shared) (H : Hp) (E : XK) (f c' : Addr), Room k (A.deeper (lamEnv X scope s.heap.objs.size f c')) → PE (lamCx X A outer s H E scope f c') body (t E))
    (hk : k + 2 ≤ k' := by first | decide | exact Nat.le_refl _ | omega) :
    PE X (.Call (.Name "_law_heard" p) [.Lambda params body scope lpos] [] pos) (tLam T (TTheard CR) t) := by
  obtain ⟨f, fd, F, g, b⟩ := D
  have kp := F.kp
  obtain ⟨oc, od, kV, doc, pm, an, cdv, ct, osl, rfl, lk, hcv⟩ := F.ex
  exact pe_lamcall (a := "work") (Ng := ["work", "wrong"]) hg g kp lk hcv b sc__law_heard rfl (Or.inl rfl) (heard_gives G) TB hcode hmT hu (hr.mono hk) L hdef hargs hlam
theorem vq_lam {T : List (Addr × Str)} {TT : (XK → Hp → VK → Prop) → Hp → VK → Prop} {t : XK → TE} {σ : L2.St} {H : Hp} {Q : VK} : tLam T TT t σ H Q = (Tabs T H ∧ ∀ H1, ExtN H H1 → Tabs T H1 → TT (fun E H' Q' => t E σ H' Q') H1 Q) := rfl
theorem vq_np {σ : L2.St} {H : Hp} {R : Option Int → Hp → Prop} : tNoPart σ H R = R none H := rfl
theorem vq_part {t : TE} {σ : L2.St} {H : Hp} {R : Option Int → Hp → Prop} : tPart t σ H R = t σ H fun x H1 => ∃ i, x = .int i ∧ R (some i) H1 := rfl
theorem vq_ik {i : Int} {p : Int → Prop} : (∃ k, V.int i = V.int k ∧ p k) = p i := by
  apply propext
  constructor
  · rintro ⟨c, e, h⟩
    cases e; exact h
  · intro h
    exact ⟨i, rfl, h⟩
/-! ### a def whose code object makes lambdas -/
def DefC (K : PySem.W.Frag) (mg : Str → Option Value) (x : Str) (st : Stmt) (ps : List Str) (c : Addr) : Prop := ∃ f fd, (∃ (oc : Value) (od : Option Addr) (kV doc pm : Value) (an : Option Addr) (ct : Value) (osl : Array (Option Value)),
    fd = PySem.W.fnOf x x (defArgs st) (defBody st) (defScope st) .none kV doc pm an (.ref c) ct ∧ K.lookup f = some ⟨oc, od, .func fd, osl⟩ ∧ PySem.W.codeIn K (.ref c) x = true) ∧ PySem.W.keepIn K (.ref f) = true ∧ mg x = some (.ref f) ∧ Binds K fd ps []
theorem DefC.ok {P : Program} {w : World} {K : PySem.W.Frag} {mg : Str → Option Value} {base : Heap} {x : Str} {st : Stmt} {ps N : List Str} {c : Addr} {k : Nat} {sp : Sp} (D : DefC K mg x st ps c) (S : FnScope N ps (defScope st)) (len : ∀ vs H Q E, sp vs H Q E → vs.length = ps.length)
    (hbody : ∀ (f : Addr) (A : Around) (outer : List Env) (s : Shared) (H : Hp) (vs : List V) (Q : VK) (E : XK), Room k (A.deeper (envOfC x (defScope st) s.heap.objs.size f (.ref c))) → sp vs H Q E →
      ∃ t, PSs (cxOf CX0 P w K mg base N x (defScope st) f (.ref c) A outer s H E).nox (defBody st) t ∧ t { nx := fun _ H' => Q .non H', rt := Q } (L2.start N vs) H) : Callee P w K mg base CX0 (k + 1) x ps sp := by
  obtain ⟨f, fd, ⟨oc, od, kV, doc, pm, an, ct, osl, rfl, lk, hcd⟩, kp, g, b⟩ := D
  exact ⟨f, _, fn_of lk hcd S len fun A outer s H vs Q E hr hsp => (let ⟨t, h, q⟩ := hbody f A outer s H vs Q E hr hsp; ⟨t, h.nox, q⟩), g, kp, b, oc, od, osl, lk⟩
def rTupOf (K : PySem.W.Frag) : List V → Hp → VK → Prop := fun xs H Q => ∃ p ys, xs = [.ref p] ∧ ((SqL K H p ys ∧ ∀ l, H l = none → Q (.ref l) (upd H l (.tup ys))) ∨ (SqT K H p ys ∧ Q (.ref p) H))
theorem tupOf_K {X : Cx} {K : PySem.W.Frag} (h : X.K = K) : CallR X (.type "tuple") (rTupOf K) := h ▸ call_tuple_of
/-! ### what stays, though a table grows -/
def Kp (d c : Addr) (H H' : Hp) : Prop := ∀ b o, H b = some o → b ≠ d → b ≠ c → (∀ ps, o ≠ .tbl ps) → H' b = some o
theorem Kp.refl {d c : Addr} {H : Hp} : Kp d c H H := fun _ _ e _ _ _ => e
theorem Kp.trans {d c : Addr} {H H1 H2 : Hp} (a : Kp d c H H1) (b : Kp d c H1 H2) : Kp d c H H2 := fun x o e n m t => b x o (a x o e n m t) n m t
theorem Kp.same {d c : Addr} {H H1 : Hp} (a : Same H H1) : Kp d c H H1 := fun x o e _ _ _ => a x o e
theorem Kp.ext {d c : Addr} {H H1 : Hp} (a : ExtN H H1) : Kp d c H H1 := fun x o e _ _ t => a x o e t
theorem Kp.but {d c : Addr} {H H1 : Hp} (a : But [d, c] H H1) : Kp d c H H1 := fun x o e n m _ => a x o e (by simp [n, m])
theorem Deal.ne {H : Hp} {d c b : Addr} {o : HO} (D : Deal H d c) (e : H b = some o) (h : ∀ xs, o ≠ .lst xs) : b ≠ d ∧ b ≠ c := by
  obtain ⟨cells, z, h1, h2, _⟩ := D
  constructor
  · rintro rfl
    rw [e] at h1
    exact h _ (Option.some.inj h1)
  · rintro rfl
    rw [e] at h2
    exact h _ (Option.some.inj h2)
theorem Kp.seqT {d c t : Addr} {K : PySem.W.Frag} {H H' : Hp} {xs : List V} (k : Kp d c H H') (D : Deal H d c) (h : SqT K H t xs) : SqT K H' t xs := by
  rcases h with (h | ⟨ob, h⟩) | h
  · have n := D.ne h (fun _ z => by cases z)
    exact .inl (.inl (k _ _ h n.1 n.2 fun _ z => by cases z))
  · have n := D.ne h (fun _ z => by cases z)
    exact .inl (.inr ⟨ob, k _ _ h n.1 n.2 fun _ z => by cases z⟩)
  · exact .inr h
theorem Kp.seqL {d c t : Addr} {K : PySem.W.Frag} {H H' : Hp} {xs : List V} (k : Kp d c H H') (h1 : t ≠ d) (h2 : t ≠ c) (h : SqL K H t xs) : SqL K H' t xs := by
  rcases h with (h | ⟨ob, h⟩) | h
  · exact .inl (.inl (k _ _ h h1 h2 fun _ z => by cases z))
  · exact .inl (.inr ⟨ob, k _ _ h h1 h2 fun _ z => by cases z⟩)
  · exact .inr h
theorem Kp.shV {d c : Addr} {K : PySem.W.Frag} {H H' : Hp} {v : V} {r : Rat} (k : Kp d c H H') (D : Deal H d c) (h : shV K H v r) : shV K H' v r := by
  obtain ⟨t, e, h⟩ := h
  exact ⟨t, e, k.seqT D h⟩
theorem Deal.ext {H H' : Hp} {d c : Addr} (h : Deal H d c) (s : ExtN H H') : Deal H' d c := by
  obtain ⟨cells, b, h1, h2, h3⟩ := h
  exact ⟨cells, b, s _ _ h1 (fun _ z => by cases z), s _ _ h2 (fun _ z => by cases z), h3⟩
theorem Tabs.but {T : List (Addr × Str)} {d c : Addr} {H H' : Hp} (D : Deal H d c) (t : Tabs T H) (e : But [d, c] H H') : Tabs T H' := fun p hp => by
  obtain ⟨ps, h1, h2, h3⟩ := t p hp
  have n := D.ne h1 (fun _ z => by cases z)
  refine ⟨ps, e _ _ h1 (by simp [n.1, n.2]), h2, fun pos cv hc => ?_⟩
  obtain ⟨c0, e1, e2⟩ := h3 pos cv hc
  have n2 := D.ne e2 (fun _ z => by unfold CodeO at z; cases z)
  exact ⟨c0, e1, e _ _ e2 (by simp [n2.1, n2.2])⟩
theorem paired_perm {α β : Type} {F : α → β → Prop} {xs ys : List α} (p : ys.Perm xs) : ∀ {rs : List β}, Paired F xs rs → ∃ rs', rs'.Perm rs ∧ Paired F ys rs' := by
  induction p with
  | nil =>
    intro rs h
    exact ⟨rs, .refl _, h⟩
  | @cons a l m _ ih =>
    intro rs h
    cases h with
    | cons f r =>
      obtain ⟨rs', q1, q2⟩ := ih r
      exact ⟨_ :: rs', q1.cons _, .cons f q2⟩
  | swap a b l =>
    intro rs h
    cases h with
    | cons f r =>
      cases r with
      | cons g r => exact ⟨_, .swap _ _ _, .cons g (.cons f r)⟩
  | trans _ _ ih1 ih2 =>
    intro rs h
    obtain ⟨r1, p1, q1⟩ := ih2 h
    obtain ⟨r2, p2, q2⟩ := ih1 q1
    exact ⟨r2, p2.trans p1, q2⟩
theorem paired_take {α β : Type} {F : α → β → Prop} : ∀ {xs : List α} {rs : List β} (n : Nat), Paired F xs rs → Paired F (xs.take n) (rs.take n)
  | _, _, 0, _ => .nil
  | _, _, _ + 1, .nil => .nil
  | _, _, n + 1, .cons f r => .cons f (paired_take n r)
theorem paired_drop {α β : Type} {F : α → β → Prop} : ∀ {xs : List α} {rs : List β} (n : Nat), Paired F xs rs → Paired F (xs.drop n) (rs.drop n)
  | _, _, 0, h => h
  | _, _, _ + 1, .nil => .nil
  | _, _, n + 1, .cons f r => paired_drop n r
end K0
set_option Elab.async false
set_option linter.all false
set_option maxRecDepth 100000
set_option maxHeartbeats 4400000
set_option exponentiation.threshold 20000
namespace K0
open PySem L2 LamX PySem.Spec PyProof.Rows
local macro_rules | `(tactic| walk_at "vc") => `(tactic| try simp only [vq_st1_1, vq_st1_2, vq_st1_3, vq_st1_4, vq_st1_5, vq_st1_6, vq_st1_7, vq_st1_8, vq_st1_9, vq_st1_10, vq_st1_11, vq_st1_12, vq_st1_13, vq_st1_14, vq_st1_15, vq_st1_16, vq_st1_17, vq_st2_2, vq_st2_3, vq_st2_4, vq_st2_5, vq_st2_6, vq_st2_7, vq_st2_8, vq_st2_9, vq_st2_10, vq_st2_11, vq_st2_12, vq_st2_13, vq_st2_14, vq_st2_15, vq_st2_16, vq_st2_17, vq_st2_18, vq_st3_3, vq_st3_4, vq_st3_5, vq_st3_6, vq_st3_7, vq_st3_8, vq_st3_9, vq_st3_10, vq_st3_11, vq_st3_12, vq_st3_13, vq_st3_14, vq_st3_15, vq_st3_16, vq_st3_17, vq_st3_18, vq_st3_19, vq_st4_4, vq_st4_5, vq_st4_6, vq_st4_7, vq_st4_8, vq_st4_9, vq_st4_10, vq_st4_11, vq_st4_12, vq_st4_13, vq_st4_14, vq_st4_15, vq_st4_16, vq_st4_17, vq_st4_18, vq_st4_19, vq_st4_20, vq_cK, vq_cKn, vq_var, vq_c, vq_op, vq_un, vq_I, vq_I0, vq_U, vq_eqI, vq_neI, vq_neB, vq_nil, vq_cons, vq_call, vq_CB, vq_bl, vq_B, vq_test, vq_and, vq_or, vq_not, vq_andV, vq_orV, vq_notV, vq_if, vq_ifS, vq_chain, vq_seq, vq_next, vq_ret, vq_retN, vq_drop, vq_asg, vq_par, vq_par2, vq_aug, vq_some, vq_name, vq_gnil, vq_tup, vq_lst, vq_sz0, vq_sz1, vq_sz2, vq_sz3, vq_sz4, vq_tru, vq_BM, vq_BM0, vq_sl, vq_ite_t, vq_ite_f, vq_ite_d, vq_ite_n, List.getElem?_cons_zero, List.getElem?_cons_succ, List.set_cons_zero, List.set_cons_succ, vq_app, vq_yes, vq_wn, vq_wc, vq_o1, vq_o2, vq_o3, vq_intI, vq_gsub, reduceIte, Bool.false_eq_true, Bool.not_true, Bool.not_false])
local macro_rules | `(tactic| walk_at "vd") => `(tactic| try simp only [vq_lam, vq_np, vq_part, vq_ik, vq_st1_1, vq_st1_2, vq_st1_3, vq_st1_4, vq_st1_5, vq_st1_6, vq_st1_7, vq_st1_8, vq_st1_9, vq_st1_10, vq_st1_11, vq_st1_12, vq_st1_13, vq_st1_14, vq_st1_15, vq_st1_16, vq_st1_17, vq_st2_2, vq_st2_3, vq_st2_4, vq_st2_5, vq_st2_6, vq_st2_7, vq_st2_8, vq_st2_9, vq_st2_10, vq_st2_11, vq_st2_12, vq_st2_13, vq_st2_14, vq_st2_15, vq_st2_16, vq_st2_17, vq_st2_18, vq_st3_3, vq_st3_4, vq_st3_5, vq_st3_6, vq_st3_7, vq_st3_8, vq_st3_9, vq_st3_10, vq_st3_11, vq_st3_12, vq_st3_13, vq_st3_14, vq_st3_15, vq_st3_16, vq_st3_17, vq_st3_18, vq_st3_19, vq_st4_4, vq_st4_5, vq_st4_6, vq_st4_7, vq_st4_8, vq_st4_9, vq_st4_10, vq_st4_11, vq_st4_12, vq_st4_13, vq_st4_14, vq_st4_15, vq_st4_16, vq_st4_17, vq_st4_18, vq_st4_19, vq_st4_20, vq_cK, vq_cKn, vq_var, vq_c, vq_op, vq_un, vq_I, vq_I0, vq_U, vq_eqI, vq_neI, vq_neB, vq_nil, vq_cons, vq_call, vq_CB, vq_bl, vq_B, vq_test, vq_and, vq_or, vq_not, vq_andV, vq_orV, vq_notV, vq_if, vq_ifS, vq_chain, vq_seq, vq_next, vq_ret, vq_retN, vq_drop, vq_asg, vq_par, vq_par2, vq_aug, vq_some, vq_name, vq_gnil, vq_tup, vq_lst, vq_sz0, vq_sz1, vq_sz2, vq_sz3, vq_sz4, vq_tru, vq_BM, vq_BM0, vq_sl, vq_ite_t, vq_ite_f, vq_ite_d, vq_ite_n, List.getElem?_cons_zero, List.getElem?_cons_succ, List.set_cons_zero, List.set_cons_succ, vq_app, vq_yes, vq_wn, vq_wc, vq_o1, vq_o2, vq_o3, vq_intI, vq_gsub, reduceIte, Bool.false_eq_true, Bool.not_true, Bool.not_false])
/-- what _law_heard tells of what_is_left, x what is left -/
def DueAt (H : Hp) (p : Addr) (x : Rat) : Prop := (x < 0 ∧ H p = some (.tup [.str "refused", .int 0])) ∨ (x = 0 ∧ H p = some (.tup [.str "told", .non])) ∨ (0 < x ∧ ∃ t, H p = some (.tup [.str "told", .ref t]) ∧ H t = some (pr x))
def dueD (x : Rat) : PyData := if x < 0 then .tuple [.str "refused", .int 0] else if x = 0 then .tuple [.str "told", .none] else .tuple [.str "told", .tuple [.int x.num, .int x.den]]
theorem dueD_lv {x : Rat} : Lv 3 (dueD x) := by
  unfold dueD
  split
  · exact ⟨by decide, fun d hd => by
      simp only [List.mem_cons, List.mem_nil_iff, or_false] at hd
      rcases hd with rfl | rfl <;> exact True.intro⟩
  · split
    · exact ⟨by decide, fun d hd => by
        simp only [List.mem_cons, List.mem_nil_iff, or_false] at hd
        rcases hd with rfl | rfl <;> exact True.intro⟩
    · exact ⟨by show 2 ≤ 10000; decide, fun d hd => by
        simp only [List.mem_cons, List.mem_nil_iff, or_false] at hd
        rcases hd with rfl | rfl
        · exact True.intro
        · exact ⟨by show 2 ≤ 10000; decide, fun d hd => by
            simp only [List.mem_cons, List.mem_nil_iff, or_false] at hd
            rcases hd with rfl | rfl <;> exact True.intro⟩⟩
theorem DueAt.dp {K : PySem.W.Frag} {H : Hp} {p : Addr} {x : Rat} (h : DueAt H p x) : Dp K H (.ref p) (dueD x) := by
  unfold dueD
  rcases h with ⟨h, e⟩ | ⟨h, e⟩ | ⟨h, t, e, e2⟩
  · rw [if_pos h]
    exact .tup (isT e) (.cons (.str _) (.cons (.int _) .nil))
  · subst h
    rw [if_neg (show ¬ (0 : Rat) < 0 by decide), if_pos rfl]
    exact .tup (isT e) (.cons (.str _) (.cons .non .nil))
  · have h1 : ¬ x < 0 := fun z => by grind
    have h2 : x ≠ 0 := fun z => by
      rw [z] at h
      exact Rat.lt_irrefl h
    rw [if_neg h1, if_neg h2]
    exact .tup (isT e) (.cons (.str _) (.cons (.tup (isT e2) (.cons (.int _) (.cons (.int _) .nil))) .nil))
theorem DueAt.kp {d c : Addr} {H H' : Hp} {p : Addr} {x : Rat} (k : Kp d c H H') (D : Deal H d c) (h : DueAt H p x) : DueAt H' p x := by
  have go : ∀ {b ys}, H b = some (.tup ys) → H' b = some (.tup ys) := fun {b ys} e => by
    have n := D.ne e (fun _ z => by cases z)
    exact k _ _ e n.1 n.2 fun _ z => by cases z
  rcases h with ⟨h, e⟩ | ⟨h, e⟩ | ⟨h, t, e, e2⟩
  · exact .inl ⟨h, go e⟩
  · exact .inr (.inl ⟨h, go e⟩)
  · exact .inr (.inr ⟨h, t, go e, go e2⟩)
abbrev RD : PyData := .tuple [.str "refused", .int 0]
abbrev TD : PyData := .tuple [.str "told", .none]
theorem rd_at {K : PySem.W.Frag} {H : Hp} {p : Addr} (e : H p = some (.tup [.str "refused", .int 0])) : Dp K H (.ref p) RD := .tup (isT e) (.cons (.str _) (.cons (.int _) .nil))
theorem td_at {K : PySem.W.Frag} {H : Hp} {p : Addr} (e : H p = some (.tup [.str "told", .non])) : Dp K H (.ref p) TD := .tup (isT e) (.cons (.str _) (.cons .non .nil))
theorem eqD_at {K : PySem.W.Frag} {H : Hp} {x y : V} {d e : PyData} {b : Bool} {Q : VK} (h1 : Dp K H x d) (h2 : Dp K H y e) (s1 : SeqAt.shaped d = true) (s2 : SeqAt.shaped e = true) (eb : PyData.eqv d e = b) (q : Q (.bl b) H) : rEqD K x y H Q := ⟨d, e, h1, h2, s1, s2, eb ▸ q⟩
theorem due_r {x : Rat} (h : x < 0) : dueD x = RD := if_pos h
theorem due_t : dueD 0 = TD := by
  unfold dueD
  rw [if_neg (show ¬ (0 : Rat) < 0 by decide), if_pos rfl]
theorem sh_r : SeqAt.shaped RD = true := by decide +kernel
theorem sh_t : SeqAt.shaped TD = true := by decide +kernel
theorem eq_rr : PyData.eqv RD RD = true := by decide +kernel
theorem eq_tt : PyData.eqv TD TD = true := by decide +kernel
theorem eq_rt : PyData.eqv RD TD = false := by decide +kernel
theorem eq_tr : PyData.eqv TD RD = false := by decide +kernel
theorem drop_nil {rs : List Rat} (h : ∀ r ∈ rs, Sh r) (e : rsum 0 rs = 0) : rs = [] := by
  cases rs with
  | nil => rfl
  | cons r l =>
    exfalso
    have h1 := (h r List.mem_cons_self).1
    have h2 : 0 ≤ rsum 0 l := rsum_nonneg fun x hx => h x (List.mem_cons_of_mem _ hx)
    rw [rsum_cons] at e
    grind
theorem num_lt {x : Rat} (h : x.num < 0) : x < 0 := by
  rw [Rat.lt_iff]
  simpa using h
theorem num_gt {x : Rat} (h : 0 < x.num) : 0 < x := by
  rw [Rat.lt_iff]
  simpa using h
theorem sub_neg' {s r : Rat} : s - r < 0 ↔ s < r := by
  constructor
  · intro h
    grind
  · intro h
    grind
theorem left_ok {K : PySem.W.Frag} {CR : Addr} {H : Hp} {Q : VK} {v : V} {a : Addr} {s : Rat} {xs : List V} {rs : List Rat} {D : Nat} (hV : shV K H v s) (hS : Sh s) (dv : Dv D s) (hA : SqL K H a xs ∨ SqT K H a xs) (hP : Paired (shV K H) xs rs) (hR : ∀ r ∈ rs, Sh r ∧ Dv D r)
    (h0 : D ≠ 0) (hD : D ≤ 10 ^ 40) (hl : rs.length ≤ 2000) (q : ∀ H' p, Same H H' → H p = none → DueAt H' p (s - rsum 0 rs) → Q (.ref p) H') :
    spLeft K CR [v, .ref a] H (fun v H' => ∀ p, H' p = none → Q (.ref p) (upd H' p (.tup [.str "told", v])))
      (fun cls d H' => cls = .ref CR ∧ ∃ dd v, d = some dd ∧ H' dd = some (atO v) ∧ ∀ p, H' p = none → Q (.ref p) (upd H' p (.tup [.str "refused", v]))) := by
  refine ⟨v, a, s, xs, rs, D, rfl, hV, hS, dv, hA, hP, hR, h0, Nat.lt_of_le_of_lt hD (by decide +kernel), hl, fun hlt H' d s1 nd ed => ?_, fun he H' s1 p np => ?_, fun hlt H' p s1 np ep p2 np2 => ?_⟩
  · refine ⟨rfl, d, .int 0, rfl, ed, fun p np => ?_⟩
    exact q _ p (s1.trans (same_new np)) (s1.free np) (.inl ⟨sub_neg'.mpr hlt, upd_same⟩)
  · exact q _ p (s1.trans (same_new np)) (s1.free np) (.inr (.inl ⟨by rw [he]; grind, upd_same⟩))
  · refine q _ p2 (s1.trans (same_new np2)) (s1.free np2) (.inr (.inr ⟨by grind, p, upd_same, ?_⟩))
    exact same_new np2 _ _ ep
theorem left_heard {K : PySem.W.Frag} {CR : Addr} {H : Hp} {Q : VK} {v : V} {a : Addr} {s : Rat} {xs : List V} {rs : List Rat} {D : Nat} (hV : shV K H v s) (hS : Sh s) (dv : Dv D s) (hA : SqL K H a xs ∨ SqT K H a xs) (hP : Paired (shV K H) xs rs) (hR : ∀ r ∈ rs, Sh r ∧ Dv D r)
    (h0 : D ≠ 0) (hD : D ≤ 10 ^ 40) (hl : rs.length ≤ 2000) (q : ∀ H' p, Same H H' → H p = none → DueAt H' p (s - rsum 0 rs) → Q (.ref p) H') : TTheard CR (fun E H' Q' => spLeft K CR [v, .ref a] H' Q' E) H Q := left_ok hV hS dv hA hP hR h0 hD hl q
theorem heard_mix {K : PySem.W.Frag} {CR : Addr} {H : Hp} {Q : VK} {v : V} {vs : List V} (h : spMixed K vs H (fun x H1 => rTupOf K [x] H1 fun y H2 => TTheard CR (fun E H' Q' => spLeft K CR [v, y] H' Q' E) H2 Q) E0) :
    TTheard CR (fun E H' Q' => spMixed K vs H' (fun x H1 => rTupOf K [x] H1 fun y H2 => spLeft K CR [v, y] H2 Q' E) E0) H Q := h
theorem heard_sl {K : PySem.W.Frag} {CR : Addr} {H : Hp} {Q : VK} {v x : V} {lo hi : Option Int} (h : rSlL K x lo hi H fun y H2 => TTheard CR (fun E H' Q' => spLeft K CR [v, y] H' Q' E) H2 Q) :
    TTheard CR (fun E H' Q' => rSlL K x lo hi H' fun y H2 => spLeft K CR [v, y] H2 Q' E) H Q := h
theorem heard_ix {K : PySem.W.Frag} {CR : Addr} {H : Hp} {Q : VK} {u i x : V} {lo hi : Option Int} (h : rIxT K u i H fun v H1 => TTheard CR (fun E H' Q' => rSlL K x lo hi H' fun y H2 => spLeft K CR [v, y] H2 Q' E) H1 Q) :
    TTheard CR (fun E H' Q' => rIxT K u i H' fun v H1 => rSlL K x lo hi H1 fun y H2 => spLeft K CR [v, y] H2 Q' E) H Q := h
section
variable {P : Program} {w : World} {K : PySem.W.Frag} {mg : Str → Option Value} {base : Heap}
/-! ### _law_left_right -/
abbrev s__law_left_right : Stmt := topS 30
theorem sc__law_left_right : FnScope ["deal", "share", "some", "top", "bottom", "due", "at", "first"] ["deal", "share", "some"] (defScope s__law_left_right) := ⟨rfl, rfl, rfl, by decide +kernel, rfl, by decide +kernel, by decide +kernel⟩
def spLR (K : PySem.W.Frag) (T : List (Addr × Str)) : Sp := fun vs H Q _ => ∃ (d c : Addr) (v : V) (a : Addr) (s : Rat) (xs : List V) (rs : List Rat) (D : Nat), vs = [.ref d, v, .ref a] ∧ Deal H d c ∧ shV K H v s ∧ Sh s ∧ Dv D s ∧ SqL K H a xs ∧ a ≠ d ∧ a ≠ c ∧ Paired (shV K H) xs rs ∧ (∀ r ∈ rs, Sh r ∧ Dv D r) ∧ D ≠ 0 ∧ D ≤ 10 ^ 40 ∧ rs.length ≤ 1000 ∧ Tabs T H ∧
  ∀ H', Kp d c H H' → Deal H' d c → Tabs T H' → Q (.bl true) H'
theorem c__law_left_right {CQ CR c P' : Addr} {T : List (Addr × Str)} (G : Glb mg) (GC : Cls2 K mg CQ CR) (D__law_heard : DefAt K mg "_law_heard" s__law_heard ["work"]) (D : DefC K mg "_law_left_right" s__law_left_right ["deal", "share", "some"] c) (TB : TabB base mg c P')
    (hmT : (P', ("_law_left_right.<locals>." : Str) ++ "<lambda>") ∈ T) (huT : ∀ p ∈ T, p.1 = P' → p.2 = ("_law_left_right.<locals>." : Str) ++ "<lambda>")
    (D_what_is_left : DefAt K mg "what_is_left" s_what_is_left ["share", "shares"]) (kw_what_is_left : Kws K "what_is_left" s_what_is_left ["share", "shares"]) (c_what_is_left : Callee P w K mg base (L2.CX P w) 4 "what_is_left" ["share", "shares"] (spLeft K CR))
    (c__law_less : Callee P w K mg base CX0 2 "_law_less" ["share", "some"] (spLess K)) (c__law_same : Callee P w K mg base CX0 3 "_law_same" ["value", "due"] (spSame K 3)) (c__law_mixed : Callee P w K mg base CX0 2 "_law_mixed" ["deal", "some"] (spMixed K)) (c__law_any : Callee P w K mg base CX0 1 "_law_any" ["deal", "bound"] spAny) :
    Callee P w K mg base CX0 8 "_law_left_right" ["deal", "share", "some"] (spLR K T) := by
  refine D.ok sc__law_left_right (fun vs H Q E h => ?_) (fun f A outer s H vs Q E hr h => ?_)
  · obtain ⟨d, c, v, a, s, xs, rs, D, rfl, _⟩ := h
    rfl
  · obtain ⟨d, cc, v, a, sh, xs, rs, D, rfl, hD, hV, hS, dv, hA, na1, na2, hP, hR, h0, hz, hl, hT, q⟩ := h
    refine ⟨_, (pss_cons (ps_asg (pe_fn c__law_less hr rfl (pa_cons (pv 1) (pa_cons (pv 2) pa_nil))) (pg_tup rfl (pgs_cons (pg_name (i := 3) sc__law_left_right.nd rfl (Or.inl rfl)) (pgs_cons (pg_name (i := 4) sc__law_left_right.nd rfl (Or.inl rfl)) pgs_nil))))
    (pss_cons (ps_set (i := 5) sc__law_left_right.nd rfl (Or.inl rfl) (pe_ifExp (pt_cmpR op_lt (pv 3) pe_int (nomark _)) (pe_tup (pa_cons pe_str (pa_cons pe_int pa_nil))) (pe_tup (pa_cons pe_str (pa_cons (pe_ifExp (pt_cmpR op_eq (pv 3) pe_int (nomark _)) pe_non (pe_tup (pa_cons (pv 3) (pa_cons (pv 4) pa_nil)))) pa_nil)))))
    (pss_cons (ps_if (pt_not (pt_val (pe_fn c__law_same hr rfl (pa_cons (pe_heard (T := T) (k := 5) (t := _) GC D__law_heard rfl TB rfl hmT huT hr (lamS_by (sc := defScope s__law_left_right) (by decide +kernel)) rfl (fun _ _ _ _ _ => rfl) (fun A outer s H E f c hr => (pe_fnK c_what_is_left D_what_is_left kw_what_is_left hr rfl (passes_call (takes_of rfl rfl rfl rfl) (fun _ _ _ _ z => z)) (pk_cons (pv 1) (pk_cons (pv 2) pk_nil))))) (pa_cons (pv 5) pa_nil))))) (pss_one (ps_ret pe_bl)) pss_nil)
    (pss_cons (ps_if (pt_not (pt_val (pe_fn c__law_same hr rfl (pa_cons (pe_heard (T := T) (k := 5) (t := _) GC D__law_heard rfl TB rfl hmT huT hr (lamS_by (sc := defScope s__law_left_right) (by decide +kernel)) rfl (fun _ _ _ _ _ => rfl) (fun A outer s H E f c hr => (pe_fnX c_what_is_left hr rfl (passes_call (takes_of rfl rfl rfl rfl) (fun _ _ _ _ z => z)) (pa_cons (pv 1) (pa_cons (pe_callTy (tupOf_K (K := K) rfl) (by rfl) G.m_tuple (by decide +kernel) (pa_cons (pe_fn c__law_mixed hr rfl (pa_cons (pv 0) (pa_cons (pv 2) pa_nil))) pa_nil)) pa_nil))))) (pa_cons (pv 5) pa_nil))))) (pss_one (ps_ret pe_bl)) pss_nil)
    (pss_cons (ps_set (i := 6) sc__law_left_right.nd rfl (Or.inr rfl) (pe_fn c__law_any hr rfl (pa_cons (pv 0) (pa_cons (pe_op op_add (pe_callB call_len_seq (by rfl) G.m_len PySem.boot_len (pa_cons (pv 2) pa_nil)) pe_int) pa_nil))))
    (pss_cons (ps_set (i := 7) sc__law_left_right.nd rfl (Or.inr rfl) (pe_heard (T := T) (k := 5) (t := _) GC D__law_heard rfl TB rfl hmT huT hr (lamS_by (sc := defScope s__law_left_right) (by decide +kernel)) rfl (fun _ _ _ _ _ => rfl) (fun A outer s H E f c hr => (pe_fnX c_what_is_left hr rfl (passes_call (takes_of rfl rfl rfl rfl) (fun _ _ _ _ z => z)) (pa_cons (pv 1) (pa_cons (pe_slice (slL_K (K := K) rfl) (pv 2) po_none (po_some (pv 6))) pa_nil))))))
    (pss_cons (ps_if (PW.pt (pw_and (pt_cmpR op_eq (pe_ix ix_tup (pv 7) pe_int (fun _ _ => rfl)) pe_str (nomark _)) (pw_and1 (pt_cmpR op_notN (pe_ix ix_tup (pv 7) pe_int (fun _ _ => rfl)) pe_non (nomark _))))) (pss_one (ps_ret (pe_fn c__law_same hr rfl (pa_cons (pe_heard (T := T) (k := 5) (t := _) GC D__law_heard rfl TB rfl hmT huT hr (lamS_by (sc := defScope s__law_left_right) (by decide +kernel)) rfl (fun _ _ _ _ _ => rfl) (fun A outer s H E f c hr => (pe_fnX c_what_is_left hr rfl (passes_call (takes_of rfl rfl rfl rfl) (fun _ _ _ _ z => z)) (pa_cons (pe_ix (ix_tupK (K := K) rfl) (pv 7) pe_int (fun _ _ => rfl)) (pa_cons (pe_slice (slL_K (K := K) rfl) (pv 2) (po_some (pv 6)) po_none) pa_nil))))) (pa_cons (pv 5) pa_nil))))) pss_nil)
    (pss_one (ps_ret (pe_or (pe_and (pe_cmpR (op_eqD hr.units) (pv 7) (pe_tup (pa_cons pe_str (pa_cons pe_int pa_nil))) (nomark _)) (pe_one (pe_cmpR (op_eqD hr.units) (pv 5) (pv 7) (nomark _)))) (pe_one (pe_and (pe_cmpR (op_eqD hr.units) (pv 7) (pe_tup (pa_cons pe_str (pa_cons pe_non pa_nil))) (nomark _)) (pe_one (pe_or (pe_cmpR (op_eqD hr.units) (pv 5) (pv 7) (nomark _)) (pe_one (pe_and (pe_cmpR (op_neNil hr.units) (pe_slice sl_list (pv 2) (po_some (pv 6)) po_none) (pe_lst pa_nil) (nomark _)) (pe_one (pe_cmpR (op_eqD hr.units) (pv 5) (pe_tup (pa_cons pe_str (pa_cons pe_int pa_nil))) (nomark _))))))))))))))))))), ?_⟩
    walk_at "vc"
    refine ⟨v, a, sh, xs, rs, D, rfl, hV, hS, dv, hA, hP, hR, h0, hz, by omega, fun p np => ?_⟩
    refine gt2 (isT upd_same) ?_
    refine seq_rest (fun σ' H1 => ∃ p1, σ' = [some (V.ref d), some v, some (V.ref a), some (V.int (sh - rsum 0 rs).num), some (V.int ((sh - rsum 0 rs).den : Int)), some (V.ref p1), none, none] ∧ Same H H1 ∧ DueAt H1 p1 (sh - rsum 0 rs)) ?_ ?_
    · rintro σ' H1 ⟨p1, rfl, s1, hdue⟩
      walk_at "vd"
      have hT1 := hT.ext s1
      have hD1 := hD.same s1
      refine ⟨hT1, fun H2 e2 hT2 => ?_⟩
      have k2 : Kp d cc H H2 := (Kp.same s1).trans (.ext e2)
      have hD2 := hD1.ext e2
      refine left_heard (k2.shV hD hV) hS dv (.inl (k2.seqL na1 na2 hA)) (hP.mono fun v r h => k2.shV hD h) hR h0 hz (by omega) fun H3 p3 s3 np3 hp3 => ?_
      have k3 := k2.trans (.same s3)
      have hT3 := hT2.ext s3
      have hD3 := hD2.same s3
      have hd3 : DueAt H3 p1 (sh - rsum 0 rs) := hdue.kp ((Kp.ext e2).trans (.same s3)) hD1
      refine ⟨_, _, _, rfl, hp3.dp, hd3.dp, dueD_lv, fun H4 s4 => ?_⟩
      walk_at "vc"
      have k4 := k3.trans (.same s4)
      have hd4 : DueAt H4 p1 (sh - rsum 0 rs) := hd3.kp (.same s4) hD3
      refine ⟨hT3.ext s4, fun H5 e5 hT5 => ?_⟩
      have k5 := k4.trans (.ext e5)
      have hD4 := hD3.same s4
      have hD5 := hD4.ext e5
      have hd5 : DueAt H5 p1 (sh - rsum 0 rs) := hd4.kp (.ext e5) hD4
      refine heard_mix ⟨d, cc, a, xs, rfl, hD5, .inl (k5.seqL na1 na2 hA), by rw [hP.length]; omega, fun H6 p6 ys e6 hD6 np6 ep6 pm => ⟨p6, ys, rfl, .inl ⟨isL ep6, fun p7 np7 => ?_⟩⟩⟩
      have hP5 := hP.mono fun v r h => k5.shV hD h
      obtain ⟨rs', pr', hP6⟩ := paired_perm pm hP5
      have k65 := (Kp.but (d := d) (c := cc) e6).trans (.same (same_new (o := .tup ys) np7))
      have k6 := k5.trans k65
      have hT6 := (Tabs.but hD5 hT5 e6).ext (same_new (o := .tup ys) np7)
      refine left_heard (k6.shV hD hV) hS dv (.inr (isT upd_same)) (hP6.mono fun v r h => k65.shV hD5 h) (fun r hr => hR r (pr'.mem_iff.mp hr)) h0 hz (by rw [pr'.length_eq]; omega) fun H7 p8 s7 np8 hp8 => ?_
      rw [rsum_perm pr'] at hp8
      have k7 := k6.trans (.same s7)
      have hT7 := hT6.ext s7
      have hD7 := (hD6.same (same_new (o := .tup ys) np7)).same s7
      have hd7 : DueAt H7 p1 (sh - rsum 0 rs) := hd5.kp (k65.trans (.same s7)) hD5
      refine ⟨_, _, _, rfl, hp8.dp, hd7.dp, dueD_lv, fun H8 s8 => ?_⟩
      have k8 := k7.trans (.same s8)
      have hT8 := hT7.ext s8
      have hD8 := hD7.same s8
      have hd8 : DueAt H8 p1 (sh - rsum 0 rs) := hd7.kp (.same s8) hD7
      walk_at "vc"
      refine ⟨a, xs, rfl, .inl (k8.seqL na1 na2 hA), d, cc, _, rfl, hD8, by omega, ?_, fun H9 i e9 hD9 h1 h2 => ?_⟩
      · have := hP.length
        refine Nat.lt_of_lt_of_le (show ((xs.length : Int) + 1).natAbs < 2 ^ 20 by omega) (by decide +kernel)
      · have k9 := k8.trans (.but e9)
        have hT9 := Tabs.but hD8 hT8 e9
        have hd9 : DueAt H9 p1 (sh - rsum 0 rs) := hd8.kp (.but e9) hD8
        walk_at "vd"
        refine ⟨hT9, fun H10 e10 hT10 => ?_⟩
        have k10 := k9.trans (.ext e10)
        have hD10 := hD9.ext e10
        have hd10 : DueAt H10 p1 (sh - rsum 0 rs) := hd9.kp (.ext e10) hD9
        obtain ⟨n, rfl⟩ : ∃ n : Nat, i = n := ⟨i.toNat, by omega⟩
        refine heard_sl ⟨a, xs, rfl, k10.seqL na1 na2 hA, fun p10 np10 => ?_⟩
        rw [cutV_to]
        have s11 := same_new (o := .lst (xs.take n)) np10
        have k11 := k10.trans (.same s11)
        have hP11 := hP.mono fun v r h => k11.shV hD h
        refine left_heard (k11.shV hD hV) hS dv (.inl (isL upd_same)) (paired_take n hP11) (fun r hr => hR r (List.mem_of_mem_take hr)) h0 hz (by rw [List.length_take]; omega) fun H12 p12 s12 np12 hp12 => ?_
        have k12 := k11.trans (.same s12)
        have s1012 := s11.trans s12
        have hD12 := hD10.same s1012
        have hT12 := hT10.ext s1012
        have hd12 : DueAt H12 p1 (sh - rsum 0 rs) := hd10.kp (.same s1012) hD10
        have hsum : rsum 0 rs = rsum 0 (rs.take n) + rsum 0 (rs.drop n) := by rw [← rsum_append, List.take_append_drop]
        have hpos : 0 ≤ rsum 0 (rs.drop n) := rsum_nonneg fun r hr => (hR r (List.mem_of_mem_drop hr)).1
        rcases hp12 with ⟨hx, ep⟩ | ⟨hx, ep⟩ | ⟨hx, t, ep, et⟩
        · refine ixT (isT ep) rfl ⟨rfl, _, rfl, iteF' (by decide +kernel) fun p13 np13 => ?_⟩
          have s13 := same_new (o := .tup [.str "refused", .int 0]) np13
          have hx2 : sh - rsum 0 rs < 0 := by grind
          refine eqD_at (rd_at (s13 _ _ ep)) (rd_at upd_same) sh_r sh_r eq_rr ⟨_, rfl, iteT' rfl ?_⟩
          have hdd := (hd12.kp (.same s13) hD12).dp (K := K)
          rw [due_r hx2] at hdd
          refine eqD_at hdd (rd_at (s13 _ _ ep)) sh_r sh_r eq_rr ⟨_, rfl, iteT' rfl ?_⟩
          exact q _ (k12.trans (.same s13)) (hD12.same s13) (hT12.ext s13)
        · refine ixT (isT ep) rfl ⟨rfl, _, rfl, iteT' (by decide +kernel) ?_⟩
          refine ixT (isT ep) rfl ?_
          refine iteT' rfl fun p13 np13 => ?_
          have s13 := same_new (o := .tup [.str "refused", .int 0]) np13
          refine eqD_at (td_at (s13 _ _ ep)) (rd_at upd_same) sh_t sh_r eq_tr ⟨_, rfl, iteF' (by decide) fun p14 np14 => ?_⟩
          have s14 := s13.trans (same_new (o := .tup [.str "told", .non]) np14)
          have hD14 := hD12.same s14
          refine eqD_at (td_at (s14 _ _ ep)) (td_at upd_same) sh_t sh_t eq_tt ⟨_, rfl, iteT' rfl ?_⟩
          have hdd := (hd12.kp (.same s14) hD12).dp (K := K)
          by_cases hz0 : rsum 0 (rs.drop n) = 0
          · have hx0 : sh - rsum 0 rs = 0 := by grind
            rw [hx0, due_t] at hdd
            refine eqD_at hdd (td_at (s14 _ _ ep)) sh_t sh_t eq_tt ⟨_, rfl, iteT' rfl ?_⟩
            exact q _ (k12.trans (.same s14)) hD14 (hT12.ext s14)
          · have hx0 : sh - rsum 0 rs < 0 := by grind
            rw [due_r hx0] at hdd
            refine eqD_at hdd (td_at (s14 _ _ ep)) sh_r sh_t eq_rt ⟨_, rfl, iteF' (by decide) ?_⟩
            refine ⟨a, xs, rfl, (k12.trans (.same s14)).seqL na1 na2 hA, fun p15 np15 p16 np16 => ?_⟩
            have s15 := s14.trans (same_new (o := .lst (cutV xs (some ((n : Nat) : Int)) none)) np15)
            have s16 := s15.trans (same_new (o := .lst []) np16)
            have hne : (cutV xs (some ((n : Nat) : Int)) none).isEmpty = false := by
              rw [cutV_from]
              have hl2 := (paired_drop n hP).length
              cases hc : xs.drop n with
              | nil =>
                exfalso
                rw [hc] at hl2
                have : rs.drop n = [] := List.length_eq_zero_iff.mp hl2.symm
                exact hz0 (by rw [this]; rfl)
              | cons _ _ => rfl
            refine eqNil (isL (same_new np16 _ _ upd_same)) (isL upd_same) ⟨_, rfl, ?_⟩
            rw [hne]
            refine iteT' rfl fun p17 np17 => ?_
            have s17 := s16.trans (same_new (o := .tup [.str "refused", .int 0]) np17)
            have hdd := (hd12.kp (.same s17) hD12).dp (K := K)
            rw [due_r hx0] at hdd
            refine eqD_at hdd (rd_at upd_same) sh_r sh_r eq_rr ?_
            exact q _ (k12.trans (.same s17)) (hD12.same s17) (hT12.ext s17)
        · refine ixT (isT ep) rfl ⟨rfl, _, rfl, iteT' (by decide +kernel) ?_⟩
          refine ixT (isT ep) rfl ?_
          refine iteF' (fun z => by cases z) ⟨hT12, fun H13 e13 hT13 => ?_⟩
          have k13 := k12.trans (.ext e13)
          have hD13 := hD12.ext e13
          have hd13 : DueAt H13 p1 (sh - rsum 0 rs) := hd12.kp (.ext e13) hD12
          have ep13 := e13 _ _ ep (fun _ z => by cases z)
          have et13 := e13 _ _ et (fun _ z => by cases z)
          refine heard_ix (ixT (isT ep13) rfl (heard_sl ⟨a, xs, rfl, k13.seqL na1 na2 hA, fun p14 np14 => ?_⟩))
          rw [cutV_from]
          have s14 := same_new (o := .lst (xs.drop n)) np14
          have hP14 := hP.mono fun v r h => (k13.trans (.same s14)).shV hD h
          have hS1 : Sh (sh - rsum 0 (rs.take n)) := by
            refine ⟨hx, ?_⟩
            have h5 : 0 ≤ rsum 0 (rs.take n) := rsum_nonneg fun r hr => (hR r (List.mem_of_mem_take hr)).1
            have h6 := hS.2
            grind
          have dv1 : Dv D (sh - rsum 0 (rs.take n)) := dv.sub h0 (rsum_Dv h0 fun r hr => (hR r (List.mem_of_mem_take hr)).2)
          refine left_heard ⟨t, rfl, isT (s14 _ _ et13)⟩ hS1 dv1 (.inl (isL upd_same)) (paired_drop n hP14) (fun r hr => hR r (List.mem_of_mem_drop hr)) h0 hz (by rw [List.length_drop]; omega) fun H15 p15 s15 np15 hp15 => ?_
          have hx5 : sh - rsum 0 (rs.take n) - rsum 0 (rs.drop n) = sh - rsum 0 rs := by grind
          rw [hx5] at hp15
          have s1315 := s14.trans s15
          refine ⟨_, _, _, rfl, hp15.dp, (hd13.kp (.same s1315) hD13).dp, dueD_lv, fun H16 s16 => ?_⟩
          exact q _ (k13.trans (.same (s1315.trans s16))) ((hD13.same s1315).same s16) ((hT13.ext s1315).ext s16)
    · intro R hR
      walk_at "vc"
      by_cases hlt : (sh - rsum 0 rs).num < 0
      · exact iteT' hlt fun p1 np1 => hR _ _ ⟨p1, rfl, (same_new np).trans (same_new np1), .inl ⟨num_lt hlt, upd_same⟩⟩
      · refine iteF' hlt ?_
        by_cases he : (sh - rsum 0 rs).num = 0
        · exact iteT' he fun p1 np1 => hR _ _ ⟨p1, rfl, (same_new np).trans (same_new np1), .inr (.inl ⟨Rat.num_eq_zero.mp he, upd_same⟩)⟩
        · refine iteF' he fun p2 np2 p1 np1 => hR _ _ ⟨p1, rfl, (same_new np).trans ((same_new np2).trans (same_new np1)), .inr (.inr ⟨?_, p2, upd_same, same_new np1 _ _ upd_same⟩)⟩
          exact num_gt (by omega)
end
end K0
set_option Elab.async false
set_option linter.all false
set_option maxRecDepth 100000
set_option maxHeartbeats 8000000
set_option exponentiation.threshold 20000
namespace K0
open PySem L2 LamX PySem.Spec PyProof.Rows
local macro_rules | `(tactic| walk_at "vc") => `(tactic| try simp only [vq_st1_1, vq_st1_2, vq_st1_3, vq_st1_4, vq_st1_5, vq_st1_6, vq_st1_7, vq_st1_8, vq_st1_9, vq_st1_10, vq_st1_11, vq_st1_12, vq_st1_13, vq_st1_14, vq_st1_15, vq_st1_16, vq_st1_17, vq_st2_2, vq_st2_3, vq_st2_4, vq_st2_5, vq_st2_6, vq_st2_7, vq_st2_8, vq_st2_9, vq_st2_10, vq_st2_11, vq_st2_12, vq_st2_13, vq_st2_14, vq_st2_15, vq_st2_16, vq_st2_17, vq_st2_18, vq_st3_3, vq_st3_4, vq_st3_5, vq_st3_6, vq_st3_7, vq_st3_8, vq_st3_9, vq_st3_10, vq_st3_11, vq_st3_12, vq_st3_13, vq_st3_14, vq_st3_15, vq_st3_16, vq_st3_17, vq_st3_18, vq_st3_19, vq_st4_4, vq_st4_5, vq_st4_6, vq_st4_7, vq_st4_8, vq_st4_9, vq_st4_10, vq_st4_11, vq_st4_12, vq_st4_13, vq_st4_14, vq_st4_15, vq_st4_16, vq_st4_17, vq_st4_18, vq_st4_19, vq_st4_20, vq_cK, vq_cKn, vq_var, vq_c, vq_op, vq_un, vq_I, vq_I0, vq_U, vq_eqI, vq_neI, vq_neB, vq_nil, vq_cons, vq_call, vq_CB, vq_bl, vq_B, vq_test, vq_and, vq_or, vq_not, vq_andV, vq_orV, vq_notV, vq_if, vq_ifS, vq_chain, vq_seq, vq_next, vq_ret, vq_retN, vq_drop, vq_asg, vq_par, vq_par2, vq_aug, vq_some, vq_name, vq_gnil, vq_tup, vq_lst, vq_sz0, vq_sz1, vq_sz2, vq_sz3, vq_sz4, vq_tru, vq_BM, vq_BM0, vq_sl, vq_ite_t, vq_ite_f, vq_ite_d, vq_ite_n, List.getElem?_cons_zero, List.getElem?_cons_succ, List.set_cons_zero, List.set_cons_succ, vq_app, vq_yes, vq_wn, vq_wc, vq_o1, vq_o2, vq_o3, vq_intI, vq_gsub, reduceIte, Bool.false_eq_true, Bool.not_true, Bool.not_false])
local macro_rules | `(tactic| walk_at "vd") => `(tactic| try simp only [vq_lam, vq_np, vq_part, vq_ik, vq_st1_1, vq_st1_2, vq_st1_3, vq_st1_4, vq_st1_5, vq_st1_6, vq_st1_7, vq_st1_8, vq_st1_9, vq_st1_10, vq_st1_11, vq_st1_12, vq_st1_13, vq_st1_14, vq_st1_15, vq_st1_16, vq_st1_17, vq_st2_2, vq_st2_3, vq_st2_4, vq_st2_5, vq_st2_6, vq_st2_7, vq_st2_8, vq_st2_9, vq_st2_10, vq_st2_11, vq_st2_12, vq_st2_13, vq_st2_14, vq_st2_15, vq_st2_16, vq_st2_17, vq_st2_18, vq_st3_3, vq_st3_4, vq_st3_5, vq_st3_6, vq_st3_7, vq_st3_8, vq_st3_9, vq_st3_10, vq_st3_11, vq_st3_12, vq_st3_13, vq_st3_14, vq_st3_15, vq_st3_16, vq_st3_17, vq_st3_18, vq_st3_19, vq_st4_4, vq_st4_5, vq_st4_6, vq_st4_7, vq_st4_8, vq_st4_9, vq_st4_10, vq_st4_11, vq_st4_12, vq_st4_13, vq_st4_14, vq_st4_15, vq_st4_16, vq_st4_17, vq_st4_18, vq_st4_19, vq_st4_20, vq_cK, vq_cKn, vq_var, vq_c, vq_op, vq_un, vq_I, vq_I0, vq_U, vq_eqI, vq_neI, vq_neB, vq_nil, vq_cons, vq_call, vq_CB, vq_bl, vq_B, vq_test, vq_and, vq_or, vq_not, vq_andV, vq_orV, vq_notV, vq_if, vq_ifS, vq_chain, vq_seq, vq_next, vq_ret, vq_retN, vq_drop, vq_asg, vq_par, vq_par2, vq_aug, vq_some, vq_name, vq_gnil, vq_tup, vq_lst, vq_sz0, vq_sz1, vq_sz2, vq_sz3, vq_sz4, vq_tru, vq_BM, vq_BM0, vq_sl, vq_ite_t, vq_ite_f, vq_ite_d, vq_ite_n, List.getElem?_cons_zero, List.getElem?_cons_succ, List.set_cons_zero, List.set_cons_succ, vq_app, vq_yes, vq_wn, vq_wc, vq_o1, vq_o2, vq_o3, vq_intI, vq_gsub, reduceIte, Bool.false_eq_true, Bool.not_true, Bool.not_false])
theorem Deal.fresh {H : Hp} {d c p : Addr} (D : Deal H d c) (e : H p = none) : p ≠ d ∧ p ≠ c := by
  obtain ⟨cells, z, h1, h2, _⟩ := D
  exact ⟨fun q => (by rw [q, h1] at e; cases e), fun q => (by rw [q, h2] at e; cases e)⟩
theorem Deal.upd {H : Hp} {d c p : Addr} {o : HO} (D : Deal H d c) (e : H p = none) : Deal (upd H p o) d c := D.same (same_new e)
theorem Tabs.upd {T : List (Addr × Str)} {H : Hp} {p : Addr} {o : HO} (t : Tabs T H) (e : H p = none) : Tabs T (upd H p o) := t.ext (same_new e)
/-- the heap goes on: the source of draws and the tables stand, all else stays -/
structure Go (T : List (Addr × Str)) (d c : Addr) (H H' : Hp) : Prop where
  k : Kp d c H H'
  D : Deal H' d c
  T : Tabs T H'
theorem Go.refl {T : List (Addr × Str)} {d c : Addr} {H : Hp} (D : Deal H d c) (t : Tabs T H) : Go T d c H H := ⟨.refl, D, t⟩
theorem Go.but {T : List (Addr × Str)} {d c : Addr} {H H1 H2 : Hp} (g : Go T d c H H1) (e : But [d, c] H1 H2) (D : Deal H2 d c) : Go T d c H H2 := ⟨g.k.trans (.but e), D, Tabs.but g.D g.T e⟩
theorem Go.same {T : List (Addr × Str)} {d c : Addr} {H H1 H2 : Hp} (g : Go T d c H H1) (e : Same H1 H2) : Go T d c H H2 := ⟨g.k.trans (.same e), g.D.same e, g.T.ext e⟩
theorem Go.upd {T : List (Addr × Str)} {d c p : Addr} {o : HO} {H H1 : Hp} (g : Go T d c H H1) (e : H1 p = none) : Go T d c H (upd H1 p o) := g.same (same_new e)
theorem Go.kp {T : List (Addr × Str)} {d c : Addr} {H H1 H2 : Hp} (g : Go T d c H H1) (e : Kp d c H1 H2) (D : Deal H2 d c) (t : Tabs T H2) : Go T d c H H2 := ⟨g.k.trans e, D, t⟩
/-- a list of shares that stays -/
def LsAt (K : PySem.W.Frag) (d c : Addr) (H : Hp) (p : Addr) (xs : List V) (rs : List Rat) : Prop := p ≠ d ∧ p ≠ c ∧ H p = some (.lst xs) ∧ Paired (shV K H) xs rs
theorem LsAt.go {K : PySem.W.Frag} {T : List (Addr × Str)} {d c p : Addr} {H H' : Hp} {xs : List V} {rs : List Rat} (D : Deal H d c) (g : Go T d c H H') (h : LsAt K d c H p xs rs) : LsAt K d c H' p xs rs :=
  ⟨h.1, h.2.1, g.k _ _ h.2.2.1 h.1 h.2.1 (fun _ z => by cases z), h.2.2.2.mono fun v r q => g.k.shV D q⟩
theorem pr_one : pr 1 = .tup [.int 1, .int 1] := rfl
theorem sh_one : Sh 1 := by
  constructor
  · decide
  · decide
theorem dv_one {B : Nat} (h : B ≠ 0) : Dv B 1 := ⟨B, by rw [Rat.divInt_self' (by omega)]⟩
theorem sh_div {a b : Nat} (h1 : 1 ≤ a) (h2 : a ≤ b) : Sh (Rat.divInt a b) := by
  have hb : (0 : Int) < (b : Int) := by omega
  have hg := gI_pos (t := (a : Int)) hb
  refine sh_of ?_ ?_
  · rw [← lo_num hb]
    exact Int.ediv_pos_of_pos_of_dvd (by omega) (Int.le_of_lt hg) (Int.natAbs_dvd_natAbs.mp (by rw [Int.natAbs_natCast]; exact Nat.gcd_dvd_left _ _))
  · rw [← lo_num hb, ← lo_den hb]
    exact Int.ediv_le_ediv hg (by omega)
theorem lc_draws {n m k : Nat} {vs : List Nat} {σ : L2.St} {H1 : Hp} {Q : VK} {d cc : Addr} {te : TE} (hD : Deal H1 d cc) (hn : n ≤ 100) (hw : ∀ x, wipe ((wipe σ vs).set k (some x)) vs = wipe σ vs)
    (ht : ∀ x H' (R : VK), Deal H' d cc → (∀ H2 i, But [d, cc] H' H2 → Deal H2 d cc → 0 ≤ i → i < (m : Int) → R (.int (1 + i)) H2) → te ((wipe σ vs).set k (some x)) H' R)
    (q : ∀ D H' (ws : List Nat), But [d, cc] H1 H' → Deal H' d cc → H1 D = none → H' D = some (.lst (ws.map fun w : Nat => V.int w)) → ws.length = n → (∀ w ∈ ws, 1 ≤ w ∧ w ≤ m) → Q (.ref D) H') :
    tLc (fun _ H R => R (Itr 0 n) H) (gName k) tYes te vs σ H1 Q := by
  intro D nD
  have fD := hD.fresh nD
  refine lc_it (walk_range (lo := 0) (n := n)) (fun i H => But [d, cc] H1 H ∧ Deal H d cc ∧ ∃ ws : List Nat, H D = some (.lst (ws.map fun w : Nat => V.int w)) ∧ ws.length = i ∧ ∀ w ∈ ws, 1 ≤ w ∧ w ≤ m) ⟨.of (same_new nD), hD.upd nD, [], upd_same, rfl, by simp⟩ (fun i H _ h => True.intro) (fun i x H H' hi h y => ?_) fun H ⟨h1, h2, ws, h3, h4, h5⟩ => q D H ws h1 h2 nD h3 h4 h5
  obtain ⟨h1, h2, ws, h3, h4, h5⟩ := h
  obtain ⟨rfl, rfl⟩ := y
  refine ⟨hw _, ?_⟩
  refine ht _ H' _ h2 fun H2 i2 e2 hD2 a2 b2 => ?_
  have h3' := e2 _ _ h3 (by simp [fD.1, fD.2])
  refine ⟨_, h3', by rw [List.length_map, h4, sizeLine_eq]; omega, fun b o e nb => ?_, ?_, ws ++ [(1 + i2).toNat], ?_, by rw [List.length_append, h4]; rfl, fun w hw => ?_⟩
  · rw [upd_ne (ne_of_none e nD)]
    exact e2 _ _ (h1 _ _ e nb) nb
  · obtain ⟨cells, z, g1, g2, g3⟩ := hD2
    exact ⟨cells, z, by rw [upd_ne fD.1.symm]; exact g1, by rw [upd_ne fD.2.symm]; exact g2, g3⟩
  · rw [upd_same, List.map_append]
    show some (HO.lst (_ ++ [V.int (1 + i2)])) = some (HO.lst (_ ++ [V.int (((1 + i2).toNat : Nat) : Int)]))
    rw [Int.toNat_of_nonneg (by omega)]
  · rcases List.mem_append.mp hw with hw | hw
    · exact h5 w hw
    · simp only [List.mem_cons, List.mem_nil_iff, or_false] at hw
      omega
theorem tLc_in {wi : TI} {g : TG} {tt : TT} {te : TE} {vs : List Nat} {σ : L2.St} {H : Hp} {Q : VK} (h : wi σ H fun J H1 => tLc (fun _ H R => R J H) g tt te vs σ H1 Q) : tLc wi g tt te vs σ H Q := h
theorem rng1_in {ta : TA} {σ : L2.St} {H : Hp} {R : It → Hp → Prop} (h : ta σ H fun vs H1 => ∃ j : Int, vs = [.int j] ∧ -(2 ^ 62) ≤ j ∧ j < 2 ^ 62 ∧ R (Itr 0 j.toNat) H1) : iRng1 ta σ H R := h
theorem ilist_in {K : PySem.W.Frag} {te : TE} {σ : L2.St} {H : Hp} {R : It → Hp → Prop} (h : te σ H fun x H1 => ∃ a, x = .ref a ∧ (∃ xs, SqL K H1 a xs) ∧ R (Itl K a) H1) : iList K te σ H R := h
/-- the data of a share -/
def prD (r : Rat) : PyData := .tuple [.int r.num, .int r.den]
theorem shV_dp {K : PySem.W.Frag} {H : Hp} {v : V} {r : Rat} (h : shV K H v r) : Dp K H v (prD r) := by
  obtain ⟨t, rfl, h⟩ := h
  exact .tup h (.cons (.int _) (.cons (.int _) .nil))
theorem prD_lv {r : Rat} {n : Nat} : Lv (n + 2) (prD r) := ⟨by show 2 ≤ 10000; decide, fun d hd => by
  simp only [List.mem_cons, List.mem_nil_iff, or_false] at hd
  rcases hd with rfl | rfl <;> exact True.intro⟩
theorem dpAll_bl {K : PySem.W.Frag} {H : Hp} : ∀ n : Nat, DpAll K H (List.replicate n (V.bl true)) (List.replicate n (.bool true))
  | 0 => .nil
  | n + 1 => .cons (.bl true) (dpAll_bl n)
theorem bls_lv {n m : Nat} (h : n ≤ 10000) : Lv (m + 2) (.list (List.replicate n (.bool true))) := ⟨by rw [List.length_replicate]; exact h, fun d hd => by
  rw [(List.mem_replicate.mp hd).2]
  exact True.intro⟩
theorem paired_app {α β : Type} {F : α → β → Prop} : ∀ {xs : List α} {rs : List β} {ys : List α} {qs : List β}, Paired F xs rs → Paired F ys qs → Paired F (xs ++ ys) (rs ++ qs)
  | _, _, _, _, .nil, h => h
  | _, _, _, _, .cons f r, h => .cons f (paired_app r h)
theorem cut_facts {s : Rat} {B N M : Nat} {ws : List Nat} (hS : Sh s) (dv : Dv B s) (hB : B ≠ 0) (h1 : 1 ≤ ws.length) (hw : ∀ w ∈ ws, 1 ≤ w ∧ w ≤ M) : ws.sum ≠ 0 ∧ rsum 0 (ws.map (cutR s ws.sum)) = s ∧ ∀ r ∈ ws.map (cutR s ws.sum), Sh r ∧ Dv (B * ws.sum) r := by
  have h0 : ws.sum ≠ 0 := by
    cases ws with
    | nil => exact absurd h1 (by decide)
    | cons w l =>
      have := (hw w List.mem_cons_self).1
      rw [List.sum_cons]
      omega
  refine ⟨h0, cut_all h0, fun r hr => ?_⟩
  obtain ⟨w, hwm, rfl⟩ := List.mem_map.mp hr
  exact ⟨cut_sh hS (hw w hwm).1 (mem_le_sum hwm), cut_dv h0 hB dv⟩
theorem sum_le' {M : Nat} {ws : List Nat} (h : ∀ w ∈ ws, 1 ≤ w ∧ w ≤ M) : ws.sum ≤ ws.length * M := by
  induction ws with
  | nil => exact Nat.zero_le _
  | cons a r ih =>
    have h1 := ih fun w hw => h w (List.mem_cons_of_mem _ hw)
    have h2 := (h a List.mem_cons_self).2
    rw [List.sum_cons, List.length_cons, Nat.succ_mul]
    omega
theorem flat_one {α : Type} (x : α) : ∀ n : Nat, (List.replicate n [x]).flatten = List.replicate n x
  | 0 => rfl
  | n + 1 => by rw [List.replicate_succ, List.flatten_cons, flat_one x n, List.replicate_succ]; rfl
theorem range_const {α : Type} (x : α) (n : Nat) : (List.range n).map (fun _ => x) = List.replicate n x := by
  rw [List.map_const', List.length_range]
theorem LsAt.new {K : PySem.W.Frag} {d c q : Addr} {H : Hp} {zs : List V} {qs : List Rat} (D : Deal H d c) (n : H q = none) (h : Paired (shV K H) zs qs) : LsAt K d c (upd H q (.lst zs)) q zs qs :=
  ⟨(D.fresh n).1, (D.fresh n).2, upd_same, h.mono fun v r h => h.same (same_new n)⟩
/-- a list to be tried -/
def Elt (K : PySem.W.Frag) (d c : Addr) (D : Nat) (H : Hp) (v : V) : Prop := ∃ q zs qs, v = .ref q ∧ LsAt K d c H q zs qs ∧ (∀ r ∈ qs, Sh r ∧ Dv D r) ∧ qs.length ≤ 1000
theorem Elt.go {K : PySem.W.Frag} {T : List (Addr × Str)} {d c : Addr} {D : Nat} {v : V} {H H' : Hp} (dl : Deal H d c) (g : Go T d c H H') (h : Elt K d c D H v) : Elt K d c D H' v := by
  obtain ⟨q, zs, qs, e, h1, h2, h3⟩ := h
  exact ⟨q, zs, qs, e, h1.go dl g, h2, h3⟩
theorem tFor_in {wi : TI} {g : TG} {tb : TS} {D : Ends} {σ : L2.St} {H : Hp} (h : wi σ H fun J H1 => tFor (fun _ H R => R J H) g tb D σ H1) : tFor wi g tb D σ H := h
theorem atI_0 {α : Type} {x : α} {l : List α} : atI (x :: l) 0 = some x := by
  have h1 : ixN (x :: l).length (0 : Int) = some 0 := by
    unfold ixN
    rw [if_pos (by omega), if_pos (by rw [List.length_cons]; omega)]
    rfl
  unfold atI
  rw [h1]
  rfl
theorem LsAt.same {K : PySem.W.Frag} {d c p : Addr} {H H' : Hp} {xs : List V} {rs : List Rat} (s : Same H H') (h : LsAt K d c H p xs rs) : LsAt K d c H' p xs rs :=
  ⟨h.1, h.2.1, s _ _ h.2.2.1, h.2.2.2.mono fun v r q => q.same s⟩
theorem sl_from {K : PySem.W.Frag} {d c q : Addr} {H : Hp} {xs : List V} {rs : List Rat} {Q : VK} (D : Deal H d c) (h : LsAt K d c H q xs rs) (k : ∀ H' p, Same H H' → LsAt K d c H' p (xs.drop 1) (rs.drop 1) → Q (.ref p) H') : rSlL K (.ref q) (some 1) none H Q := by
  refine ⟨q, xs, rfl, isL h.2.2.1, fun p np => ?_⟩
  rw [show (some (1 : Int)) = some ((1 : Nat) : Int) from rfl, cutV_from]
  exact k _ p (same_new np) (LsAt.new D np (paired_drop 1 h.2.2.2))
theorem sl_to {K : PySem.W.Frag} {d c q : Addr} {H : Hp} {xs : List V} {rs : List Rat} {Q : VK} (D : Deal H d c) (h : LsAt K d c H q xs rs) (k : ∀ H' p, Same H H' → LsAt K d c H' p (xs.take 1) (rs.take 1) → Q (.ref p) H') : rSlL K (.ref q) none (some 1) H Q := by
  refine ⟨q, xs, rfl, isL h.2.2.1, fun p np => ?_⟩
  rw [show (some (1 : Int)) = some ((1 : Nat) : Int) from rfl, cutV_to]
  exact k _ p (same_new np) (LsAt.new D np (paired_take 1 h.2.2.2))
theorem cat_ls {K : PySem.W.Frag} {d c q q' : Addr} {H : Hp} {xs ys : List V} {rs qs : List Rat} {Q : VK} (D : Deal H d c) (h : LsAt K d c H q xs rs) (h' : LsAt K d c H q' ys qs) (hl : rs.length + qs.length ≤ 1000) (k : ∀ H' p, Same H H' → LsAt K d c H' p (xs ++ ys) (rs ++ qs) → Q (.ref p) H') : rCat (.ref q) (.ref q') H Q := by
  refine ⟨q, q', xs, ys, rfl, rfl, h.2.2.1, h'.2.2.1, by rw [sizeLine_eq, h.2.2.2.length, h'.2.2.2.length]; omega, fun p np => ?_⟩
  exact k _ p (same_new np) (LsAt.new D np (paired_app h.2.2.2 h'.2.2.2))
theorem paired_rep {α β : Type} {F : α → β → Prop} {x : α} {r : β} (h : F x r) : ∀ n, Paired F (List.replicate n x) (List.replicate n r)
  | 0 => .nil
  | n + 1 => .cons h (paired_rep h n)
theorem rsum_rep {s : Rat} {m : Nat} (hm : m ≠ 0) (n : Nat) : rsum 0 (List.replicate n (cutR s m 1)) = cutR s m n := by
  have h := cut_sum (s := s) hm (List.replicate n 1)
  rw [List.map_replicate, List.sum_replicate_nat, Nat.mul_one, ← cutR_eq hm] at h
  exact h
theorem cut_rest {s : Rat} {m f : Nat} (hm : m ≠ 0) (hf : f ≤ m) : s - cutR s m f = cutR s m (m - f) := by
  have h := cut_all (s := s) (ws := [f, m - f]) (by simp only [List.sum_cons, List.sum_nil]; omega)
  have e : [f, m - f].sum = m := by simp only [List.sum_cons, List.sum_nil]; omega
  rw [e] at h
  have h2 : rsum 0 ([f, m - f].map (cutR s m)) = cutR s m f + cutR s m (m - f) := by
    show rsum 0 [cutR s m f, cutR s m (m - f)] = _
    rw [rsum_cons, rsum_cons]
    show cutR s m f + (cutR s m (m - f) + 0) = _
    grind
  rw [h2] at h
  grind
theorem cut_lt {s : Rat} {m f : Nat} (hs : Sh s) (hf : f < m) : cutR s m f < s := by
  have h := cut_rest (s := s) (show m ≠ 0 by omega) (Nat.le_of_lt hf)
  have h2 := (cut_sh hs (show 1 ≤ m - f by omega) (Nat.sub_le m f)).1
  grind
theorem cut_zero {s : Rat} {m : Nat} (hm : m ≠ 0) : cutR s m 0 = 0 := (rsum_rep hm 0).symm
theorem cut_full {s : Rat} {m : Nat} (hm : m ≠ 0) : cutR s m m = s := by
  have h := cut_rest (s := s) hm (Nat.zero_le m)
  rw [cut_zero hm, Nat.sub_zero] at h
  rw [← h]
  grind
theorem prD_sh {r : Rat} : SeqAt.shaped (prD r) = true := by
  first
    | rfl
    | simp [SeqAt.shaped, prD, PyData.canLay0, PyData.canLayAll0, PyData.depth]
theorem prD_eq {s : Rat} : PyData.eqv (prD s) (prD 1) = decide (s = 1) := by
  by_cases h : s = 1
  · subst h
    decide +kernel
  · rw [decide_eq_false h]
    have e : PyData.eqv (prD s) (prD 1) = ((s.num == (1 : Rat).num) && (((s.den : Int) == ((1 : Rat).den : Int)) && true)) := by simp only [prD, PyData.eqv, PyData.eqvAll]
    rw [e]
    by_cases h1 : s.num = 1
    · have h2 : s.den ≠ 1 := fun z => h (Rat.ext h1 z)
      have h3 : ((s.den : Int) == ((1 : Rat).den : Int)) = false := by
        rw [beq_eq_false_iff_ne]
        show (s.den : Int) ≠ 1
        omega
      rw [h3]
      simp
    · have h3 : (s.num == (1 : Rat).num) = false := by
        rw [beq_eq_false_iff_ne]
        exact h1
      rw [h3]
      rfl
theorem two_lv {d e : PyData} (h1 : Lv 2 d) (h2 : Lv 2 e) : Lv 3 (.list [d, e]) := ⟨by show 2 ≤ 10000; decide, fun x hx => by
  simp only [List.mem_cons, List.mem_nil_iff, or_false] at hx
  rcases hx with rfl | rfl
  · exact h1
  · exact h2⟩
theorem pow6 : (10 : Int) ^ Int.toNat 6 = 1000000 := by decide +kernel
theorem pow30 : (10 : Int) ^ Int.toNat 30 = 1000000000000000000000000000000 := by decide +kernel
/-! ### the last check's numbers -/
def uR : Rat := cutR 1 3000 1
def hR : Rat := Rat.divInt 1 2
def tR : Rat := Rat.divInt 2 3
def xR : Rat := Rat.divInt 1 6
theorem pr_u : pr uR = .tup [.int 1, .int 3000] := by
  have h1 : uR.num = 1 := by decide +kernel
  have h2 : uR.den = 3000 := by decide +kernel
  unfold pr
  rw [h1, h2]
  rfl
theorem pr_h : pr hR = .tup [.int 1, .int 2] := by
  have h1 : hR.num = 1 := by decide +kernel
  have h2 : hR.den = 2 := by decide +kernel
  unfold pr
  rw [h1, h2]
  rfl
theorem pr_t : pr tR = .tup [.int 2, .int 3] := by
  have h1 : tR.num = 2 := by decide +kernel
  have h2 : tR.den = 3 := by decide +kernel
  unfold pr
  rw [h1, h2]
  rfl
theorem pr_x : pr xR = .tup [.int 1, .int 6] := by
  have h1 : xR.num = 1 := by decide +kernel
  have h2 : xR.den = 6 := by decide +kernel
  unfold pr
  rw [h1, h2]
  rfl
theorem sh_u : Sh uR := ⟨by decide +kernel, by decide +kernel⟩
theorem sh_h : Sh hR := ⟨by decide +kernel, by decide +kernel⟩
theorem sh_tt : Sh tR := ⟨by decide +kernel, by decide +kernel⟩
theorem dv_u : Dv 6000 uR := ⟨2, by decide +kernel⟩
theorem dv_h : Dv 6000 hR := ⟨3000, by decide +kernel⟩
theorem dv_t : Dv 6000 tR := ⟨4000, by decide +kernel⟩
theorem rep_u (n : Nat) : rsum 0 (List.replicate n uR) = cutR 1 3000 n := rsum_rep (s := 1) (m := 3000) (by decide) n
theorem c1500 : cutR 1 3000 1500 = hR := by decide +kernel
theorem c1499 : hR - cutR 1 3000 1499 = uR := by decide +kernel
theorem l1499 : cutR 1 3000 1499 < hR := by decide +kernel
theorem ct : tR - cutR 1 3000 1500 = xR := by decide +kernel
theorem lt' : cutR 1 3000 1500 < tR := by decide +kernel
theorem c1501 : hR - cutR 1 3000 1501 < 0 := by decide +kernel
theorem sh_at {K : PySem.W.Frag} {H : Hp} {p : Addr} {r : Rat} {o : HO} (e : pr r = o) (h : H p = some o) : shV K H (.ref p) r := ⟨p, rfl, isT (by rw [h, ← e])⟩
theorem heard_lot {K : PySem.W.Frag} {CR : Addr} {H : Hp} {Q : VK} {x : V} {lo hi : Option Int} {o : HO} (h : ∀ p, H p = none → rSlL K x lo hi (upd H p o) fun y H2 => rCat x y H2 fun z H1 => TTheard CR (fun E H' Q' => spLeft K CR [.ref p, z] H' Q' E) H1 Q) :
    TTheard CR (fun E H' Q' => ∀ p, H' p = none → rSlL K x lo hi (upd H' p o) fun y H2 => rCat x y H2 fun z H1 => spLeft K CR [.ref p, z] H1 Q' E) H Q := h
theorem us_in (n : Nat) : ∀ r ∈ List.replicate n uR, Sh r ∧ Dv 6000 r := fun r hr => by
  rw [(List.mem_replicate.mp hr).2]
  exact ⟨sh_u, dv_u⟩
section
variable {P : Program} {w : World} {K : PySem.W.Frag} {mg : Str → Option Value} {base : Heap}
abbrev s_law : Stmt := topS 31
theorem sc_law : FnScope ["script", "deal", "turn", "bottom", "share", "pieces", "place", "one", "more", "some", "many", "cut", "few", "rest", "lot", "told"] ["script"] (defScope s_law) := ⟨rfl, rfl, rfl, by decide +kernel, rfl, by decide +kernel, by decide +kernel⟩
def spLaw (K : PySem.W.Frag) (T : List (Addr × Str)) : Sp := fun vs H Q _ => ∃ (a : Addr) (ns : List Int), vs = [.ref a] ∧ SqL K H a (ns.map V.int) ∧ Tabs T H ∧ ∀ H', Q (.bl true) H'
theorem c_law {CQ CR c P' : Addr} {T : List (Addr × Str)} (G : Glb mg) (GC : Cls2 K mg CQ CR) (D__law_heard : DefAt K mg "_law_heard" s__law_heard ["work"]) (D : DefC K mg "law" s_law ["script"] c) (TB : TabB base mg c P')
    (hmT : (P', ("law.<locals>." : Str) ++ "<lambda>") ∈ T) (huT : ∀ p ∈ T, p.1 = P' → p.2 = ("law.<locals>." : Str) ++ "<lambda>")
    (D_parts_of : DefAt K mg "parts_of" s_parts_of ["share", "many"]) (kw_parts_of : Kws K "parts_of" s_parts_of ["share", "many"])
    (c_parts_of : Callee P w K mg base CX0 4 "parts_of" ["share", "many"] (spParts K))
    (c_what_is_left : Callee P w K mg base (L2.CX P w) 4 "what_is_left" ["share", "shares"] (spLeft K CR))
    (c_is_share : Callee P w K mg base CX0 2 "is_share" ["value"] (spIsShareR K)) (c_is_whole : Callee P w K mg base CX0 3 "is_whole" ["value"] (spIsWhole K)) (c_joined_shares : Callee P w K mg base CX0 5 "joined_shares" ["shares"] (spCheckedShares K resPr))
    (c__law_same : Callee P w K mg base CX0 3 "_law_same" ["value", "due"] (spSame K 3)) (c__law_mixed : Callee P w K mg base CX0 2 "_law_mixed" ["deal", "some"] (spMixed K)) (c__law_any : Callee P w K mg base CX0 1 "_law_any" ["deal", "bound"] spAny)
    (c__law_of : Callee P w K mg base CX0 2 "_law_of" ["deal", "some"] (spOf K)) (c__law_m_lowest : Callee P w K mg base CX0 1 "_law_m_lowest" ["top", "bottom"] spMLowest) (c__law_cut : Callee P w K mg base CX0 2 "_law_cut" ["share", "weights"] (spCut K))
    (c__law_draw : Callee P w K mg base CX0 1 "_law_draw" ["script", "salt"] (spDraw K)) (c__law_left_right : Callee P w K mg base CX0 8 "_law_left_right" ["deal", "share", "some"] (spLR K T)) :
    Callee P w K mg base CX0 10 "law" ["script"] (spLaw K T) := by
  refine D.ok sc_law (fun vs H Q E h => ?_) (fun f A outer s H vs Q E hr h => ?_)
  · obtain ⟨a, ns, rfl, _⟩ := h
    rfl
  · obtain ⟨a, ns, rfl, hA, hT, q⟩ := h
    refine ⟨_, (pss_cons (ps_set (i := 1) sc_law.nd rfl (Or.inr rfl) (pe_fn c__law_draw hr rfl (pa_cons (pv 0) (pa_cons pe_int pa_nil))))
    (pss_cons (ps_for PassesOwn.never rfl (pi_range1 rfl G.m_range (pa_cons pe_int pa_nil)) (pg_name (i := 2) sc_law.nd rfl (Or.inl rfl)) (pss_cons (ps_set (i := 3) sc_law.nd rfl (Or.inl rfl) (pe_fn c__law_of hr rfl (pa_cons (pv 1) (pa_cons (pe_lst (pa_cons (pe_op op_add pe_int (pe_fn c__law_any hr rfl (pa_cons (pv 1) (pa_cons pe_int pa_nil)))) (pa_cons (pe_op op_add pe_int (pe_fn c__law_any hr rfl (pa_cons (pv 1) (pa_cons (pe_op op_pow pe_int pe_int) pa_nil)))) (pa_cons (pe_op op_add (pe_op op_pow pe_int pe_int) (pe_fn c__law_any hr rfl (pa_cons (pv 1) (pa_cons (pe_op op_pow pe_int pe_int) pa_nil)))) pa_nil)))) pa_nil))))
    (pss_cons (ps_set (i := 4) sc_law.nd rfl (Or.inl rfl) (pe_fn c__law_of hr rfl (pa_cons (pv 1) (pa_cons (pe_lst (pa_cons (pe_tup (pa_cons pe_int (pa_cons pe_int pa_nil))) (pa_cons (pe_fn c__law_m_lowest hr rfl (pa_cons (pe_op op_add pe_int (pe_fn c__law_any hr rfl (pa_cons (pv 1) (pa_cons (pv 3) pa_nil)))) (pa_cons (pv 3) pa_nil))) (pa_cons (pe_fn c__law_m_lowest hr rfl (pa_cons (pe_op op_add pe_int (pe_fn c__law_any hr rfl (pa_cons (pv 1) (pa_cons (pe_callB (call_min2 rfl) (by rfl) G.m_min (by decide +kernel) (pa_cons (pv 3) (pa_cons pe_int pa_nil))) pa_nil)))) (pa_cons (pv 3) pa_nil))) pa_nil)))) pa_nil))))
    (pss_cons (ps_set (i := 5) sc_law.nd rfl (Or.inl rfl) (pe_fn c__law_cut hr rfl (pa_cons (pv 4) (pa_cons (pe_lc (own := [("place", 6)]) (g := gName 6) (by rfl) sc_law.nd (pi_range1 rfl G.m_range (pa_cons (pe_op op_add pe_int (pe_fn c__law_any hr rfl (pa_cons (pv 1) (pa_cons pe_int pa_nil)))) pa_nil)) (blkOk_by (own := [("place", 6)]) (N := ["script", "deal", "turn", "bottom", "share", "pieces", "place", "one", "more", "some", "many", "cut", "few", "rest", "lot", "told"]) (sc := defScope s_law) (by decide +kernel)) (fun _ _ _ _ _ => (pg_name (i := 6) sc_law.nd rfl (Or.inl rfl))) (fun _ _ _ _ _ => pts_nil) (fun _ _ _ _ _ => (pe_op op_add pe_int (pe_fn c__law_any hr rfl (pa_cons (pv 1) (pa_cons pe_int pa_nil)))))) pa_nil))))
    (pss_cons (ps_if (PW.pt (pw_or (pt_not (pt_val (pe_fn c__law_same hr rfl (pa_cons (pe_lc (own := [("one", 7)]) (g := gName 7) (by rfl) sc_law.nd (pi_list (pe_op op_cat (pv 5) (pe_lst (pa_cons (pv 4) pa_nil)))) (blkOk_by (own := [("one", 7)]) (N := ["script", "deal", "turn", "bottom", "share", "pieces", "place", "one", "more", "some", "many", "cut", "few", "rest", "lot", "told"]) (sc := defScope s_law) (by decide +kernel)) (fun _ _ _ _ _ => (pg_name (i := 7) sc_law.nd rfl (Or.inl rfl))) (fun _ _ _ _ _ => pts_nil) (fun _ _ _ _ _ => (pe_fn c_is_share hr rfl (pa_cons (pv 7) pa_nil)))) (pa_cons (pe_op op_rep (pe_lst (pa_cons pe_bl pa_nil)) (pe_op op_add (pe_callB call_len_seq (by rfl) G.m_len PySem.boot_len (pa_cons (pv 5) pa_nil)) pe_int)) pa_nil))))) (pw_or1 (pt_not (pt_val (pe_fn c__law_same hr rfl (pa_cons (pe_fn c_joined_shares hr rfl (pa_cons (pe_fn c__law_mixed hr rfl (pa_cons (pv 1) (pa_cons (pv 5) pa_nil))) pa_nil)) (pa_cons (pv 4) pa_nil)))))))) (pss_one (ps_ret pe_bl)) pss_nil)
    (pss_cons (ps_set (i := 8) sc_law.nd rfl (Or.inl rfl) (pe_fn c__law_cut hr rfl (pa_cons (pe_ix ix_list (pv 5) pe_int (fun _ _ => rfl)) (pa_cons (pe_lc (own := [("place", 6)]) (g := gName 6) (by rfl) sc_law.nd (pi_range1 rfl G.m_range (pa_cons pe_int pa_nil)) (blkOk_by (own := [("place", 6)]) (N := ["script", "deal", "turn", "bottom", "share", "pieces", "place", "one", "more", "some", "many", "cut", "few", "rest", "lot", "told"]) (sc := defScope s_law) (by decide +kernel)) (fun _ _ _ _ _ => (pg_name (i := 6) sc_law.nd rfl (Or.inl rfl))) (fun _ _ _ _ _ => pts_nil) (fun _ _ _ _ _ => (pe_op op_add pe_int (pe_fn c__law_any hr rfl (pa_cons (pv 1) (pa_cons pe_int pa_nil)))))) pa_nil))))
    (pss_cons (ps_for PassesOwn.never rfl (pi_list (pe_lst (pa_cons (pv 5) (pa_cons (pe_slice sl_list (pv 5) (po_some pe_int) po_none) (pa_cons (pe_op op_cat (pv 8) (pe_slice sl_list (pv 5) (po_some pe_int) po_none)) (pa_cons (pe_op op_cat (pv 5) (pe_slice sl_list (pv 8) po_none (po_some pe_int))) (pa_cons (pe_slice sl_list (pv 5) po_none (po_some pe_int)) (pa_cons (pe_lst pa_nil) (pa_cons (pe_op op_cat (pe_slice sl_list (pv 8) (po_some pe_int) po_none) (pe_slice sl_list (pv 5) (po_some pe_int) po_none)) (pa_cons (pe_lst (pa_cons (pv 4) (pa_cons (pv 4) pa_nil))) (pa_cons (pe_lst (pa_cons (pe_tup (pa_cons pe_int (pa_cons pe_int pa_nil))) pa_nil)) pa_nil))))))))))) (pg_name (i := 9) sc_law.nd rfl (Or.inl rfl)) (pss_one (ps_if (pt_not (pt_val (pe_fn c__law_left_right hr rfl (pa_cons (pv 1) (pa_cons (pv 4) (pa_cons (pv 9) pa_nil)))))) (pss_one (ps_ret pe_bl)) pss_nil)))
    (pss_cons (ps_set (i := 10) sc_law.nd rfl (Or.inl rfl) (pe_op op_add pe_int (pe_fn c__law_any hr rfl (pa_cons (pv 1) (pa_cons (pe_ifExp (pt_cmpR op_eq (pv 2) pe_int (nomark _)) pe_int pe_int) pa_nil)))))
    (pss_cons (ps_par (i := 11) (j := 12) (by rfl) sc_law.nd rfl rfl (by decide) rfl rfl (pa_cons (pe_fnK c_parts_of D_parts_of kw_parts_of hr rfl pass0 (pk_cons (pv 4) (pk_cons (pv 10) pk_nil))) (pa_cons (pe_fn c__law_any hr rfl (pa_cons (pv 1) (pa_cons (pv 10) pa_nil))) pa_nil)) (by rfl))
    (pss_cons (ps_set (i := 13) sc_law.nd rfl (Or.inl rfl) (pe_fnX c_what_is_left hr rfl (passes_call L2.takes0 (fun _ _ _ _ z => z)) (pa_cons (pv 4) (pa_cons (pe_slice sl_tupA (pv 11) po_none (po_some (pv 12))) pa_nil))))
    (pss_cons (ps_if (PW.pt (pw_or (pt_not (pt_val (pe_fn c__law_same hr rfl (pa_cons (pe_lst (pa_cons (pv 13) (pa_cons (pe_fn c_is_whole hr rfl (pa_cons (pv 13) pa_nil)) pa_nil))) (pa_cons (pe_lst (pa_cons (pe_fn c__law_m_lowest hr rfl (pa_cons (pe_op op_mulW (pe_ix ix_tup (pv 4) pe_int (fun _ _ => rfl)) (pe_op op_sub (pv 10) (pv 12))) (pa_cons (pe_op op_mulW (pe_ix ix_tup (pv 4) pe_int (fun _ _ => rfl)) (pv 10)) pa_nil))) (pa_cons (pe_and (pe_cmpR op_eq (pv 12) pe_int (nomark _)) (pe_one (pe_cmpR (op_eqD hr.units) (pv 4) (pe_tup (pa_cons pe_int (pa_cons pe_int pa_nil))) (nomark _)))) pa_nil))) pa_nil))))) (pw_or1 (pt_cmpR op_ne (pe_callB call_len_seq (by rfl) G.m_len PySem.boot_len (pa_cons (pv 11) pa_nil)) (pv 10) (nomark _))))) (pss_one (ps_ret pe_bl)) pss_nil)
    (pss_one (ps_if (pt_not (pt_val (pe_fn c__law_same hr rfl (pa_cons (pe_lst (pa_cons (pe_fn c_joined_shares hr rfl (pa_cons (pv 11) pa_nil)) (pa_cons (pe_fnX c_what_is_left hr rfl (passes_call L2.takes0 (fun _ _ _ _ z => z)) (pa_cons (pv 4) (pa_cons (pv 11) pa_nil))) pa_nil))) (pa_cons (pe_lst (pa_cons (pv 4) (pa_cons pe_non pa_nil))) pa_nil))))) (pss_one (ps_ret pe_bl)) pss_nil)))))))))))))
    (pss_cons (ps_set (i := 14) sc_law.nd rfl (Or.inr rfl) (pe_op op_rep (pe_lst (pa_cons (pe_tup (pa_cons pe_int (pa_cons pe_int pa_nil))) pa_nil)) pe_int))
    (pss_cons (ps_set (i := 15) sc_law.nd rfl (Or.inl rfl) (pe_lst (pa_cons (pe_fnX c_what_is_left hr rfl (passes_call L2.takes0 (fun _ _ _ _ z => z)) (pa_cons (pe_tup (pa_cons pe_int (pa_cons pe_int pa_nil))) (pa_cons (pv 14) pa_nil))) (pa_cons (pe_fnX c_what_is_left hr rfl (passes_call L2.takes0 (fun _ _ _ _ z => z)) (pa_cons (pe_tup (pa_cons pe_int (pa_cons pe_int pa_nil))) (pa_cons (pe_slice sl_list (pv 14) (po_some pe_int) po_none) pa_nil))) (pa_cons (pe_fnX c_what_is_left hr rfl (passes_call L2.takes0 (fun _ _ _ _ z => z)) (pa_cons (pe_tup (pa_cons pe_int (pa_cons pe_int pa_nil))) (pa_cons (pe_callTy call_tuple_of (by rfl) G.m_tuple (by decide +kernel) (pa_cons (pv 14) pa_nil)) pa_nil))) (pa_cons (pe_heard (T := T) (k := 5) (t := _) GC D__law_heard rfl TB rfl hmT huT hr (lamS_by (sc := defScope s_law) (by decide +kernel)) rfl (fun _ _ _ _ _ => rfl) (fun A outer s H E f c hr => (pe_fnX c_what_is_left hr rfl (passes_call (takes_of rfl rfl rfl rfl) (fun _ _ _ _ z => z)) (pa_cons (pe_tup (pa_cons pe_int (pa_cons pe_int pa_nil))) (pa_cons (pe_op op_cat (pv 14) (pe_slice (slL_K (K := K) rfl) (pv 14) po_none (po_some pe_int))) pa_nil))))) pa_nil))))))
    (pss_one (ps_ret (pe_fn c__law_same hr rfl (pa_cons (pv 15) (pa_cons (pe_lst (pa_cons pe_non (pa_cons (pe_tup (pa_cons pe_int (pa_cons pe_int pa_nil))) (pa_cons (pe_tup (pa_cons pe_int (pa_cons pe_int pa_nil))) (pa_cons (pe_tup (pa_cons pe_str (pa_cons pe_int pa_nil))) pa_nil))))) pa_nil))))))))), ?_⟩
    refine seq_rest (fun σ' H' => ∃ d cc, σ' = [some (.ref a), some (.ref d), none, none, none, none, none, none, none, none, none, none, none, none, none, none] ∧ Deal H' d cc ∧ Tabs T H') ?_ ?_
    · rintro σ' H1 ⟨d, cc, rfl, hD, hT1⟩
      refine seq_rest (fun σ' H' => (∃ o2 o3 o4 o5 o6 o7 o8 o9 o10 o11 o12 o13, σ' = [some (.ref a), some (.ref d), o2, o3, o4, o5, o6, o7, o8, o9, o10, o11, o12, o13, none, none]) ∧ Deal H' d cc ∧ Tabs T H') ?_ ?_
      · rintro σ2 H2 ⟨⟨o2, o3, o4, o5, o6, o7, o8, o9, o10, o11, o12, o13, rfl⟩, hD2, hT2⟩
        walk_at "vd"
        intro p0 np0 p1 np1
        have hU0 : shV K (upd H2 p0 (.tup [.int 1, .int 3000])) (.ref p0) uR := sh_at pr_u upd_same
        have s1 := same_new (o := .lst [.ref p0]) np1
        have g1 := ((Go.refl hD2 hT2).upd (o := .tup [.int 1, .int 3000]) np0).same s1
        refine ⟨p1, 1500, _, rfl, rfl, upd_same, by decide, by decide, by rw [sizeLine_eq]; show 1 * 1500 ≤ 16777216; decide, fun p2 np2 => ?_⟩
        rw [show (1500 : Int).toNat = 1500 from rfl, flat_one]
        have s2 := s1.trans (same_new (o := .lst (List.replicate 1500 (V.ref p0))) np2)
        have g2 := g1.upd (o := .lst (List.replicate 1500 (V.ref p0))) np2
        have hU2 := hU0.same s2
        have e2 : (upd (upd (upd H2 p0 (.tup [.int 1, .int 3000])) p1 (.lst [.ref p0])) p2 (.lst (List.replicate 1500 (V.ref p0)))) p2 = some (.lst (List.replicate 1500 (V.ref p0))) := upd_same
        generalize upd (upd (upd H2 p0 (.tup [.int 1, .int 3000])) p1 (.lst [.ref p0])) p2 (.lst (List.replicate 1500 (V.ref p0))) = H3 at g2 hU2 e2 ⊢
        walk_at "vd"
        intro p3 np3
        have s3 := same_new (o := .tup [.int 1, .int 2]) np3
        have hl : ∀ n ≤ 1501, (List.replicate n uR).length ≤ 2000 := fun n hn => by rw [List.length_replicate]; omega
        have d6 : (6000 : Nat) < 2 ^ 1000 := by decide +kernel
        have hP : ∀ {H' : Hp} (n : Nat), shV K H' (.ref p0) uR → Paired (shV K H') (List.replicate n (V.ref p0)) (List.replicate n uR) := fun {H'} n h => paired_rep (F := shV K H') h n
        refine ⟨_, p2, hR, _, _, 6000, rfl, sh_at pr_h upd_same, sh_h, dv_h, .inl (isL (s3 _ _ e2)), hP 1500 (hU2.same s3), us_in _, by decide, d6, hl _ (by decide), fun z => ?_, fun _ H4 s4 => ?_, fun z => ?_⟩
        · rw [rep_u, c1500] at z
          exact absurd z Rat.lt_irrefl
        rotate_left
        · rw [rep_u, c1500] at z
          exact absurd z Rat.lt_irrefl
        have s34 := s3.trans s4
        walk_at "vd"
        intro p4 np4
        have s5 := s34.trans (same_new (o := .tup [.int 1, .int 2]) np4)
        have hh5 : shV K (upd H4 p4 (.tup [.int 1, .int 2])) (.ref p4) hR := sh_at pr_h upd_same
        refine ⟨p2, _, rfl, isL (s5 _ _ e2), fun p5 np5 => ?_⟩
        have s55 := same_new (o := .lst (cutV (List.replicate 1500 (V.ref p0)) (some 1) none)) np5
        have s6 := s5.trans s55
        have e5 : (upd (upd H4 p4 (.tup [.int 1, .int 2])) p5 (.lst (cutV (List.replicate 1500 (V.ref p0)) (some 1) none))) p5 = some (.lst (List.replicate 1499 (V.ref p0))) := by
          rw [upd_same, show (some (1 : Int)) = some ((1 : Nat) : Int) from rfl, cutV_from, List.drop_replicate]
        refine ⟨_, p5, hR, _, _, 6000, rfl, hh5.same s55, sh_h, dv_h, .inl (isL e5), hP 1499 (hU2.same s6), us_in _, by decide, d6, hl _ (by decide), fun z => ?_, fun z => ?_, fun _ H7 r1 s7 nr1 er1 => ?_⟩
        · rw [rep_u] at z
          exact absurd z (Rat.not_lt.mpr (Rat.le_of_lt l1499))
        · rw [rep_u] at z
          have := l1499
          rw [← z] at this
          exact absurd this Rat.lt_irrefl
        rw [rep_u, c1499] at er1
        have s37 := s6.trans s7
        walk_at "vd"
        intro p8 np8
        have s88 := same_new (o := .tup [.int 2, .int 3]) np8
        have s8 := s37.trans s88
        have ht8 : shV K (upd H7 p8 (.tup [.int 2, .int 3])) (.ref p8) tR := sh_at pr_t upd_same
        refine ⟨p2, _, rfl, .inl ⟨isL (s8 _ _ e2), fun p9 np9 => ?_⟩⟩
        have s99 := same_new (o := .tup (List.replicate 1500 (V.ref p0))) np9
        have s9 := s8.trans s99
        refine ⟨_, p9, tR, _, _, 6000, rfl, ht8.same s99, sh_tt, dv_t, .inr (isT upd_same), hP 1500 (hU2.same s9), us_in _, by decide, d6, hl _ (by decide), fun z => ?_, fun z => ?_, fun _ H10 r2 s10 nr2 er2 => ?_⟩
        · rw [rep_u] at z
          exact absurd z (Rat.not_lt.mpr (Rat.le_of_lt lt'))
        · rw [rep_u] at z
          have := lt'
          rw [← z] at this
          exact absurd this Rat.lt_irrefl
        rw [rep_u, ct] at er2
        have s310 := s9.trans s10
        have s710 := (s88.trans s99).trans s10
        walk_at "vd"
        refine ⟨g2.T.ext s310, fun H11 e11 hT11 => heard_lot fun p12 np12 => ?_⟩
        have e211 : H11 p2 = some (.lst (List.replicate 1500 (V.ref p0))) := e11 _ _ (s310 _ _ e2) (fun _ z => by cases z)
        have hU11 : shV K H11 (.ref p0) uR := by
          have k : Kp 0 0 H10 H11 := .ext e11
          have hq := hU2.same s310
          obtain ⟨t, et, hq⟩ := hq
          refine ⟨t, et, ?_⟩
          rcases hq with (h | ⟨ob, h⟩) | h
          · exact .inl (.inl (e11 _ _ h fun _ z => by cases z))
          · exact .inl (.inr ⟨ob, e11 _ _ h fun _ z => by cases z⟩)
          · exact .inr h
        have er1' : H11 r1 = some (pr uR) := e11 _ _ (s710 _ _ er1) (fun _ z => by cases z)
        have er2' : H11 r2 = some (pr xR) := e11 _ _ er2 (fun _ z => by cases z)
        have s12 := same_new (o := .tup [.int 1, .int 2]) np12
        have hh12 : shV K (upd H11 p12 (.tup [.int 1, .int 2])) (.ref p12) hR := sh_at pr_h upd_same
        refine ⟨p2, _, rfl, isL (s12 _ _ e211), fun p13 np13 => ?_⟩
        have s133 := same_new (o := .lst (cutV (List.replicate 1500 (V.ref p0)) none (some 1))) np13
        have s13 := s12.trans s133
        have e13 : (upd (upd H11 p12 (.tup [.int 1, .int 2])) p13 (.lst (cutV (List.replicate 1500 (V.ref p0)) none (some 1)))) p13 = some (.lst (List.replicate 1 (V.ref p0))) := by
          rw [upd_same, show (some (1 : Int)) = some ((1 : Nat) : Int) from rfl, cutV_to, List.take_replicate]
          rfl
        refine ⟨p2, p13, _, _, rfl, rfl, s13 _ _ e211, e13, by rw [sizeLine_eq, List.length_replicate, List.length_replicate]; decide, fun p14 np14 => ?_⟩
        rw [List.replicate_append_replicate]
        have s144 := same_new (o := .lst (List.replicate (1500 + 1) (V.ref p0))) np14
        have s14 := s13.trans s144
        refine left_heard (hh12.same (s133.trans s144)) sh_h dv_h (.inl (isL upd_same)) (hP 1501 (hU11.same s14)) (us_in _) (by decide) (by decide +kernel) (hl _ (by decide)) fun H15 r3 s15 nr3 hr3 => ?_
        rw [rep_u] at hr3
        have er3 : H15 r3 = some (.tup [.str "refused", .int 0]) := by
          rcases hr3 with ⟨_, h⟩ | ⟨h, _⟩ | ⟨h, _⟩
          · exact h
          · have := c1501
            rw [h] at this
            exact absurd this Rat.lt_irrefl
          · exact absurd (Rat.le_of_lt c1501) (Rat.not_le.mpr h)
        have s1115 := s14.trans s15
        intro p16 np16 p17 np17 p18 np18 p19 np19 p20 np20
        have t20 := same_new (o := .lst [.non, .ref p17, .ref p18, .ref p19]) np20
        have t19 := (same_new (o := .tup [.str "refused", .int 0]) np19).trans t20
        have t18 := (same_new (o := .tup [.int 1, .int 6]) np18).trans t19
        have t17 := (same_new (o := .tup [.int 1, .int 3000]) np17).trans t18
        have t16 := (same_new (o := .lst [.non, .ref r1, .ref r2, .ref r3]) np16).trans t17
        have t11 := s1115.trans t16
        refine ⟨_, _, .list [.none, prD uR, prD xR, RD], rfl, .lst (isL (t17 _ _ upd_same)) (.cons .non (.cons (shV_dp ⟨r1, rfl, isT (t11 _ _ er1')⟩) (.cons (shV_dp ⟨r2, rfl, isT (t11 _ _ er2')⟩) (.cons (rd_at (t16 _ _ er3)) .nil)))),
          .lst (isL upd_same) (.cons .non (.cons (shV_dp (sh_at pr_u (t18 _ _ upd_same))) (.cons (shV_dp (sh_at pr_x (t19 _ _ upd_same))) (.cons (rd_at (t20 _ _ upd_same)) .nil)))), ⟨by show 4 ≤ 10000; decide, fun x hx => ?_⟩, fun H' _ => q H'⟩
        simp only [List.mem_cons, List.mem_nil_iff, or_false] at hx
        rcases hx with rfl | rfl | rfl | rfl
        · exact True.intro
        · exact prD_lv
        · exact prD_lv
        · exact ⟨by show 2 ≤ 10000; decide, fun d hd => by
            simp only [List.mem_cons, List.mem_nil_iff, or_false] at hd
            rcases hd with rfl | rfl <;> exact True.intro⟩
      · intro R hR
        refine ⟨6, rfl, by decide, by decide, for_range (lo := 0) (n := 6) (fun i σ' H' => (∃ o2 o3 o4 o5 o6 o7 o8 o9 o10 o11 o12 o13, σ' = [some (.ref a), some (.ref d), o2, o3, o4, o5, o6, o7, o8, o9, o10, o11, o12, o13, none, none]) ∧ Deal H' d cc ∧ Tabs T H') ⟨⟨_, _, _, _, _, _, _, _, _, _, _, _, rfl⟩, hD, hT1⟩ (fun i σ' H' hi hP => ?_) fun σ' H' hP => hR _ _ hP⟩
        obtain ⟨⟨o2, o3, o4, o5, o6, o7, o8, o9, o10, o11, o12, o13, rfl⟩, hD, hT⟩ := hP
        refine seq_rest (fun σ' H' => ∃ B : Nat, σ' = [some (.ref a), some (.ref d), some (.int (0 + (i : Int))), some (.int B), o4, o5, o6, o7, o8, o9, o10, o11, o12, o13, none, none] ∧ 2 ≤ B ∧ B ≤ 10 ^ 30 + 10 ^ 6 ∧ Deal H' d cc ∧ Tabs T H') (fun σ1 H1 hM1 => ?_) (fun R hR => ?_)
        rotate_left
        · walk_at "vd"
          refine ⟨d, cc, 12, rfl, hD, by decide, by decide +kernel, fun H1 i1 e1 hD1 a1 b1 => ?_⟩
          walk_at "vd"
          rw [pow6, pow30]
          refine ⟨⟨by decide, by decide, by decide⟩, d, cc, _, rfl, hD1, by decide, by decide +kernel, fun H2 i2 e2 hD2 a2 b2 => ?_⟩
          walk_at "vd"
          refine ⟨⟨by decide, by decide, by decide⟩, ⟨by decide, by decide, by decide⟩, d, cc, _, rfl, hD2, by decide, by decide +kernel, fun H3 i3 e3 hD3 a3 b3 => ?_⟩
          walk_at "vd"
          intro p3 np3
          have e03 := (e1.trans e2).trans e3
          have f3 := hD3.fresh np3
          refine ⟨d, cc, p3, _, rfl, hD3.upd np3, isL upd_same, f3.1, f3.2, (show 1 ≤ 3 by decide), (show 3 < 2 ^ 60 by decide), fun H4 v4 e4 hD4 hv => ?_⟩
          have hT4 : Tabs T H4 := Tabs.but (hD3.upd np3) (Tabs.upd (Tabs.but hD hT e03) np3) e4
          have fin : ∀ z : Int, v4 = .int z → 2 ≤ z → z ≤ 10 ^ 30 + 10 ^ 6 → R [some (.ref a), some (.ref d), some (.int (0 + (i : Int))), some v4, o4, o5, o6, o7, o8, o9, o10, o11, o12, o13, none, none] H4 := fun z ez h1 h2 => by
            subst ez
            refine hR _ _ ⟨z.toNat, by rw [Int.toNat_of_nonneg (by omega)], by omega, by omega, hD4, hT4⟩
          simp only [List.mem_cons, List.mem_nil_iff, or_false] at hv
          rcases hv with hv | hv | hv
          · exact fin _ hv (by omega) (by omega)
          · exact fin _ hv (by omega) (by omega)
          · exact fin _ hv (by omega) (by omega)
        obtain ⟨B, rfl, hB1, hB2, hD, hT⟩ := hM1
        refine seq_rest (fun σ' H' => ∃ (v : V) (s : Rat), σ' = [some (.ref a), some (.ref d), some (.int (0 + (i : Int))), some (.int B), some v, o5, o6, o7, o8, o9, o10, o11, o12, o13, none, none] ∧ shV K H' v s ∧ Sh s ∧ Dv B s ∧ Deal H' d cc ∧ Tabs T H') (fun σ1 H1 hM1 => ?_) (fun R hR => ?_)
        rotate_left
        · walk_at "vd"
          intro p0 np0
          have hT0 := Tabs.upd (o := .tup [.int 1, .int 1]) hT np0
          refine ⟨d, cc, B, rfl, hD.upd np0, by omega, Nat.lt_of_le_of_lt (show ((B : Int)).natAbs ≤ 10 ^ 30 + 10 ^ 6 by omega) (by decide +kernel), fun H2 i2 e2 hD2 a2 b2 => ?_⟩
          walk_at "vd"
          refine ⟨(1 + i2).toNat, B, by rw [Int.toNat_of_nonneg (by omega)], by omega, Nat.le_trans hB2 (by decide +kernel), fun p1 np1 => ?_⟩
          walk_at "vd"
          refine ⟨_, _, rfl, d, cc, _, rfl, hD2.upd np1, by split <;> omega, Nat.lt_of_le_of_lt (show (if (9 : Int) < B then (9 : Int) else B).natAbs ≤ 9 by split <;> omega) (by decide +kernel), fun H3 i3 e3 hD3 a3 b3 => ?_⟩
          walk_at "vd"
          refine ⟨(1 + i3).toNat, B, by rw [Int.toNat_of_nonneg (by omega)], by omega, Nat.le_trans hB2 (by decide +kernel), fun p2 np2 => ?_⟩
          walk_at "vd"
          intro p3 np3
          have g0 := (Go.refl hD hT).upd (o := .tup [.int 1, .int 1]) np0
          have g1 := ((Go.refl g0.D g0.T).but e2 hD2).upd (o := pr (Rat.divInt ((1 + i2).toNat : Nat) (B : Nat))) np1
          have g2 := ((Go.refl g1.D g1.T).but e3 hD3).upd (o := pr (Rat.divInt ((1 + i3).toNat : Nat) (B : Nat))) np2
          have g3 := (Go.refl g2.D g2.T).upd (o := .lst [.ref p0, .ref p1, .ref p2]) np3
          have f3 := g2.D.fresh np3
          refine ⟨d, cc, p3, _, rfl, g3.D, isL upd_same, f3.1, f3.2, (show 1 ≤ 3 by decide), (show 3 < 2 ^ 60 by decide), fun H4 v4 e4 hD4 hv => ?_⟩
          have g4 := g3.but e4 hD4
          have fin : ∀ s : Rat, shV K H4 v4 s → Sh s → Dv B s → R [some (.ref a), some (.ref d), some (.int (0 + (i : Int))), some (.int B), some v4, o5, o6, o7, o8, o9, o10, o11, o12, o13, none, none] H4 := fun s h1 h2 h3 => hR _ _ ⟨v4, s, rfl, h1, h2, h3, g4.D, g4.T⟩
          simp only [List.mem_cons, List.mem_nil_iff, or_false] at hv
          have k2 : Kp d cc (upd H2 p1 (pr (Rat.divInt ((1 + i2).toNat : Nat) (B : Nat)))) H4 := g2.k.trans g4.k
          have k1 := g1.k.trans k2
          rcases hv with hv | hv | hv
          · subst hv
            exact fin 1 (k1.shV g0.D ⟨p0, rfl, isT upd_same⟩) sh_one (dv_one (by omega))
          · subst hv
            exact fin _ (k2.shV g1.D ⟨p1, rfl, isT upd_same⟩) (sh_div (by omega) (by omega)) ⟨_, rfl⟩
          · subst hv
            exact fin _ (g4.k.shV g2.D ⟨p2, rfl, isT upd_same⟩) (sh_div (by omega) (by split at b3 <;> omega)) ⟨_, rfl⟩
        obtain ⟨v, s, rfl, hV, hS, dvB, hD, hT⟩ := hM1
        refine seq_rest (fun σ' H' => ∃ (p5 : Addr) (xs : List V) (ws : List Nat) (o6 : Option V), σ' = [some (.ref a), some (.ref d), some (.int (0 + (i : Int))), some (.int B), some v, some (.ref p5), o6, o7, o8, o9, o10, o11, o12, o13, none, none] ∧ LsAt K d cc H' p5 xs (ws.map (cutR s ws.sum)) ∧ 1 ≤ ws.length ∧ ws.length ≤ 7 ∧ (∀ w ∈ ws, 1 ≤ w ∧ w ≤ 9) ∧ Go T d cc H1 H') (fun σ2 H2 hM2 => ?_) (fun R hR => ?_)
        rotate_left
        · walk_at "vd"
          refine tLc_in (rng1_in ?_)
          walk_at "vd"
          refine ⟨d, cc, 7, rfl, hD, by decide, by decide +kernel, fun H2 i2 e2 hD2 a2 b2 => ?_⟩
          walk_at "vd"
          refine ⟨1 + i2, rfl, by omega, by omega, lc_draws (d := d) (cc := cc) (m := 9) hD2 (by omega) (by intro _; rfl) (fun x H' R hD' hR' => ?_) fun p6 H3 ws e3 hD3 np6 ep6 hl hw => ?_⟩
          · walk_at "vd"
            refine ⟨d, cc, 9, rfl, hD', by decide, by decide +kernel, fun H4 i4 e4 hD4 a4 b4 => ?_⟩
            walk_at "vd"
            exact hR' _ _ e4 hD4 a4 b4
          · have g3 := ((Go.refl hD hT).but e2 hD2).but e3 hD3
            refine ⟨v, p6, s, ws, B, rfl, g3.k.shV hD hV, hS, dvB, by omega, Nat.le_trans hB2 (by decide +kernel), isL ep6, by omega, by omega, fun w hw' => by have := hw w hw'; omega, fun H4 p5 xs s4 np5 ep5 hP5 => ?_⟩
            have g4 := g3.same s4
            have f5 := hD3.fresh np5
            exact hR _ _ ⟨p5, xs, ws, _, rfl, ⟨f5.1, f5.2, ep5, hP5⟩, by omega, by omega, hw, g4⟩
        obtain ⟨p5, xs, ws, o6', rfl, hL, hl1, hl7, hws, g2⟩ := hM2
        have hB0 : B ≠ 0 := by omega
        obtain ⟨hW0, hsum, hcf⟩ := cut_facts (N := 0) hS dvB hB0 hl1 hws
        have hW63 : ws.sum ≤ 63 := Nat.le_trans (sum_le' hws) (by omega)
        have hxl : xs.length = ws.length := by rw [hL.2.2.2.length, List.length_map]
        have hBW : B * ws.sum ≤ 10 ^ 33 := Nat.le_trans (Nat.mul_le_mul hB2 hW63) (by decide +kernel)
        have hBW0 : B * ws.sum ≠ 0 := Nat.mul_ne_zero hB0 hW0
        have hV2 := g2.k.shV hD hV
        refine seq_rest (fun σ' H' => σ' = [some (.ref a), some (.ref d), some (.int (0 + (i : Int))), some (.int B), some v, some (.ref p5), o6', o7, o8, o9, o10, o11, o12, o13, none, none] ∧ Go T d cc H2 H') (fun σ3 H3 hM3 => ?_) (fun R hR => ?_)
        rotate_left
        · walk_at "vd"
          refine tLc_in (ilist_in ?_)
          walk_at "vd"
          intro p0 np0
          have s0 := same_new (o := .lst [v]) np0
          refine ⟨p5, p0, xs, [v], rfl, rfl, s0 _ _ hL.2.2.1, upd_same, by rw [sizeLine_eq]; show xs.length + 1 ≤ _; omega, fun p1 np1 => ⟨p1, rfl, ⟨_, isL upd_same⟩, ?_⟩⟩
          have s1 := s0.trans (same_new (o := .lst (xs ++ [v])) np1)
          have hP1 : Paired (shV K (upd (upd H2 p0 (.lst [v])) p1 (.lst (xs ++ [v])))) (xs ++ [v]) (ws.map (cutR s ws.sum) ++ [s]) := paired_app (hL.2.2.2.mono fun v r h => h.same s1) (.cons (hV2.same s1) .nil)
          refine lcW (fun R h => h) (walkL (xs := xs ++ [v])) (fun _ => .bl true) (fun H' s' => s'.seq (isL upd_same)) (by rw [sizeLine_eq, List.length_append]; show xs.length + 1 ≤ _; omega) (by intro _; rfl) (fun j H' R' hj s' hR' => ?_) fun p2 H4 s4 np2 ep2 => ?_
          · walk_at "vd"
            obtain ⟨v0, r0, e1, e2, hv0⟩ := paired_at hP1 j hj
            have hg : (xs ++ [v]).getD j .non = v0 := by rw [List.getD_eq_getElem?_getD, e1]; rfl
            rw [hg]
            refine ⟨v0, r0, rfl, hv0.same s', ?_, fun H5 s5 => hR' _ s5⟩
            rcases List.mem_append.mp (List.mem_of_getElem? e2) with hm | hm
            · exact (hcf r0 hm).1
            · simp only [List.mem_cons, List.mem_nil_iff, or_false] at hm
              rw [hm]
              exact hS
          · walk_at "vd"
            intro p3 np3
            have s14 := s1.trans s4
            have s15 := s14.trans (same_new (o := .lst [.bl true]) np3)
            refine ⟨p5, xs, rfl, .inl (isL (s15 _ _ hL.2.2.1)), p3, _, [.bl true], rfl, rfl, upd_same, by omega, by omega, ?_, fun p4 np4 => ?_⟩
            · rw [sizeLine_eq]
              show 1 * ((xs.length : Int) + 1).toNat ≤ _
              omega
            · have s16 := s15.trans (same_new (o := .lst (List.replicate ((xs.length : Int) + 1).toNat [V.bl true]).flatten) np4)
              have ep2' := (same_new (o := .lst (List.replicate ((xs.length : Int) + 1).toNat [V.bl true]).flatten) np4) _ _ ((same_new (o := .lst [.bl true]) np3) _ _ ep2)
              rw [range_const, List.length_append] at ep2'
              refine ⟨_, _, .list (List.replicate (xs.length + 1) (.bool true)), rfl, .lst (isL ep2') (dpAll_bl _), .lst (isL upd_same) ?_, bls_lv (by omega), fun H6 s6 => ?_⟩
              · rw [flat_one, show ((xs.length : Int) + 1).toNat = xs.length + 1 by omega]
                exact dpAll_bl _
              · walk_at "vd"
                have g6 := ((Go.refl g2.D g2.T).same s16).same s6
                have hL6 := hL.go g2.D g6
                refine ⟨d, cc, p5, xs, rfl, g6.D, .inl (isL hL6.2.2.1), by omega, fun H7 p7 ys e7 hD7 np7 ep7 pm => ?_⟩
                have g7 := g6.but e7 hD7
                have hL7 := hL.go g2.D g7
                obtain ⟨rs', pr', hP7⟩ := paired_perm pm hL7.2.2.2
                have hsum' : rsum 0 rs' = s := by rw [rsum_perm pr']; exact hsum
                have hlen : rs'.length = ws.length := by rw [pr'.length_eq, List.length_map]
                walk_at "vd"
                refine ⟨p7, ys, rs', B * ws.sum, rfl, .inl (isL ep7), hP7, fun r hr => hcf r (pr'.mem_iff.mp hr), hBW0, Nat.lt_of_le_of_lt hBW (by decide +kernel), by omega, by omega, by rw [hsum']; exact hS.2, fun H8 p8 s8 np8 ep8 => ?_⟩
                rw [hsum'] at ep8
                have g8 := g7.same s8
                refine ⟨_, _, prD s, rfl, shV_dp ⟨p8, rfl, isT ep8⟩, shV_dp (g8.k.shV g2.D hV2), prD_lv, fun H9 s9 => ?_⟩
                walk_at "vd"
                exact hR _ _ ⟨rfl, g8.same s9⟩
        obtain ⟨rfl, g3⟩ := hM3
        have hV3 := g3.k.shV g2.D hV2
        have hL3 := hL.go g2.D g3
        obtain ⟨x0, xr, r0, rr, w0, wr, exs, ers, hP0, hPr⟩ : ∃ x0 xr r0 rr w0 wr, xs = x0 :: xr ∧ ws.map (cutR s ws.sum) = r0 :: rr ∧ shV K H3 x0 r0 ∧ Paired (shV K H3) xr rr ∧ ws = w0 :: wr := by
          have hp := hL3.2.2.2
          cases hws2 : ws with
          | nil => rw [hws2] at hl1; exact absurd hl1 (by decide)
          | cons w0 wr =>
            rw [hws2] at hp
            cases hp with
            | cons f r => exact ⟨_, _, _, _, w0, wr, rfl, rfl, f, r, rfl⟩
        have hc0 := hcf r0 (by rw [ers]; exact List.mem_cons_self)
        refine seq_rest (fun σ' H' => ∃ (p8 : Addr) (ys : List V) (ms : List Nat), σ' = [some (.ref a), some (.ref d), some (.int (0 + (i : Int))), some (.int B), some v, some (.ref p5), o6', o7, some (.ref p8), o9, o10, o11, o12, o13, none, none] ∧ LsAt K d cc H' p8 ys (ms.map (cutR r0 ms.sum)) ∧ ms.length = 2 ∧ (∀ w ∈ ms, 1 ≤ w ∧ w ≤ 99) ∧ Go T d cc H3 H') (fun σ4 H4 hM4 => ?_) (fun R hR => ?_)
        rotate_left
        · walk_at "vd"
          refine ixL (isL hL3.2.2.1) (by rw [exs]; exact atI_0) ?_
          refine tLc_in (rng1_in ?_)
          walk_at "vd"
          refine ⟨2, rfl, by decide, by decide, lc_draws (d := d) (cc := cc) (m := 99) g3.D (by decide) (by intro _; rfl) (fun x H' R hD' hR' => ?_) fun p6 H4 ms e4 hD4 np6 ep6 hl hw => ?_⟩
          · walk_at "vd"
            refine ⟨d, cc, 99, rfl, hD', by decide, by decide +kernel, fun H4 i4 e4 hD4 a4 b4 => ?_⟩
            walk_at "vd"
            exact hR' _ _ e4 hD4 a4 b4
          · have g4 := (Go.refl g3.D g3.T).but e4 hD4
            have hl2 : ms.length = 2 := hl
            refine ⟨x0, p6, r0, ms, B * ws.sum, rfl, g4.k.shV g3.D hP0, hc0.1, hc0.2, hBW0, Nat.le_trans hBW (by decide +kernel), isL ep6, by omega, by omega, hw, fun H5 p8 ys s5 np8 ep8 hP8 => ?_⟩
            have f8 := hD4.fresh np8
            exact hR _ _ ⟨p8, ys, ms, rfl, ⟨f8.1, f8.2, ep8, hP8⟩, hl2, hw, g4.same s5⟩
        obtain ⟨p8, ys, ms, rfl, hM4, hml, hms, g4⟩ := hM4
        have hV4 := g4.k.shV g3.D hV3
        have hL4 := hL3.go g3.D g4
        obtain ⟨hM0, hmsum, hmf⟩ := cut_facts (N := 0) hc0.1 hc0.2 hBW0 (by omega) hms
        have hM198 : ms.sum ≤ 198 := Nat.le_trans (sum_le' hms) (by omega)
        have hDz : B * ws.sum * ms.sum ≤ 10 ^ 40 := Nat.le_trans (Nat.mul_le_mul hBW hM198) (by decide +kernel)
        have hD0 : B * ws.sum * ms.sum ≠ 0 := Nat.mul_ne_zero hBW0 hM0
        have hcD : ∀ r ∈ ws.map (cutR s ws.sum), Sh r ∧ Dv (B * ws.sum * ms.sum) r := fun r hr => ⟨(hcf r hr).1, (hcf r hr).2.mul hM0⟩
        have dvD : Dv (B * ws.sum * ms.sum) s := (dvB.mul hW0).mul hM0
        refine seq_rest (fun σ' H' => ∃ o9 : Option V, σ' = [some (.ref a), some (.ref d), some (.int (0 + (i : Int))), some (.int B), some v, some (.ref p5), o6', o7, some (.ref p8), o9, o10, o11, o12, o13, none, none] ∧ Go T d cc H4 H') (fun σ5 H5 hM5 => ?_) (fun R hR => ?_)
        rotate_left
        · refine tFor_in (ilist_in ?_)
          walk_at "vd"
          have hrl : (ws.map (cutR s ws.sum)).length = ws.length := List.length_map ..
          have hml' : (ms.map (cutR r0 ms.sum)).length = ms.length := List.length_map ..
          refine sl_from g4.D hL4 fun H5 q1 s5 hq1 => ?_
          have s45 := s5
          refine sl_from (g4.D.same s45) (hL4.same s45) fun H6 q2 s6 hq2 => ?_
          have s46 := s45.trans s6
          refine cat_ls (g4.D.same s46) (hM4.same s46) hq2 (by rw [List.length_drop]; omega) fun H7 q3 s7 hq3 => ?_
          have s47 := s46.trans s7
          refine sl_to (g4.D.same s47) (hM4.same s47) fun H8 q4 s8 hq4 => ?_
          have s48 := s47.trans s8
          refine cat_ls (g4.D.same s48) (hL4.same s48) hq4 (by rw [List.length_take]; omega) fun H9 q5 s9 hq5 => ?_
          have s49 := s48.trans s9
          refine sl_to (g4.D.same s49) (hL4.same s49) fun H10 q6 s10 hq6 => ?_
          have s410 := s49.trans s10
          walk_at "vd"
          intro q7 nq7
          have hq7 : LsAt K d cc (upd H10 q7 (.lst [])) q7 [] [] := LsAt.new (g4.D.same s410) nq7 .nil
          have s11 := same_new (o := .lst []) nq7
          have s411 := s410.trans s11
          generalize upd H10 q7 (.lst []) = H11 at hq7 s11 s411 ⊢
          refine sl_from (g4.D.same s411) (hM4.same s411) fun H12 q8 s12 hq8 => ?_
          have s412 := s411.trans s12
          refine sl_from (g4.D.same s412) (hL4.same s412) fun H13 q9 s13 hq9 => ?_
          have s413 := s412.trans s13
          refine cat_ls (g4.D.same s413) (hq8.same s13) hq9 (by rw [List.length_drop, List.length_drop]; omega) fun H14 q10 s14 hq10 => ?_
          have s414 := s413.trans s14
          walk_at "vd"
          intro q11 nq11
          have hq11 : LsAt K d cc (upd H14 q11 (.lst [v, v])) q11 [v, v] [s, s] := LsAt.new (g4.D.same s414) nq11 (.cons (hV4.same s414) (.cons (hV4.same s414) .nil))
          have s15 := same_new (o := .lst [v, v]) nq11
          have s415 := s414.trans s15
          generalize upd H14 q11 (.lst [v, v]) = H15 at hq11 s15 s415 ⊢
          intro q12 nq12
          have hq12 : shV K (upd H15 q12 (.tup [.int 1, .int 1])) (.ref q12) 1 := ⟨q12, rfl, isT upd_same⟩
          have s16 := same_new (o := .tup [.int 1, .int 1]) nq12
          have s416 := s415.trans s16
          generalize upd H15 q12 (.tup [.int 1, .int 1]) = H16 at hq12 s16 s416 ⊢
          intro q13 nq13
          have hq13 : LsAt K d cc (upd H16 q13 (.lst [.ref q12])) q13 [.ref q12] [1] := LsAt.new (g4.D.same s416) nq13 (.cons hq12 .nil)
          have s17 := same_new (o := .lst [.ref q12]) nq13
          have s417 := s416.trans s17
          generalize upd H16 q13 (.lst [.ref q12]) = H17 at hq13 s17 s417 ⊢
          refine ⟨by rw [sizeLine_eq]; show 9 ≤ 16777216; decide, fun q14 nq14 => ?_⟩
          have s18 := same_new (o := .lst [V.ref p5, .ref q1, .ref q3, .ref q5, .ref q6, .ref q7, .ref q10, .ref q11, .ref q13]) nq14
          have s418 := s417.trans s18
          have f14 := (g4.D.same s417).fresh nq14
          have e14 : (upd H17 q14 (.lst [V.ref p5, .ref q1, .ref q3, .ref q5, .ref q6, .ref q7, .ref q10, .ref q11, .ref q13])) q14 = some (.lst [V.ref p5, .ref q1, .ref q3, .ref q5, .ref q6, .ref q7, .ref q10, .ref q11, .ref q13]) := upd_same
          generalize upd H17 q14 (.lst [V.ref p5, .ref q1, .ref q3, .ref q5, .ref q6, .ref q7, .ref q10, .ref q11, .ref q13]) = H18 at e14 s18 s418 ⊢
          refine ⟨q14, rfl, ⟨_, isL e14⟩, ?_⟩
          have gH := (Go.refl g4.D g4.T).same s418
          have all : ∀ u ∈ [V.ref p5, .ref q1, .ref q3, .ref q5, .ref q6, .ref q7, .ref q10, .ref q11, .ref q13], Elt K d cc (B * ws.sum * ms.sum) H18 u := by
            have t16 := s17.trans s18
            have t15 := s16.trans t16
            have t14 := s15.trans t15
            have t13 := s14.trans t14
            have t12 := s13.trans t13
            have t11 := s12.trans t12
            have t10 := s11.trans t11
            have t9 := s10.trans t10
            have t8 := s9.trans t9
            have t7 := s8.trans t8
            have t6 := s7.trans t7
            have t5 := s6.trans t6
            intro u hu
            simp only [List.mem_cons, List.mem_nil_iff, or_false] at hu
            rcases hu with rfl | rfl | rfl | rfl | rfl | rfl | rfl | rfl | rfl
            · exact ⟨_, _, _, rfl, hL4.same s418, hcD, by omega⟩
            · exact ⟨_, _, _, rfl, hq1.same t5, fun r hr => hcD r (List.mem_of_mem_drop hr), by rw [List.length_drop]; omega⟩
            · refine ⟨_, _, _, rfl, hq3.same t7, fun r hr => ?_, by rw [List.length_append, List.length_drop]; omega⟩
              rcases (List.mem_append.mp hr) with hr | hr
              · exact hmf r hr
              · exact hcD r (List.mem_of_mem_drop hr)
            · refine ⟨_, _, _, rfl, hq5.same t9, fun r hr => ?_, by rw [List.length_append, List.length_take]; omega⟩
              rcases (List.mem_append.mp hr) with hr | hr
              · exact hcD r hr
              · exact hmf r (List.mem_of_mem_take hr)
            · exact ⟨_, _, _, rfl, hq6.same t10, fun r hr => hcD r (List.mem_of_mem_take hr), by rw [List.length_take]; omega⟩
            · exact ⟨_, _, _, rfl, hq7.same t11, fun r hr => (by cases hr), Nat.zero_le _⟩
            · refine ⟨_, _, _, rfl, hq10.same t14, fun r hr => ?_, by rw [List.length_append, List.length_drop, List.length_drop]; omega⟩
              rcases (List.mem_append.mp hr) with hr | hr
              · exact hmf r (List.mem_of_mem_drop hr)
              · exact hcD r (List.mem_of_mem_drop hr)
            · refine ⟨_, _, _, rfl, hq11.same t15, fun r hr => ?_, (show 2 ≤ 1000 by decide)⟩
              simp only [List.mem_cons, List.mem_nil_iff, or_false] at hr
              rcases hr with rfl | rfl <;> exact ⟨hS, dvD⟩
            · refine ⟨_, _, _, rfl, hq13.same s18, fun r hr => ?_, (show 1 ≤ 1000 by decide)⟩
              simp only [List.mem_cons, List.mem_nil_iff, or_false] at hr
              rw [hr]
              exact ⟨sh_one, dv_one hD0⟩
          refine for_list (K := K) (a := q14) (xs := [V.ref p5, .ref q1, .ref q3, .ref q5, .ref q6, .ref q7, .ref q10, .ref q11, .ref q13]) (fun j σ' H' => (∃ o9 : Option V, σ' = [some (.ref a), some (.ref d), some (.int (0 + (i : Int))), some (.int B), some v, some (.ref p5), o6', o7, some (.ref p8), o9, o10, o11, o12, o13, none, none]) ∧ Go T d cc H18 H') ⟨⟨_, rfl⟩, Go.refl gH.D gH.T⟩ (fun j σ' H' _ h => isL (h.2.k _ _ e14 f14.1 f14.2 fun _ z => by cases z)) (fun j u σ' H' hx hP => ?_) fun σ' H' hP => ?_
          · obtain ⟨⟨o9, rfl⟩, gj⟩ := hP
            obtain ⟨q, zs, qs, rfl, hz, hqs, hql⟩ := (all u (List.mem_of_getElem? hx)).go gH.D gj
            walk_at "vd"
            refine ⟨d, cc, v, q, s, zs, qs, _, rfl, gj.D, (gH.k.trans gj.k).shV g4.D hV4, hS, dvD, isL hz.2.2.1, hz.1, hz.2.1, hz.2.2.2, hqs, hD0, hDz, hql, gj.T, fun H2 k2 D2 T2 => ?_⟩
            walk_at "vd"
            exact ⟨⟨_, rfl⟩, gj.kp k2 D2 T2⟩
          · obtain ⟨⟨o9, rfl⟩, gj⟩ := hP
            exact hR _ _ ⟨o9, rfl, gH.kp gj.k gj.D gj.T⟩
        obtain ⟨o9', rfl, g5⟩ := hM5
        have hV5 := g5.k.shV g4.D hV4
        refine seq_rest (fun σ' H' => ∃ m : Nat, σ' = [some (.ref a), some (.ref d), some (.int (0 + (i : Int))), some (.int B), some v, some (.ref p5), o6', o7, some (.ref p8), o9', some (.int m), o11, o12, o13, none, none] ∧ 1 ≤ m ∧ m ≤ 1000 ∧ Go T d cc H5 H') (fun σ6 H6 hM6 => ?_) (fun R hR => ?_)
        rotate_left
        · walk_at "vd"
          have key : ∀ n : Nat, 1 ≤ n → n ≤ 1000 → spAny [.ref d, .int n] H5 (fun y H2 => rI0 (fun i j => V.int (i + j)) (V.int 1) y H2 fun x H1 => R [some (.ref a), some (.ref d), some (.int (0 + (i : Int))), some (.int B), some v, some (.ref p5), o6', o7, some (.ref p8), o9', some x, o11, o12, o13, none, none] H1) E0 := fun n h1 h2 => by
            refine ⟨d, cc, n, rfl, g5.D, by omega, Nat.lt_of_le_of_lt (show ((n : Int)).natAbs ≤ 1000 by omega) (by decide +kernel), fun H2 i2 e2 hD2 a2 b2 => ?_⟩
            walk_at "vd"
            exact hR _ _ ⟨(1 + i2).toNat, by rw [Int.toNat_of_nonneg (by omega)], by omega, by omega, (Go.refl g5.D g5.T).but e2 hD2⟩
          exact ite2 (fun _ => key 1000 (by decide) (by decide)) fun _ => key 40 (by decide) (by decide)
        obtain ⟨m, rfl, hm1, hm2, g6⟩ := hM6
        have hV6 := g6.k.shV g5.D hV5
        refine seq_rest (fun σ' H' => ∃ (t p11 : Addr) (f : Nat), σ' = [some (.ref a), some (.ref d), some (.int (0 + (i : Int))), some (.int B), some v, some (.ref p5), o6', o7, some (.ref p8), o9', some (.int m), some (.ref p11), some (.int f), o13, none, none] ∧ f < m ∧ H' t = some (pr (Rat.divInt s.num (s.den * m))) ∧ H' p11 = some (.tup (List.replicate m (.ref t))) ∧ Go T d cc H6 H') (fun σ7 H7 hM7 => ?_) (fun R hR => ?_)
        rotate_left
        · walk_at "vd"
          refine ⟨v, s, m, B, rfl, hV6, hS, dvB, hB0, Nat.lt_of_le_of_lt hB2 (by decide +kernel), hm1, hm2, fun H7 t p7 s7 nt et ep => ?_⟩
          have g7 := (Go.refl g6.D g6.T).same s7
          refine ⟨d, cc, m, rfl, g7.D, by omega, Nat.lt_of_le_of_lt (show ((m : Int)).natAbs ≤ 1000 by omega) (by decide +kernel), fun H8 f e8 hD8 a8 b8 => ?_⟩
          obtain ⟨f, rfl⟩ : ∃ n : Nat, f = n := ⟨f.toNat, by omega⟩
          have nt2 := g7.D.ne et (fun _ z => by cases z)
          have np2 := g7.D.ne ep (fun _ z => by cases z)
          exact hR _ _ ⟨t, p7, f, rfl, by omega, e8 _ _ et (by simp [nt2.1, nt2.2]), e8 _ _ ep (by simp [np2.1, np2.2]), g7.but e8 hD8⟩
        obtain ⟨t, p11, f, rfl, hf, et, ep, g7⟩ := hM7
        have hV7 := g7.k.shV g6.D hV6
        have hBm : B * m ≤ 10 ^ 40 := Nat.le_trans (Nat.mul_le_mul hB2 hm2) (by decide +kernel)
        have hBm0 : B * m ≠ 0 := Nat.mul_ne_zero hB0 (by omega)
        have er : Rat.divInt s.num (s.den * m) = cutR s m 1 := by
          unfold cutR
          rw [show s.num * ((1 : Nat) : Int) = s.num by rw [Int.natCast_one, Int.mul_one]]
        rw [er] at et
        have hr1 : Sh (cutR s m 1) := cut_sh hS (Nat.le_refl 1) hm1
        have hrd : Dv (B * m) (cutR s m 1) := cut_dv (by omega) hB0 dvB
        have hpt : ∀ H' n, H' t = some (pr (cutR s m 1)) → Paired (shV K H') (List.replicate n (.ref t)) (List.replicate n (cutR s m 1)) := fun H' n e => paired_rep (F := shV K H') ⟨t, rfl, isT e⟩ n
        refine seq_rest (fun σ' H' => ∃ p13 : Addr, σ' = [some (.ref a), some (.ref d), some (.int (0 + (i : Int))), some (.int B), some v, some (.ref p5), o6', o7, some (.ref p8), o9', some (.int m), some (.ref p11), some (.int f), some (.ref p13), none, none] ∧ H' p13 = some (pr (cutR s m (m - f))) ∧ Same H7 H') (fun σ8 H8 hM8 => ?_) (fun R hR => ?_)
        rotate_left
        · walk_at "vd"
          have key : ∀ H8 p21, Same H7 H8 → SqT K H8 p21 (List.replicate f (.ref t)) → spLeft K CR [v, .ref p21] H8 (fun x H1 => R [some (.ref a), some (.ref d), some (.int (0 + (i : Int))), some (.int B), some v, some (.ref p5), o6', o7, some (.ref p8), o9', some (.int m), some (.ref p11), some (.int f), some x, none, none] H1) (fun _ _ _ => False) := fun H8 p21 s8 h8 => by
            have hlt := cut_lt hS hf
            have hrep := rsum_rep (s := s) (show m ≠ 0 by omega) f
            have et8 : H8 t = some (pr (cutR s m 1)) := s8 _ _ et
            refine ⟨v, p21, s, _, _, B * m, rfl, hV7.same s8, hS, dvB.mul (by omega), .inr h8, hpt H8 f et8, fun r hr => by rw [(List.mem_replicate.mp hr).2]; exact ⟨hr1, hrd⟩, hBm0, Nat.lt_of_le_of_lt hBm (by decide +kernel), by rw [List.length_replicate]; omega, fun z => ?_, fun z => ?_, fun _ H9 p9 s9 np9 ep9 => ?_⟩
            · rw [hrep] at z
              exact absurd z (Rat.not_lt.mpr (Rat.le_of_lt hlt))
            · rw [hrep] at z
              rw [← z] at hlt
              exact absurd hlt Rat.lt_irrefl
            · rw [hrep, cut_rest (by omega) (by omega)] at ep9
              exact hR _ _ ⟨p9, rfl, ep9, s8.trans s9⟩
          have htk : (List.replicate m (V.ref t)).take f = List.replicate f (V.ref t) := by rw [List.take_replicate, Nat.min_eq_left (by omega)]
          refine ⟨p11, _, rfl, isT ep, fun z => ?_, fun _ p21 np21 => ?_⟩
          · exfalso
            have z2 := z.2
            rw [HT.sIx_nat, List.length_replicate] at z2
            omega
          · rw [cutV_to, htk]
            exact key _ p21 (same_new np21) (isT upd_same)
        obtain ⟨p13, rfl, ep13, s8⟩ := hM8
        have g8 := (Go.refl g7.D g7.T).same s8
        have hV8 := hV7.same s8
        have hSL : Sh (cutR s m (m - f)) := cut_sh hS (by omega) (Nat.sub_le m f)
        refine seq_rest (fun σ' H' => σ' = [some (.ref a), some (.ref d), some (.int (0 + (i : Int))), some (.int B), some v, some (.ref p5), o6', o7, some (.ref p8), o9', some (.int m), some (.ref p11), some (.int f), some (.ref p13), none, none] ∧ Same H8 H') (fun σ9 H9 hM9 => ?_) (fun R hR => ?_)
        rotate_left
        · walk_at "vd"
          have hn := hS.num
          have hd : s.den ≤ B := dvB.den hB0
          have hD2 : B < 2 ^ 300 := Nat.lt_of_le_of_lt hB2 (by decide +kernel)
          have w1 : s.num.natAbs < 2 ^ 300 := by omega
          have w2 : (s.den : Int).natAbs < 2 ^ 300 := by rw [Int.natAbs_natCast]; omega
          have w3 : ((m : Int) - (f : Int)).natAbs < 2 ^ 20 := by omega
          have w4 : (m : Int).natAbs < 2 ^ 20 := by omega
          refine ⟨_, _, rfl, ⟨p13, rfl, isT ep13⟩, hSL, fun H9 s9 => ?_⟩
          walk_at "vd"
          intro p21 np21
          have s10 := s9.trans (same_new (o := .lst [.ref p13, .bl (decide (cutR s m (m - f) = 1))]) np21)
          have e21 : (upd H9 p21 (.lst [.ref p13, .bl (decide (cutR s m (m - f) = 1))])) p21 = some (.lst [.ref p13, .bl (decide (cutR s m (m - f) = 1))]) := upd_same
          generalize upd H9 p21 (.lst [.ref p13, .bl (decide (cutR s m (m - f) = 1))]) = H10 at s10 e21 ⊢
          obtain ⟨tv, rfl, hTv⟩ := hV8.same s10
          refine ixT hTv rfl ?_
          walk_at "vd"
          refine ⟨wide_mul w1 w3 (by decide) (by decide) (by decide), ?_⟩
          refine ixT hTv rfl ?_
          walk_at "vd"
          refine ⟨wide_mul w2 w4 (by decide) (by decide) (by decide), ?_⟩
          have e1 : s.num * ((m : Int) - (f : Int)) = ((s.num.toNat * (m - f) : Nat) : Int) := by
            rw [Int.natCast_mul, Int.toNat_of_nonneg (Int.le_of_lt hn.1), Int.ofNat_sub (Nat.le_of_lt hf)]
          refine ⟨s.num.toNat * (m - f), s.den * m, ?_, Nat.mul_pos s.den_pos (by omega), ?_, fun p22 np22 => ?_⟩
          · rw [e1]
            simp only [Int.natCast_mul]
          · exact Nat.le_trans (Nat.mul_le_mul hd (Nat.le_refl m)) (Nat.le_trans hBm (by decide +kernel))
          have e2 : Rat.divInt ((s.num.toNat * (m - f) : Nat) : Int) ((s.den * m : Nat) : Int) = cutR s m (m - f) := by
            unfold cutR
            rw [← e1, Int.natCast_mul, Int.ofNat_sub (Nat.le_of_lt hf)]
          rw [e2]
          have s11 := s10.trans (same_new (o := pr (cutR s m (m - f))) np22)
          have e22 : (upd H10 p22 (pr (cutR s m (m - f)))) p22 = some (pr (cutR s m (m - f))) := upd_same
          have e21' := same_new (o := pr (cutR s m (m - f))) np22 _ _ e21
          have hTv' := (same_new (o := pr (cutR s m (m - f))) np22).seqT hTv
          generalize upd H10 p22 (pr (cutR s m (m - f))) = H11 at s11 e22 e21' hTv' ⊢
          have fin : ∀ H12 p23 b, Same H11 H12 → H12 p23 = some (.lst [.ref p22, .bl b]) → b = decide (cutR s m (m - f) = 1) → spSame K 3 [.ref p21, .ref p23] H12 (fun x H1 => ∃ c, x = V.bl c ∧ if (!c) = true then Q (V.bl false) H1 else ∃ p ys, [V.ref p11] = [V.ref p] ∧ (SqL K H1 p ys ∨ SqT K H1 p ys) ∧ if (ys.length : Int) = (m : Int) then R [some (.ref a), some (.ref d), some (.int (0 + (i : Int))), some (.int B), some (.ref tv), some (.ref p5), o6', o7, some (.ref p8), o9', some (.int m), some (.ref p11), some (.int f), some (.ref p13), none, none] H1 else Q (V.bl false) H1) E0 := fun H12 p23 b s12 e23 eb => by
            have s812 := s11.trans s12
            subst eb
            refine ⟨_, _, .list [prD (cutR s m (m - f)), .bool (decide (cutR s m (m - f) = 1))], rfl, .lst (isL (s12 _ _ e21')) (.cons (shV_dp ⟨p13, rfl, isT (s812 _ _ ep13)⟩) (.cons (.bl _) .nil)), .lst (isL e23) (.cons (shV_dp ⟨p22, rfl, isT (s12 _ _ e22)⟩) (.cons (.bl _) .nil)), two_lv prD_lv True.intro, fun H13 s13 => ?_⟩
            walk_at "vd"
            have ep' := (s8.trans (s812.trans s13)) _ _ ep
            refine ⟨p11, _, rfl, .inr (isT ep'), iteT' (by rw [List.length_replicate]) ?_⟩
            exact hR _ _ ⟨rfl, s812.trans s13⟩
          by_cases hf0 : f = 0
          · refine iteT' (by omega) fun p23 np23 => ?_
            have s23 := same_new (o := .tup [.int 1, .int 1]) np23
            have hd1 : Dp K (upd H11 p23 (.tup [.int 1, .int 1])) (.ref p23) (prD 1) := shV_dp ⟨p23, rfl, isT upd_same⟩
            refine eqD_at (shV_dp ⟨tv, rfl, s23.seqT hTv'⟩) hd1 prD_sh prD_sh prD_eq fun p24 np24 => ?_
            refine fin _ _ _ (s23.trans (same_new np24)) upd_same ?_
            rw [hf0, Nat.sub_zero, cut_full (by omega)]
          · refine iteF' (by omega) fun p24 np24 => ?_
            refine fin _ _ _ (same_new np24) upd_same ?_
            have hfp := (cut_sh hS (show 1 ≤ f by omega) (Nat.le_of_lt hf)).1
            have hrest := cut_rest (s := s) (show m ≠ 0 by omega) (Nat.le_of_lt hf)
            have hs1 := hS.2
            rw [decide_eq_false]
            intro z
            grind
        obtain ⟨rfl, s9⟩ := hM9
        have g9 := g8.same s9
        have hV9 := hV8.same s9
        have ep9 := (s8.trans s9) _ _ ep
        have et9 := (s8.trans s9) _ _ et
        have hfull : rsum 0 (List.replicate m (cutR s m 1)) = s := by rw [rsum_rep (by omega), cut_full (by omega)]
        have hrr : ∀ r ∈ List.replicate m (cutR s m 1), Sh r ∧ Dv (B * m) r := fun r hr => by rw [(List.mem_replicate.mp hr).2]; exact ⟨hr1, hrd⟩
        walk_at "vd"
        refine ⟨p11, _, _, B * m, rfl, .inr (isT ep9), hpt H9 m et9, hrr, hBm0, Nat.lt_of_le_of_lt hBm (by decide +kernel), by rw [List.length_replicate]; exact hm1, by rw [List.length_replicate]; exact hm2, by rw [hfull]; exact hS.2, fun H10 p21 s10 np21 ep21 => ?_⟩
        rw [hfull] at ep21
        refine ⟨v, p11, s, _, _, B * m, rfl, hV9.same s10, hS, dvB.mul (by omega), .inr (isT (s10 _ _ ep9)), hpt H10 m (s10 _ _ et9), hrr, hBm0, Nat.lt_of_le_of_lt hBm (by decide +kernel), by rw [List.length_replicate]; omega, fun z => ?_, fun _ H11 s11 => ?_, fun z => ?_⟩
        · rw [hfull] at z
          exact absurd z Rat.lt_irrefl
        · walk_at "vd"
          intro p22 np22 p23 np23
          have s12 := s11.trans (same_new (o := .lst [.ref p21, .non]) np22)
          have s13 := s12.trans (same_new (o := .lst [v, .non]) np23)
          have e22 := same_new (o := .lst [v, .non]) np23 _ _ (upd_same (H := H11) (a := p22) (o := .lst [.ref p21, .non]))
          refine ⟨_, _, .list [prD s, .none], rfl, .lst (isL e22) (.cons (shV_dp ⟨p21, rfl, isT (s13 _ _ ep21)⟩) (.cons .non .nil)), .lst (isL upd_same) (.cons (shV_dp (hV9.same (s10.trans s13))) (.cons .non .nil)), two_lv prD_lv True.intro, fun H14 s14 => ?_⟩
          walk_at "vd"
          have g14 := g9.same ((s10.trans s13).trans s14)
          exact ⟨⟨_, _, _, _, _, _, _, _, _, _, _, _, rfl⟩, g14.D, g14.T⟩
        · rw [hfull] at z
          exact absurd z Rat.lt_irrefl
    · intro R hR
      walk_at "vd"
      refine ⟨a, ns, 100, rfl, hA, by decide, by decide, fun H' d cc s1 nd nc hD => ?_⟩
      exact hR _ _ ⟨d, cc, rfl, hD, hT.ext s1⟩
end
end K0
set_option Elab.async false
set_option linter.all false
set_option maxRecDepth 100000
set_option maxHeartbeats 8000000
namespace K0
open PySem L2 LamX PySem.Spec PyProof.Rows
/-- a def of the text, as K holds it -/
def DefK (K : PySem.W.Frag) (x : Str) (st : Stmt) (ps : List Str) : Prop := ∃ f fd, Fun K x x st f fd ∧ PySem.W.nsIn K mainGlobals x = some (some (.ref f)) ∧ Binds K fd ps []
def DefKC (K : PySem.W.Frag) (x : Str) (st : Stmt) (ps : List Str) (c : Addr) : Prop := ∃ f fd, (∃ (oc : Value) (od : Option Addr) (kV doc pm : Value) (an : Option Addr) (ct : Value) (osl : Array (Option Value)),
    fd = PySem.W.fnOf x x (defArgs st) (defBody st) (defScope st) .none kV doc pm an (.ref c) ct ∧ K.lookup f = some ⟨oc, od, .func fd, osl⟩ ∧ PySem.W.codeIn K (.ref c) x = true) ∧ PySem.W.keepIn K (.ref f) = true ∧ PySem.W.nsIn K mainGlobals x = some (some (.ref f)) ∧ Binds K fd ps [] ∧
    ∀ (s : Shared) (us : List Value), us.length = ps.length → BindsTo s fd ⟨us, []⟩ (ps.zip us)
section
variable {K : PySem.W.Frag} {h : Heap} {mg : Str → Option Value} {x : Str} {st : Stmt} {ps : List Str}
theorem DefK.at (D : DefK K x st ps) (X : K.In h) (G : h.Ns mainGlobals mg) : DefAt K mg x st ps := by
  obtain ⟨f, fd, F, e, b⟩ := D
  exact ⟨f, fd, F, PySem.W.mg_of X G e, b⟩
theorem defK_mk {f : Addr} {oc : Value} {od an : Option Addr} {osl : Array (Option Value)} {kV doc pm cdv ct : Value} (a : PySem.W.nsIn K mainGlobals x = some (some (.ref f))) (l : K.lookup f = some ⟨oc, od, .func (PySem.W.fnOf x x (defArgs st) (defBody st) (defScope st) .none kV doc pm an cdv ct), osl⟩)
    (c : PySem.W.codeIn K cdv x = true) (k : PySem.W.keepIn K (.ref f) = true) (b : ∀ (kV doc pm : Value) (an : Option Addr) (cdv ct : Value) (us : List Value), us.length = ps.length → bindArgs (PySem.W.fnOf x x (defArgs st) (defBody st) (defScope st) .none kV doc pm an cdv ct) ⟨us, []⟩ = pure (ps.zip us)) :
    DefK K x st ps := by
  have F := fun_mk (st := st) l c k
  exact ⟨f, _, F, a, F.binds b⟩
theorem with_def {h : Heap} (X : K.In h) (x : Str) (st : Stmt) (ps : List Str) {R : Prop} {f : Addr} {oc : Value} {od an : Option Addr} {osl : Array (Option Value)} {kV doc pm cdv ct : Value} (a : PySem.W.nsIn K mainGlobals x = some (some (.ref f))) (l : K.lookup f = some ⟨oc, od, .func (PySem.W.fnOf x x (defArgs st) (defBody st) (defScope st) .none kV doc pm an cdv ct), osl⟩)
    (c : PySem.W.codeIn K cdv x = true) (k : PySem.W.keepIn K (.ref f) = true) (b : ∀ (kV doc pm : Value) (an : Option Addr) (cdv ct : Value) (us : List Value), us.length = ps.length → bindArgs (PySem.W.fnOf x x (defArgs st) (defBody st) (defScope st) .none kV doc pm an cdv ct) ⟨us, []⟩ = pure (ps.zip us)) (z : DefK K x st ps → R) : R := z (defK_mk a l c k b)
theorem with_none {h : Heap} (X : K.In h) (x : Str) {R : Prop} (a : PySem.W.nsIn K mainGlobals x = some none) (z : PySem.W.nsIn K mainGlobals x = some none → R) : R := z a
def intAt (K : PySem.W.Frag) (x : Str) (i : Int) : Bool := match PySem.W.nsIn K mainGlobals x with
  | some (some (.int n _)) => decide (n = i)
  | _ => false
theorem intAt_ok {x : Str} {i : Int} (c : intAt K x i = true) : ∃ t, PySem.W.nsIn K mainGlobals x = some (some (.int i t)) := by
  unfold intAt at c
  split at c
  · rename_i j t e
    obtain rfl := of_decide_eq_true c
    exact ⟨t, e⟩
  · cases c
theorem DefKC.at {c : Addr} (D : DefKC K x st ps c) (X : K.In h) (G : h.Ns mainGlobals mg) : DefC K mg x st ps c := by
  obtain ⟨f, fd, F, k, e, b, _⟩ := D
  exact ⟨f, fd, F, k, PySem.W.mg_of X G e, b⟩
theorem defKC_mk {f c0 : Addr} {oc : Value} {od an : Option Addr} {osl : Array (Option Value)} {kV doc pm ct : Value} (a : PySem.W.nsIn K mainGlobals x = some (some (.ref f))) (l : K.lookup f = some ⟨oc, od, .func (PySem.W.fnOf x x (defArgs st) (defBody st) (defScope st) .none kV doc pm an (.ref c0) ct), osl⟩)
    (c : PySem.W.codeIn K (.ref c0) x = true) (k : PySem.W.keepIn K (.ref f) = true) (b : ∀ (kV doc pm : Value) (an : Option Addr) (cdv ct : Value) (us : List Value), us.length = ps.length → bindArgs (PySem.W.fnOf x x (defArgs st) (defBody st) (defScope st) .none kV doc pm an cdv ct) ⟨us, []⟩ = pure (ps.zip us)) :
    DefKC K x st ps c0 := by
  have F := fun_mk (st := st) l c k
  exact ⟨f, _, ⟨oc, od, kV, doc, pm, an, ct, osl, rfl, l, c⟩, k, a, F.binds b, fun s us hl => .of_eq (b _ _ _ _ _ _ us hl)⟩
end
theorem err_mk {prog : Program} {K : PySem.W.Frag} {C fI : Addr} {qn nm q : Str} {N : Addr} {bs bm : List Value} {sn : List Str} {sub : List Value} {ab : Bool} {col : Option Bool} {dd : Option Addr} {k0 k1 k2 k3 k5 : Option Value} {oc : Value} {od : Option Addr} {kV doc pm : Value} {an : Option Addr} {cda cc : Addr} {ct : Value} {osl : Array (Option Value)} {p1 p2 a b c d e f g i j hh : Pos} {ccl : Value} {cdd : Option Addr} {vs : Array Value}
    {ccs : Array (Option Value)} {file : Str} {tf : Tok} {cl : Value} {cld : Option Addr} {csl : Array (Option Value)} {pl : Sem Bool}
    (iC : PySem.W.findIn K (.ref C) "__init__" = some (some (.ref fI))) (e1 : K.lookup C = some (excClassObj nm q C N bs bm true sn sub ab col dd k0 k1 k2 k3 k5 "ValueError.__new__")) (e2 : PySem.HandSPX.refsVE bm = true)
    (e3 : K.lookup fI = some ⟨oc, od, .func (PySem.W.ksFn "__init__" qn (PySem.ErrX.iArgs p1 p2) (PySem.ErrX.iBody a b c d e f g hh i j) PySem.ErrX.iScope .none kV doc pm an (.ref cda) ct cc), osl⟩) (e4 : PySem.W.codeIn K (.ref cda) qn = true) (e5 : K.lookup cda = some ⟨ccl, cdd, .fields vs, ccs⟩) (e6 : vs[2]? = some (.str file tf)) (e7 : ((prog.main.file : Str) == file) = true)
    (e8 : K.lookup cc = some ⟨cl, cld, .cell (some (.ref C)), csl⟩)
    (e9 : ∀ env : Env, eval (.Call (.Attribute (.Call (.Name "super" a) [] [] b) "__init__" c) [.Name "at" d] [] e) env = (do
      let ov ← attributeBase (.Call (.Name "super" a) [] [] b) "__init__" env (eval (.Call (.Name "super" a) [] [] b) env)
      standAt c.atName
      let (fu, first) ← holding [ov] (getMethod ov "__init__" pl)
      callWith e fu first (backTo e (starEach [.Name "at" d] env)) []))
    (sa : PySem.W.findIn K (.ref C) "__setattr__" = some (some (.builtin "object.__setattr__"))) (noA : PySem.W.findIn K (.ref C) "at" = some none) (tI : PySem.W.typeIn K (.ref fI) = some (.type "function")) (sub' : PySem.W.mroIn K C (.ref C) = some true) (sup : PySem.W.ks_superIn K C C "__init__" = some (some (.builtin "ValueError.__init__")))
    (sVE : PySem.W.subIn K (.ref C) (.type "ValueError") = some true) (opq : PySem.W.nsIn K cStatics "thirdparty.any" = some none) (htop : (prog.main.scope.names.lookup (Str.ofString "super")).isSome = false) (exC : PySem.W.subIn K (.ref C) (.type "BaseException") = some true) (tyC : PySem.W.typeIn K (.ref C) = some (.type "type")) (kC : PySem.W.keepIn K (.ref C) = true) : PySem.ErrX.ErrTxt prog K C fI qn :=
  ⟨⟨_, _, _, _, _, _, _, _, _, _, _, _, _, _, _, e1, e2⟩, ⟨_, _, _, _, _, _, _, _, _, _, _, _, _, _, _, _, _, _, _, _, _, _, _, _, _, _, _, _, _, _, _, e3, e4, e5, e6, e7, e8, pl, e9⟩, sa, noA, iC, tI, sub', sup, sVE, opq, htop, exC, tyC, kC⟩
/-- what the top has written -/
structure Facts (P : Program) (K : PySem.W.Frag) (CQ CR fI c1 c2 : Addr) : Prop where
  D_is_integer : DefK K "is_integer" s_is_integer ["value"]
  D_great_divisor : DefK K "great_divisor" s_great_divisor ["one", "other"]
  D_lowest : DefK K "lowest" s_lowest ["top", "bottom"]
  D_is_share : DefK K "is_share" s_is_share ["value"]
  D_checked_share : DefK K "checked_share" s_checked_share ["value", "at"]
  D_sum_of : DefK K "sum_of" s_sum_of ["shares"]
  D_is_sequence : DefK K "is_sequence" s_is_sequence ["value"]
  D_is_whole : DefK K "is_whole" s_is_whole ["value"]
  D_checked_shares : DefK K "checked_shares" s_checked_shares ["shares"]
  D_joined_shares : DefK K "joined_shares" s_joined_shares ["shares"]
  D_parts_of : DefK K "parts_of" s_parts_of ["share", "many"]
  D_what_is_left : DefK K "what_is_left" s_what_is_left ["share", "shares"]
  D__law_any : DefK K "_law_any" s__law_any ["deal", "bound"]
  D__law_of : DefK K "_law_of" s__law_of ["deal", "some"]
  D__law_mixed : DefK K "_law_mixed" s__law_mixed ["deal", "some"]
  D__law_m_lowest : DefK K "_law_m_lowest" s__law_m_lowest ["top", "bottom"]
  D__law_shared : DefK K "_law_shared" s__law_shared ["one", "other"]
  D__law_less : DefK K "_law_less" s__law_less ["share", "some"]
  D__law_cut : DefK K "_law_cut" s__law_cut ["share", "weights"]
  D__law_draw : DefK K "_law_draw" s__law_draw ["script", "salt"]
  D__law_same : DefK K "_law_same" s__law_same ["value", "due"]
  D__law_heard : DefK K "_law_heard" s__law_heard ["work"]
  z_isinstance : PySem.W.nsIn K mainGlobals "isinstance" = some none
  z_int : PySem.W.nsIn K mainGlobals "int" = some none
  z_bool : PySem.W.nsIn K mainGlobals "bool" = some none
  z_str : PySem.W.nsIn K mainGlobals "str" = some none
  z_list : PySem.W.nsIn K mainGlobals "list" = some none
  z_tuple : PySem.W.nsIn K mainGlobals "tuple" = some none
  z_len : PySem.W.nsIn K mainGlobals "len" = some none
  z_all : PySem.W.nsIn K mainGlobals "all" = some none
  z_sum : PySem.W.nsIn K mainGlobals "sum" = some none
  z_abs : PySem.W.nsIn K mainGlobals "abs" = some none
  z_max : PySem.W.nsIn K mainGlobals "max" = some none
  z_min : PySem.W.nsIn K mainGlobals "min" = some none
  z_range : PySem.W.nsIn K mainGlobals "range" = some none
  z_zip : PySem.W.nsIn K mainGlobals "zip" = some none
  z_super : PySem.W.nsIn K mainGlobals "super" = some none
  D_lr : DefKC K "_law_left_right" s__law_left_right ["deal", "share", "some"] c1
  D_law : DefKC K "law" s_law ["script"] c2
  mp : ∃ t, PySem.W.nsIn K mainGlobals "MOST_PARTS" = some (some (.int 1000 t))
  aQ : PySem.W.nsIn K mainGlobals "InvalidQuestion" = some (some (.ref CQ))
  aR : PySem.W.nsIn K mainGlobals "Refused" = some (some (.ref CR))
  rq : PySem.W.exmOne K (.ref CR) (.ref CQ) = some false
  rr : PySem.W.exmOne K (.ref CR) (.ref CR) = some true
  xQ : XfC K CQ
  xR : XfC K CR
  nQ : PySem.W.findIn K (.ref CQ) "at" = some none
  nR : PySem.W.findIn K (.ref CR) "at" = some none
  er : PySem.ErrX.ErrTxt P K CR fI "Refused.__init__"
theorem law_at {l : PySem.W.OpenLaw} {w : World} {K : PySem.W.Frag} {mg : Str → Option Value} {h : Heap} {fa CQ CR fI c1 P1 c2 P2 : Addr} (F : Facts l.prog K CQ CR fI c1 c2) (X : K.In h) (G : h.Ns mainGlobals mg) (hfa : mg "law" = some (.ref fa))
    (t1 : h.get? P1 = some { cls := .none, data := .fields #[] }) (t2 : h.get? P2 = some { cls := .none, data := .fields #[] }) (n1 : K.lookup P1 = none) (n2 : K.lookup P2 = none) (h1 : PySem.W.CodeHd h c1 P1) (h2 : PySem.W.CodeHd h c2 P2) (hne : P1 ≠ P2) :
    LawAtS l w K CX0 10 63 "script" mg fa h := by
  have GL : Glb mg := ⟨PySem.W.mg_none_of X G F.z_isinstance, PySem.W.mg_none_of X G F.z_int, PySem.W.mg_none_of X G F.z_bool, PySem.W.mg_none_of X G F.z_str, PySem.W.mg_none_of X G F.z_list, PySem.W.mg_none_of X G F.z_tuple, PySem.W.mg_none_of X G F.z_len, PySem.W.mg_none_of X G F.z_all, PySem.W.mg_none_of X G F.z_sum, PySem.W.mg_none_of X G F.z_abs, PySem.W.mg_none_of X G F.z_max, PySem.W.mg_none_of X G F.z_min, PySem.W.mg_none_of X G F.z_range, PySem.W.mg_none_of X G F.z_zip, PySem.W.mg_none_of X G F.z_super, F.mp.elim fun t e => ⟨t, PySem.W.mg_of X G e⟩⟩
  have GC : Cls2 K mg CQ CR := ⟨PySem.W.mg_of X G F.aQ, PySem.W.mg_of X G F.aR, F.rq, F.rr, F.xQ, F.xR, F.nQ, F.nR⟩
  have D_is_integer := F.D_is_integer.at X G
  have D_great_divisor := F.D_great_divisor.at X G
  have D_lowest := F.D_lowest.at X G
  have D_is_share := F.D_is_share.at X G
  have D_checked_share := F.D_checked_share.at X G
  have D_sum_of := F.D_sum_of.at X G
  have D_is_sequence := F.D_is_sequence.at X G
  have D_is_whole := F.D_is_whole.at X G
  have D_checked_shares := F.D_checked_shares.at X G
  have D_joined_shares := F.D_joined_shares.at X G
  have D_parts_of := F.D_parts_of.at X G
  have D_what_is_left := F.D_what_is_left.at X G
  have D__law_any := F.D__law_any.at X G
  have D__law_of := F.D__law_of.at X G
  have D__law_mixed := F.D__law_mixed.at X G
  have D__law_m_lowest := F.D__law_m_lowest.at X G
  have D__law_shared := F.D__law_shared.at X G
  have D__law_less := F.D__law_less.at X G
  have D__law_cut := F.D__law_cut.at X G
  have D__law_draw := F.D__law_draw.at X G
  have D__law_same := F.D__law_same.at X G
  have D__law_heard := F.D__law_heard.at X G
  have D_lr := F.D_lr.at X G
  have D_law := F.D_law.at X G
  have kw1 : Kws K "what_is_left" s_what_is_left ["share", "shares"] := fun f fd Fu s ws hl => by
    obtain ⟨oc, od, kV, doc, pm, an, cdv, ct, osl, rfl, _⟩ := Fu.ex
    exact match ws, hl with | [_, _], _ => .of_eq rfl
  have kw2 : Kws K "parts_of" s_parts_of ["share", "many"] := fun f fd Fu s ws hl => by
    obtain ⟨oc, od, kV, doc, pm, an, cdv, ct, osl, rfl, _⟩ := Fu.ex
    exact match ws, hl with | [_, _], _ => .of_eq rfl
  obtain ⟨f, fd, ⟨oc, od, kV, doc, pm, an, ct, osl, efd, lk, _⟩, kp, ef, b, bA⟩ := F.D_law
  have e := hfa.symm.trans (PySem.W.mg_of X G ef)
  cases e
  have T0 : ∀ p ∈ [(P1, ("_law_left_right.<locals>." : Str) ++ "<lambda>"), (P2, ("law.<locals>." : Str) ++ "<lambda>")], (p.1 = P1 → p.2 = ("_law_left_right.<locals>." : Str) ++ "<lambda>") ∧ (p.1 = P2 → p.2 = ("law.<locals>." : Str) ++ "<lambda>") := fun p hp => by
    simp only [List.mem_cons, List.mem_nil_iff, or_false] at hp
    rcases hp with rfl | rfl
    · exact ⟨fun _ => rfl, fun z => absurd z hne⟩
    · exact ⟨fun z => absurd z.symm hne, fun _ => rfl⟩
  refine ⟨fd, [(c1, P1), (c2, P2)], spLaw K [(P1, ("_law_left_right.<locals>." : Str) ++ "<lambda>"), (P2, ("law.<locals>." : Str) ++ "<lambda>")], fun p hp => ?_, fun p hp => ?_, fun p hp => ?_, fun s u => bA s [u] rfl, fun H a ns hn hb hT hS => ?_, fun base Xb Gb TB => ?_⟩
  · simp only [List.mem_cons, List.mem_nil_iff, or_false] at hp
    rcases hp with rfl | rfl
    · exact t1
    · exact t2
  · simp only [List.mem_cons, List.mem_nil_iff, or_false] at hp
    rcases hp with rfl | rfl
    · exact n1
    · exact n2
  · simp only [List.mem_cons, List.mem_nil_iff, or_false] at hp
    rcases hp with rfl | rfl
    · exact h1
    · exact h2
  · refine ⟨a, ns, rfl, hS, fun p hp => ?_, fun _ => rfl⟩
    simp only [List.mem_cons, List.mem_nil_iff, or_false] at hp
    rcases hp with rfl | rfl
    · exact .nil (hT (c1, P1) List.mem_cons_self)
    · exact .nil (hT (c2, P2) (List.mem_cons_of_mem _ List.mem_cons_self))
  · have TB1 := TB (c1, P1) List.mem_cons_self
    have TB2 := TB (c2, P2) (List.mem_cons_of_mem _ List.mem_cons_self)
    have c_is_integer := c_is_integer (P := l.prog) (w := w) (base := base) GL D_is_integer
    have c_great_divisor := c_great_divisor (P := l.prog) (w := w) (base := base) GL D_great_divisor
    have c_lowest := c_lowest GL D_lowest c_great_divisor
    have c_is_share := is_share_r (c_is_share GL D_is_share c_is_integer c_great_divisor)
    have c_checked_share := c_checked_share GL D_checked_share c_is_share
    have c_sum_of := c_sum_of GL D_sum_of c_lowest
    have c_is_sequence := c_is_sequence (P := l.prog) (w := w) (base := base) GL D_is_sequence
    have c_is_whole := c_is_whole GL D_is_whole c_is_share
    have c_checked_shares := c_checked_shares GL D_checked_shares c_is_sequence c_is_share c_sum_of
    have c_joined_shares := c_joined_shares GL D_joined_shares c_checked_shares c_sum_of
    have c_parts_of := c_parts_of GL D_parts_of c_checked_share c_is_integer c_lowest
    have c_what_is_left := c_what_is_left GL F.er GC.gR D_what_is_left c_checked_share c_is_sequence c_is_share c_sum_of c_lowest
    have c__law_any := c__law_any (P := l.prog) (w := w) (base := base) GL D__law_any
    have c__law_of := c__law_of GL D__law_of c__law_any
    have c__law_mixed := c__law_mixed GL D__law_mixed c__law_any
    have c__law_m_lowest := c__law_m_lowest (P := l.prog) (w := w) (K := K) (base := base) GL D__law_m_lowest
    have c__law_shared := c__law_shared (P := l.prog) (w := w) (K := K) (base := base) GL D__law_shared
    have c__law_less := c__law_less GL D__law_less c__law_shared
    have c__law_cut := c__law_cut GL D__law_cut c__law_m_lowest
    have c__law_draw := c__law_draw (P := l.prog) (w := w) (base := base) GL D__law_draw
    have c__law_same := c__law_same (P := l.prog) (w := w) (base := base) GL D__law_same 3
    have c__law_left_right := c__law_left_right (T := [(P1, ("_law_left_right.<locals>." : Str) ++ "<lambda>"), (P2, ("law.<locals>." : Str) ++ "<lambda>")]) GL GC D__law_heard D_lr TB1 List.mem_cons_self (fun p hp => (T0 p hp).1) D_what_is_left kw1 c_what_is_left c__law_less c__law_same c__law_mixed c__law_any
    have C := c_law GL GC D__law_heard D_law TB2 (List.mem_cons_of_mem _ List.mem_cons_self) (fun p hp => (T0 p hp).2) D_parts_of kw2 c_parts_of c_what_is_left c_is_share c_is_whole c_joined_shares c__law_same c__law_mixed c__law_any c__law_of c__law_m_lowest c__law_cut c__law_draw c__law_left_right
    obtain ⟨f', fd', OK, g', _, _, oc', od', osl', lk'⟩ := C
    rw [hfa] at g'
    cases g'
    rw [lk] at lk'
    cases lk'
    exact OK
end K0
set_option Elab.async false
open PySem PySem.W PyProof.Rows
set_option maxRecDepth 100000 in
set_option maxHeartbeats 0 in
theorem PySem.Challenge.cw_heldshares_k00_whole_what_is_left_of_any_holds : PySem.Challenge.rw_heldshares_k00_whole_what_is_left_of_any.Holds := by
  w_on; o_law; k_head
  (case hw => w_witness2)
  k_fill
  refine LamX.walk_ofTs (l := PySem.Challenge.rw_heldshares_k00_whole_what_is_left_of_any) (n := 63) (k := 10) (x := "script") (CX := fun _ => L2.CX0) rfl (by decide) rfl ⟨rfl, by decide, by decide⟩ (fun w h Y => PySem.W.km_in_of Y) ?F (fun _ _ _ _ _ z => z)
  case F =>
    intro w mg fa h Y KX G hmg
    have hT := PySem.W.km_tabs_of Y
    refine' K0.with_def KX "is_integer" K0.s_is_integer ["value"] ?a10 ?l10 ?c10 ?k10 (fun _ _ _ _ _ _ us hl => match us, hl with | [_], _ => rfl) ?z10
    (case a10 => k_is); (case l10 => k_is); (case c10 => k_is); (case k10 => k_is)
    intro D_is_integer
    refine' K0.with_def KX "great_divisor" K0.s_great_divisor ["one", "other"] ?a11 ?l11 ?c11 ?k11 (fun _ _ _ _ _ _ us hl => match us, hl with | [_, _], _ => rfl) ?z11
    (case a11 => k_is); (case l11 => k_is); (case c11 => k_is); (case k11 => k_is)
    intro D_great_divisor
    refine' K0.with_def KX "lowest" K0.s_lowest ["top", "bottom"] ?a12 ?l12 ?c12 ?k12 (fun _ _ _ _ _ _ us hl => match us, hl with | [_, _], _ => rfl) ?z12
    (case a12 => k_is); (case l12 => k_is); (case c12 => k_is); (case k12 => k_is)
    intro D_lowest
    refine' K0.with_def KX "is_share" K0.s_is_share ["value"] ?a13 ?l13 ?c13 ?k13 (fun _ _ _ _ _ _ us hl => match us, hl with | [_], _ => rfl) ?z13
    (case a13 => k_is); (case l13 => k_is); (case c13 => k_is); (case k13 => k_is)
    intro D_is_share
    refine' K0.with_def KX "checked_share" K0.s_checked_share ["value", "at"] ?a14 ?l14 ?c14 ?k14 (fun _ _ _ _ _ _ us hl => match us, hl with | [_, _], _ => rfl) ?z14
    (case a14 => k_is); (case l14 => k_is); (case c14 => k_is); (case k14 => k_is)
    intro D_checked_share
    refine' K0.with_def KX "sum_of" K0.s_sum_of ["shares"] ?a15 ?l15 ?c15 ?k15 (fun _ _ _ _ _ _ us hl => match us, hl with | [_], _ => rfl) ?z15
    (case a15 => k_is); (case l15 => k_is); (case c15 => k_is); (case k15 => k_is)
    intro D_sum_of
    refine' K0.with_def KX "is_sequence" K0.s_is_sequence ["value"] ?a16 ?l16 ?c16 ?k16 (fun _ _ _ _ _ _ us hl => match us, hl with | [_], _ => rfl) ?z16
    (case a16 => k_is); (case l16 => k_is); (case c16 => k_is); (case k16 => k_is)
    intro D_is_sequence
    refine' K0.with_def KX "is_whole" K0.s_is_whole ["value"] ?a17 ?l17 ?c17 ?k17 (fun _ _ _ _ _ _ us hl => match us, hl with | [_], _ => rfl) ?z17
    (case a17 => k_is); (case l17 => k_is); (case c17 => k_is); (case k17 => k_is)
    intro D_is_whole
    refine' K0.with_def KX "checked_shares" K0.s_checked_shares ["shares"] ?a18 ?l18 ?c18 ?k18 (fun _ _ _ _ _ _ us hl => match us, hl with | [_], _ => rfl) ?z18
    (case a18 => k_is); (case l18 => k_is); (case c18 => k_is); (case k18 => k_is)
    intro D_checked_shares
    refine' K0.with_def KX "joined_shares" K0.s_joined_shares ["shares"] ?a19 ?l19 ?c19 ?k19 (fun _ _ _ _ _ _ us hl => match us, hl with | [_], _ => rfl) ?z19
    (case a19 => k_is); (case l19 => k_is); (case c19 => k_is); (case k19 => k_is)
    intro D_joined_shares
    refine' K0.with_def KX "parts_of" K0.s_parts_of ["share", "many"] ?a20 ?l20 ?c20 ?k20 (fun _ _ _ _ _ _ us hl => match us, hl with | [_, _], _ => rfl) ?z20
    (case a20 => k_is); (case l20 => k_is); (case c20 => k_is); (case k20 => k_is)
    intro D_parts_of
    refine' K0.with_def KX "what_is_left" K0.s_what_is_left ["share", "shares"] ?a21 ?l21 ?c21 ?k21 (fun _ _ _ _ _ _ us hl => match us, hl with | [_, _], _ => rfl) ?z21
    (case a21 => k_is); (case l21 => k_is); (case c21 => k_is); (case k21 => k_is)
    intro D_what_is_left
    refine' K0.with_def KX "_law_any" K0.s__law_any ["deal", "bound"] ?a22 ?l22 ?c22 ?k22 (fun _ _ _ _ _ _ us hl => match us, hl with | [_, _], _ => rfl) ?z22
    (case a22 => k_is); (case l22 => k_is); (case c22 => k_is); (case k22 => k_is)
    intro D__law_any
    refine' K0.with_def KX "_law_of" K0.s__law_of ["deal", "some"] ?a23 ?l23 ?c23 ?k23 (fun _ _ _ _ _ _ us hl => match us, hl with | [_, _], _ => rfl) ?z23
    (case a23 => k_is); (case l23 => k_is); (case c23 => k_is); (case k23 => k_is)
    intro D__law_of
    refine' K0.with_def KX "_law_mixed" K0.s__law_mixed ["deal", "some"] ?a24 ?l24 ?c24 ?k24 (fun _ _ _ _ _ _ us hl => match us, hl with | [_, _], _ => rfl) ?z24
    (case a24 => k_is); (case l24 => k_is); (case c24 => k_is); (case k24 => k_is)
    intro D__law_mixed
    refine' K0.with_def KX "_law_m_lowest" K0.s__law_m_lowest ["top", "bottom"] ?a25 ?l25 ?c25 ?k25 (fun _ _ _ _ _ _ us hl => match us, hl with | [_, _], _ => rfl) ?z25
    (case a25 => k_is); (case l25 => k_is); (case c25 => k_is); (case k25 => k_is)
    intro D__law_m_lowest
    refine' K0.with_def KX "_law_shared" K0.s__law_shared ["one", "other"] ?a26 ?l26 ?c26 ?k26 (fun _ _ _ _ _ _ us hl => match us, hl with | [_, _], _ => rfl) ?z26
    (case a26 => k_is); (case l26 => k_is); (case c26 => k_is); (case k26 => k_is)
    intro D__law_shared
    refine' K0.with_def KX "_law_less" K0.s__law_less ["share", "some"] ?a27 ?l27 ?c27 ?k27 (fun _ _ _ _ _ _ us hl => match us, hl with | [_, _], _ => rfl) ?z27
    (case a27 => k_is); (case l27 => k_is); (case c27 => k_is); (case k27 => k_is)
    intro D__law_less
    refine' K0.with_def KX "_law_cut" K0.s__law_cut ["share", "weights"] ?a28 ?l28 ?c28 ?k28 (fun _ _ _ _ _ _ us hl => match us, hl with | [_, _], _ => rfl) ?z28
    (case a28 => k_is); (case l28 => k_is); (case c28 => k_is); (case k28 => k_is)
    intro D__law_cut
    refine' K0.with_def KX "_law_draw" K0.s__law_draw ["script", "salt"] ?a29 ?l29 ?c29 ?k29 (fun _ _ _ _ _ _ us hl => match us, hl with | [_, _], _ => rfl) ?z29
    (case a29 => k_is); (case l29 => k_is); (case c29 => k_is); (case k29 => k_is)
    intro D__law_draw
    refine' K0.with_def KX "_law_same" K0.s__law_same ["value", "due"] ?a30 ?l30 ?c30 ?k30 (fun _ _ _ _ _ _ us hl => match us, hl with | [_, _], _ => rfl) ?z30
    (case a30 => k_is); (case l30 => k_is); (case c30 => k_is); (case k30 => k_is)
    intro D__law_same
    refine' K0.with_def KX "_law_heard" K0.s__law_heard ["work"] ?a31 ?l31 ?c31 ?k31 (fun _ _ _ _ _ _ us hl => match us, hl with | [_], _ => rfl) ?z31
    (case a31 => k_is); (case l31 => k_is); (case c31 => k_is); (case k31 => k_is)
    intro D__law_heard
    refine' K0.with_none KX "isinstance" ?y0 ?z50
    (case y0 => k_is)
    intro z_isinstance
    refine' K0.with_none KX "int" ?y1 ?z51
    (case y1 => k_is)
    intro z_int
    refine' K0.with_none KX "bool" ?y2 ?z52
    (case y2 => k_is)
    intro z_bool
    refine' K0.with_none KX "str" ?y3 ?z53
    (case y3 => k_is)
    intro z_str
    refine' K0.with_none KX "list" ?y4 ?z54
    (case y4 => k_is)
    intro z_list
    refine' K0.with_none KX "tuple" ?y5 ?z55
    (case y5 => k_is)
    intro z_tuple
    refine' K0.with_none KX "len" ?y6 ?z56
    (case y6 => k_is)
    intro z_len
    refine' K0.with_none KX "all" ?y7 ?z57
    (case y7 => k_is)
    intro z_all
    refine' K0.with_none KX "sum" ?y8 ?z58
    (case y8 => k_is)
    intro z_sum
    refine' K0.with_none KX "abs" ?y9 ?z59
    (case y9 => k_is)
    intro z_abs
    refine' K0.with_none KX "max" ?y10 ?z60
    (case y10 => k_is)
    intro z_max
    refine' K0.with_none KX "min" ?y11 ?z61
    (case y11 => k_is)
    intro z_min
    refine' K0.with_none KX "range" ?y12 ?z62
    (case y12 => k_is)
    intro z_range
    refine' K0.with_none KX "zip" ?y13 ?z63
    (case y13 => k_is)
    intro z_zip
    refine' K0.with_none KX "super" ?y14 ?z64
    (case y14 => k_is)
    intro z_super
    refine' K0.law_at (K0.Facts.mk D_is_integer D_great_divisor D_lowest D_is_share D_checked_share D_sum_of D_is_sequence D_is_whole D_checked_shares D_joined_shares D_parts_of D_what_is_left D__law_any D__law_of D__law_mixed D__law_m_lowest D__law_shared D__law_less D__law_cut D__law_draw D__law_same D__law_heard z_isinstance z_int z_bool z_str z_list z_tuple z_len z_all z_sum z_abs z_max z_min z_range z_zip z_super (K0.defKC_mk ?a1 ?l1 ?c1 ?k1 (fun _ _ _ _ _ _ us hl => match us, hl with | [_, _, _], _ => rfl)) (K0.defKC_mk ?a2 ?l2 ?c2 ?k2 (fun _ _ _ _ _ _ us hl => match us, hl with | [_], _ => rfl)) ?mp ?aQ ?aR ?rq ?rr ?xQ ?xR ?nQ ?nR ?er) KX G hmg ?t1 ?t2 ?n1 ?n2 ?h1 ?h2 ?hne
    (case a1 => k_is); (case l1 => k_is); (case c1 => k_is); (case k1 => k_is); (case a2 => k_is); (case l2 => k_is); (case c2 => k_is); (case k2 => k_is)
    (case mp => exact K0.intAt_ok (by kernel_rfl)); (case aQ => k_is); (case aR => k_is); (case rq => kernel_rfl); (case rr => kernel_rfl); (case nQ => k_is); (case nR => k_is)
    (case xQ => refine ⟨?_, ?_, ?_, ?_⟩ <;> k_is); (case xR => refine ⟨?_, ?_, ?_, ?_⟩ <;> k_is)
    (case t1 => exact hT 213 (by simp)); (case t2 => exact hT 220 (by simp))
    (case n1 => kernel_rfl); (case n2 => kernel_rfl)
    (case h1 => exact PySem.W.codeHd_of_K KX (by kernel_rfl)); (case h2 => exact PySem.W.codeHd_of_K KX (by kernel_rfl))
    (case hne => decide)
    case er =>
      refine' K0.err_mk ?iC ?e1 ?e2 ?e3 ?e4 ?e5 ?e6 ?e7 ?e8 ?e9 ?sa ?noA ?tI ?sub ?sup ?sVE ?opq ?htop ?exC ?tyC ?kC
      (case iC => k_is)
      (case e1 => k_is)
      (case e2 => kernel_rfl)
      (case e3 => k_is)
      (case e4 => k_is)
      (case e5 => k_is)
      (case e6 => rfl)
      (case e7 => rfl)
      (case e8 => k_is)
      (case e9 => exact fun _ => rfl)
      (case sa => k_is)
      (case noA => k_is)
      (case tI => k_is)
      (case sub => kernel_rfl)
      (case sup => kernel_rfl)
      (case sVE => kernel_rfl)
      (case opq => kernel_rfl)
      (case htop => kernel_rfl)
      (case exC => k_is)
      (case tyC => k_is)
      (case kC => k_is)
