import PyProof.Rows.All
import Wide.All
import OpenK.AllK
import Wide.FinOn
import KE.KExcSuper
import HandS.Exc
import KE.KEqDict
import HandS.Base
import HandS.Call
import HandS.List
import HandS.Dict
import HandS.Comp
import HandS.Words
import PySem.Challenge.RW_optwright_k81_names
import HandS.IsInst
import HandS.Zip
import HandS.Walk
import HandS.Style
import HandS.More
import HandS.Conv
import HandS.ListItems
import HandS.Defaults
import HandS.WordsDict
import HandS.WordsExc
import HandS.TryOnly
import HandS.ExcOwn
set_option Elab.async false
set_option linter.all false
set_option maxRecDepth 100000
set_option maxHeartbeats 4000000
namespace PySem
namespace NoX
open PySem.W PySem.Calls PyProof.Rows PySem.HandSPX
abbrev p1 : Pos := ⟨6, 17, 6, 21⟩
abbrev p2 : Pos := ⟨6, 23, 6, 27⟩
abbrev r1 : Pos := ⟨7, 8, 7, 13⟩
abbrev r2 : Pos := ⟨7, 8, 7, 15⟩
abbrev r3 : Pos := ⟨7, 8, 7, 24⟩
abbrev r4 : Pos := ⟨7, 25, 7, 29⟩
abbrev r5 : Pos := ⟨7, 8, 7, 30⟩
abbrev r6 : Pos := ⟨7, 8, 7, 30⟩
abbrev q1 : Pos := ⟨8, 8, 8, 12⟩
abbrev q2 : Pos := ⟨8, 8, 8, 17⟩
abbrev q3 : Pos := ⟨8, 20, 8, 24⟩
abbrev q4 : Pos := ⟨8, 8, 8, 24⟩
def iA : Arguments := { posonlyargs := [], args := [{ arg := "self", annotation := none, pos := p1 }, { arg := "name", annotation := none, pos := p2 }], vararg := none, kwonlyargs := [], kw_defaults := [], kwarg := none, defaults := [] }
def iB : List Stmt := [.Expr (.Call (.Attribute (.Call (.Name "super" r1) [] [] r2) "__init__" r3) [.Name "name" r4] [] r5) r6, .Assign [.Attribute (.Name "self" q1) "name" q2] (.Name "name" q3) q4]
def iS : Scope := { kind := .function, names := [(PySem.Str.ofString "self", .local), (PySem.Str.ofString "name", .local), (PySem.Str.ofString "__class__", .free), (PySem.Str.ofString "super", .globalImplicit)], isGenerator := false, isCoroutine := false, more := [] }
/-- what the written part says of NoName, at C, and of its __init__, at fI -/
structure NoTxt (P : Program) (K : Frag) (mg : Str → Option Value) (C fI : Addr) : Prop where
  gC : mg "NoName" = some (.ref C)
  gS : mg "super" = none
  cls : ∃ nm q N bs bm sn sub ab col dd k0 k1 k2 k3 k5, K.lookup C = some (excClassObj nm q C N bs bm true sn sub ab col dd k0 k1 k2 k3 k5 "ValueError.__new__") ∧ refsVE bm = true
  sa : findIn K (.ref C) "__setattr__" = some (some (.builtin "object.__setattr__"))
  ga : findIn K (.ref C) "__getattribute__" = some (some (.builtin "BaseException.__getattribute__"))
  gg : findIn K (.ref C) "__getattr__" = some none
  noN : findIn K (.ref C) "name" = some none
  iC : findIn K (.ref C) "__init__" = some (some (.ref fI))
  tC : typeIn K (.ref fI) = some (.type "function")
  kC : keepIn K (.ref C) = true
  exC : subIn K (.ref C) (.type "BaseException") = some true
  veC : subIn K (.ref C) (.type "ValueError") = some true
  tyC : typeIn K (.ref C) = some (.type "type")
  hdC : hasDictIn K C = true
  te : exmOne K (.ref C) (.ref C) = some true
  meC : mroIn K C (.ref C) = some true
  up : ks_superIn K C C "__init__" = some (some (.builtin "ValueError.__init__"))
  no : nsIn K cStatics "thirdparty.any" = some none
  fn : ∃ (oc : Value) (od : Option Addr) (doc pm : Value) (an : Option Addr) (ct : Value) (osl : Array (Option Value)) (cda cc : Addr) (ccl cl : Value) (cdd cld : Option Addr) (ccs csl : Array (Option Value)) (vs : Array Value) (file : Str) (tf : Tok),
    K.lookup fI = some ⟨oc, od, .func (ksFn "__init__" "NoName.__init__" iA iB iS .none .none doc pm an (.ref cda) ct cc), osl⟩ ∧ codeIn K (.ref cda) "NoName.__init__" = true ∧
    K.lookup cda = some ⟨ccl, cdd, .fields vs, ccs⟩ ∧ vs[2]? = some (.str file tf) ∧ ((P.main.file : Str) == file) = true ∧ (P.main.scope.names.lookup ("super" : Str)).isSome = false ∧
    K.lookup cc = some ⟨cl, cld, .cell (some (.ref C)), csl⟩
theorem one_size (v : Value) : [v].length ≤ sizeLine := by
  rw [sizeLine_eq]
  exact (by decide : 1 ≤ 16777216)
/-- what __init__ leaves of a fresh exception at x -/
structure InitEnd (h h' : Heap) (x C dx : Addr) (v : Value) : Prop where
  keep : ∀ b o, b ≠ x → h.get? b = some o → h'.get? b = some o
  obj : ∃ t1 : Addr, h'.get? x = some { cls := .ref C, dict := some dx, data := .fields #[.ref t1, .none, .none, .none, .bool false, .none] }
  dbig : h.objs.size ≤ dx
  dne : dx ≠ x
  ns : h'.Ns1 dx (fun y => if y = "name" then some v else none)
/-- a made NoName -/
structure OwnMade (h h' : Heap) (e C d : Addr) (v : Value) : Prop where
  keep : ∀ b o, h.get? b = some o → h'.get? b = some o
  new : h.objs.size ≤ e
  obj : ∃ oe vs, h'.get? e = some oe ∧ oe.cls = .ref C ∧ oe.dict = some d ∧ oe.data = .fields vs ∧ vs[1]? = some .none
  dbig : h.objs.size ≤ d
  dne : d ≠ e
  ns : h'.Ns1 d (fun y => if y = "name" then some v else none)
section
variable {prog : Program} {w : World} {A : Around} {E : Value → Shared → Prop} {R : Result → Shared → Prop} {s : Shared} {K : Frag} {mg : Str → Option Value} {C fI : Addr}
theorem ldC {M : Model} {s : Shared} {env : Env} {m : Str → Option Value} {x : Str} {pos : Pos} {v : Value} {Q : Value → Shared → Prop} {A : Around} {E : Value → Shared → Prop} (hn : s.heap.Ns env.locals m) (hv : m x = some v) (h : Q v s)
    (hk : env.scope.kind = .function) (hl : env.kindOf x = some .local) (hd : (x == ("__debug__" : Str)) = false := by decide) :
    wpAny M A (eval (.Name x pos) env) Q E s := wpAny_Name (wpAny_loadName_local hk hl hn hv h) hd
/-- super().__init__ called with one thing -/
theorem up_call (T : NoTxt prog K mg C fI) {x u t0 : Addr} {v : Value} {Q : Value → Shared → Prop} (X : K.In s.heap) (hu : s.heap.get? u = some (kxs_mw "ValueError.__init__" x)) (hx : s.heap.get? x = some (excO C t0))
    (hq : ∀ h' t1, (∀ b o, b ≠ x → s.heap.get? b = some o → h'.get? b = some o) → h'.get? x = some (excO C t1) → Q .none { s with heap := h' }) : wpAny (model prog w) A (call (.ref u) [v]) Q E s := by
  obtain ⟨nm, q, N, bs, bm, sn, sub, ab, col, dd, k0, k1, k2, k3, k5, hC, hbm⟩ := T.cls
  obtain ⟨hp, g, d, tk, os⟩ := s
  refine wpAny_call (codeAny_of_tree ?_)
  show wpAny _ A.in1 (callAny (.ref u) ⟨[v], []⟩) _ _ _
  simp only [callAny]
  refine wpAny_bind (wpAny_load hu ?_)
  refine KFB.if_so (by rfl) (KFB.if_so (by rfl) ?_)
  refine wpAny_bind (check_bound_init F.excBase_ValueError.toExcCallFacts (X _ _ hC) hx rfl ?_)
  refine wpAny_bind (wpAny_pure (wpAny_pure ?_))
  refine ⟨plainId_quiet F.excBase_ValueError.init.plain _, codeAny_builtin F.excBase_ValueError.initEntry ?_⟩
  exact exc_init_tree (cls := .ref C) (t0 := t0) (dv := none) (c2 := .none) (c3 := .none) (b4 := .bool false) hx (one_size v) fun h' k e' _ => hq h' _ k e'
theorem no_init (T : NoTxt prog K mg C fI) {x t0 : Addr} {v : Value} (X : K.In s.heap) (G : s.heap.Ns mainGlobals mg) (B : ∃ mb, s.heap.Ns builtinsNs mb ∧ ∀ x : Str, x ≠ "__name__" → mb x = bootBuiltins x) (hlim : s.heap.NoLimit) (hx : s.heap.get? x = some (excO C t0)) (hnx : K.lookup x = none) (hroom : A.depth < recursionLimit)
    (hq : ∀ h' tk dx, InitEnd s.heap h' x C dx v → R (.ok (.ret .none)) { s with heap := h', toks := tk }) :
    codeAny (model prog w) A (.call (.ref fI) ⟨[.ref x, v], []⟩) R s := by
  obtain ⟨oc, od, doc, pm, an, ct, osl, cda, cc, ccl, cl, cdd, cld, ccs, csl, vs, file, tf, ho, hcd, hcode, hvs, hfile, htop, hcell⟩ := T.fn
  obtain ⟨nm, q, N, bs, bm, sn, sub, ab, col, dd, k0, k1, k2, k3, k5, hC, hbm⟩ := T.cls
  have hcl : clsIn K C = some { name := nm, bases := bs, mro := .ref C :: bm, ns := N, qualname := q, hasDict := true, slotNames := sn, subclasses := sub, abstract := ab, collection := col, hasDel := false } := by unfold clsIn; rw [hC] <;> rfl
  refine ks_codeAny_call_defAt (binds := [("self", .ref x), ("name", v)]) hroom (X _ _ ho) rfl hlim (codeRec_of X hcd) rfl (BindsTo.of_eq (by first | rfl | with_unfolding_all rfl)) (show ∀ x ∈ iS.names, x.2 ≠ NameKind.cell by decide) ?_ (fun h₁ hn k => ?_) rfl rfl rfl
  · intro y hy
    show iS.names.lookup y.1 = some .local
    rcases List.mem_cons.mp hy with rfl | hy
    · rfl
    rcases List.mem_cons.mp hy with rfl | hy
    · rfl
    cases hy
  have hxL : s.heap.objs.size ≠ x := Nat.ne_of_gt (Heap.lt_size hx)
  have X₁ : K.In h₁ := X.keeps k
  have hx₁ := k _ _ hx
  have G₁ := G.keeps k
  obtain ⟨mb, b1, b2⟩ := B
  have B₁ := b1.keeps k
  have I₁ : InstAt h₁ x (excO C t0) C none := ⟨hx₁, rfl, rfl, trivial⟩
  obtain ⟨hh, g, d, t, os⟩ := s
  dsimp only at *
  show wpAt _ _ _ (execs iB (ksEnv "NoName.__init__" iS hh.objs.size fI (.ref cda) cc)) _ _ _
  have z : hh.objs.size < h₁.objs.size := hn.lt
  -- super().__init__(name)
  refine ks_wpAt_execs_cons ?_
  refine ks_wpAt_Expr_any ?_
  refine ks_wpAt_MethodCall ?_
  refine ks_wpAt_super_base (env := ksEnv "NoName.__init__" iS hh.objs.size fI (.ref cda) cc) rfl rfl (by decide) rfl (X₁ _ _ ho) rfl rfl rfl (X₁ _ _ hcode) rfl hvs hfile htop ?_
  refine ks_loadName_global rfl rfl (loadGlobal_builtin (env := ksEnv "NoName.__init__" iS hh.objs.size fI (.ref cda) cc) G₁ T.gS B₁ ((b2 _ (by decide)).trans PyProof.Rows.Boot.«super») ⟨rfl, ?_⟩)
  refine wpAny_loadName_free rfl rfl rfl ⟨_, X₁ _ _ hcell, rfl⟩ ?_
  refine wpAny_loadName_local rfl rfl hn rfl ?_
  refine ks_wpAny_isType_cls (X₁ _ _ hC) rfl ⟨rfl, ?_⟩
  refine ks_wpAny_call_super (X₁ _ _ hC) rfl hx₁ rfl (fun c e => nomatch e) (looks_mroIn X₁ T.meC) (fun h₂ e₂ k₂ => ?_)
  have X₂ : K.In h₂ := X₁.keeps k₂
  have hx₂ := k₂ _ _ hx₁
  have I₂ : InstAt h₂ x (excO C t0) C none := ⟨hx₂, rfl, rfl, trivial⟩
  have hI : Looks (model prog w) h₂ (isInstance (.ref x) (.type "ValueError")) true := I₂.type.andThen (looks_subIn X₂ T.veC)
  have hup : alongIn K "__init__" (((Value.ref C :: bm).dropWhile (· != .ref C)).drop 1) = some (some (.builtin "ValueError.__init__")) := by
    have u := T.up
    unfold ks_superIn at u
    rw [hcl] at u
    exact u
  refine kxs_getMethod kxs_ValueError e₂ (looks_opaque X₂ T.no) (l₀ := .ref C :: bm) (fun A Q E s k q => wpAny_bind ((looks_clsIn X₂ hcl) A _ E s k (wpAny_pure q))) rfl X₂ hup hI (ks_ne X₂ I₂ hcl) (by decide) ?_
  have k₃ : ∀ b o, h₂.get? b = some o → (h₂.push (kxs_mw "ValueError.__init__" x)).get? b = some o := fun b o e => Heap.get?_push_of_some _ e
  have hu₃ : (h₂.push (kxs_mw "ValueError.__init__" x)).get? h₂.objs.size = some (kxs_mw "ValueError.__init__" x) := Heap.get?_push_at rfl rfl
  refine kxs_callWith (i := "ValueError.__init__") (x := x) rfl ?_
  have n₂ : h₂.Ns hh.objs.size _ := hn.keeps k₂
  have n₃ := n₂.keeps k₃
  refine evalArgs_plain ?_
  show wpAny _ _ (spliced (backTo r5 (starEach [.Name "name" r4] (ksEnv "NoName.__init__" iS hh.objs.size fI (.ref cda) cc)))) _ _ _
  refine PyProof.Rows.spliced_more (ldC (v := v) n₃ rfl (PyProof.Rows.spliced_none ⟨hu₃, ?_⟩) rfl rfl) rfl
  refine up_call T (X₂.keeps k₃) hu₃ (k₃ _ _ hx₂) fun h₄ t1 k₄ hx₄ => ?_
  -- self.name = name
  have X₄ : K.In h₄ := fun a o e => k₄ a o (fun z => by rw [z, hnx] at e; cases e) ((X₂.keeps k₃) a o e)
  have nL : hh.objs.size ≠ x := hxL
  have n₄ : h₄.Ns hh.objs.size (fun y => ([("self", Value.ref x), ("name", v)] : List (Str × Value)).reverse.lookup y) := by
    obtain ⟨oL, es, ep, e1, e2⟩ := n₃
    exact ⟨oL, es, ep, k₄ _ _ nL e1, e2⟩
  show wpAt _ _ _ (execs [.Assign [.Attribute (.Name "self" q1) "name" q2] (.Name "name" q3) q4] (ksEnv "NoName.__init__" iS hh.objs.size fI (.ref cda) cc)) _ _ _
  refine ks_wpAt_execs_cons (wpAt_of_wpAny (plainObj_wpAny_Assign_Attribute ?_))
  refine ldC (v := v) n₄ rfl (ldC (v := .ref x) n₄ rfl ?_ rfl rfl) rfl rfl
  refine set_plain X₄ (ox := excO C t1) (od := none) ⟨hx₄, rfl, rfl, trivial⟩ T.sa ?_
  refine exc_osa X₄ hx₄ hcl (show refsVE (.ref C :: bm) = true from hbm) rfl T.noN (fun h₅ tk₅ dx k₅ dn dne hx₅ hn₅ => ?_)
  refine wpAt_of_wpAny (wpAny_execs_nil (hq h₅ tk₅ dx ⟨fun b o hb e => k₅ b o hb (k₄ b o hb (k₃ b o (k₂ b o (k b o e)))), ⟨_, hx₅⟩, ?_, dne, hn₅⟩))
  exact Nat.le_trans (Nat.le_of_lt (show hh.objs.size < h₄.objs.size from n₄.lt)) dn
theorem no_made (T : NoTxt prog K mg C fI) {v : Value} (X : K.In s.heap) (G : s.heap.Ns mainGlobals mg) (B : ∃ mb, s.heap.Ns builtinsNs mb ∧ ∀ x : Str, x ≠ "__name__" → mb x = bootBuiltins x) (hlim : s.heap.NoLimit) (hroom : A.depth + 1 < recursionLimit)
    (hq : ∀ h' tk e d, OwnMade s.heap h' e C d v → R (.ok (.ret (.ref e))) { s with heap := h', toks := tk }) :
    codeAny (model prog w) A (.call (.ref C) ⟨[v], []⟩) R s := by
  obtain ⟨nm, q, N, bs, bm, sn, sub, ab, col, dd, k0, k1, k2, k3, k5, hC, hbm⟩ := T.cls
  obtain ⟨hp, g, dr, tk, os⟩ := s
  have k : ∀ b o, hp.get? b = some o → ((hp.push (kdv_tup [v])).push (excO C hp.objs.size)).get? b = some o := fun b o e => Heap.get?_push_of_some _ (Heap.get?_push_of_some _ e)
  have hget : ((hp.push (kdv_tup [v])).push (excO C hp.objs.size)).get? (hp.objs.size + 1) = some (excO C hp.objs.size) := by heap_get
  have hnx : K.lookup (hp.objs.size + 1) = none := by
    cases e : K.lookup (hp.objs.size + 1) with
    | none => rfl
    | some o =>
      have z : hp.get? (hp.objs.size + 1) = some o := X _ _ e
      exact absurd (Nat.lt_of_succ_lt (Heap.lt_size z)) (Nat.lt_irrefl _)
  obtain ⟨mb, b1, b2⟩ := B
  refine call_own F.excBase_ValueError (fun X => refsVE_contains X bm hbm) (X _ _ hC) (looks_findIn X T.iC) (fun self => bind_fn X self T.tC) (one_size v) ?_
  refine no_init (s := ⟨(hp.push (kdv_tup [v])).push (excO C hp.objs.size), g, dr, tk, os⟩) T (X.keeps k) (G.keeps k) ⟨mb, b1.keeps k, b2⟩ (hlim.keeps k) hget hnx ?_ fun h' tk' dx ⟨k', hx, dn, dne, hns⟩ => ?_
  · show A.depth + 1 < recursionLimit
    exact hroom
  · have old : ∀ b o, hp.get? b = some o → h'.get? b = some o := fun b o e => k' b o (Nat.ne_of_lt (Nat.lt_succ_of_lt (Heap.lt_size e))) (k b o e)
    have z : hp.objs.size + 1 + 1 ≤ dx := by
      first
        | (simpa only [Heap.size_push] using dn)
        | exact dn
        | (have q := dn; rw [Heap.size_push, Heap.size_push] at q; exact q)
    obtain ⟨t1, hx⟩ := hx
    exact ⟨rfl, hq h' tk' (hp.objs.size + 1) dx ⟨old, Nat.le_succ _, ⟨_, _, hx, rfl, rfl, rfl, rfl⟩, Nat.le_trans (Nat.le_trans (Nat.le_succ _) (Nat.le_succ _)) z, dne, hns⟩⟩
end
end NoX
end PySem
namespace L2
open PySem PySem.Spec PyProof.Rows
theorem relO_no {v : V} {v' : Value} (r : RelV v v') (f : Str) : RelO (List.lookup f [(("name" : Str), v)]) (if f = "name" then some v' else none) := by
  by_cases hw : f = "name"
  · subst hw
    rw [if_pos rfl]
    have q : List.lookup ("name" : Str) [(("name" : Str), v)] = some v := by simp [List.lookup]
    rw [q]
    exact r
  · rw [if_neg hw]
    have qw : (f == ("name" : Str)) = false := by simpa using hw
    have q2 : List.lookup f [(("name" : Str), v)] = none := by simp [List.lookup, qw]
    rw [q2]
    trivial
section
variable {X : Cx} {C fI : Addr}
/-- NoName(e) -/
def tMkNo (C : Addr) (ta : TA) : St → Hp → XK → Prop := fun σ H Q => ta σ H fun vs H1 => ∃ v, vs = [v] ∧ ∀ d, H1 d = none → Q (.ref C) (some d) (upd H1 d (.xd [(("name" : Str), v)]))
theorem pmk_no {a : Expr} {ta : TA} {p pos : Pos} {k : Nat} (T : PySem.NoX.NoTxt X.prog X.K X.mg C fI) (hr : Room k X.A) (ha : PA X [a] ta) (hg : Gl X "NoName" := by rfl)
    (he : starEach (a :: []) X.env = (false, eval a X.env) :: starEach [] X.env := by rfl) (hpl : (backTo pos (starEach [] X.env)).any (·.1) = false := by rfl) :
    PMk X (.Call (.Name "NoName" p) [a] [] pos) (tMkNo C ta) := by
  intro pins s σ H Q I h
  refine wpAny_Call_Name_kw (ld_glob I hg T.gC ?_)
  refine PySem.W.callWith_K (h₀ := X.base) I.ok.mod.kin T.kC (thn (ha.run pos pins s σ H _ I h) fun us s1 hh => ?_) he hpl
  obtain ⟨vs, H1, I1, r1, v, ev, q1⟩ := hh
  subst ev
  refine ⟨I1.kIn, ?_⟩
  cases r1 with
  | cons rv rn =>
    rename_i v' us'
    cases rn
    show wpAny _ _ (call (.ref C) [v']) _ _ _
    have hlim := I1.nolimit
    have G1 : s1.heap.Ns mainGlobals X.mg := I1.mod.glob.keeps I1.bk
    obtain ⟨mb, b1, b2⟩ := I1.mod.blt
    have B1 : ∃ mb, s1.heap.Ns builtinsNs mb ∧ ∀ x : Str, x ≠ "__name__" → mb x = bootBuiltins x := ⟨mb, b1.keeps I1.bk, b2⟩
    have X1 := I1.kIn
    obtain ⟨hp, g, dr, tk, os⟩ := s1
    refine wpAny_call (PySem.NoX.no_made T X1 G1 B1 hlim (by have := hr.dp; omega) fun h' tk' e d M => ?_)
    show MkP X pins σ Q (.ref e) ⟨h', g, dr, tk', os⟩
    obtain ⟨oe, fv, hoe, hc, hd, hdat, h1⟩ := M.obj
    have hns := M.ns
    obtain ⟨G', g1, g2⟩ := restrict h' fun b => decide (b ≠ e)
    have gk : ∀ b, b ≠ e → G'.get? b = h'.get? b := fun b hb => g1 b (decide_eq_true hb)
    have ge : G'.get? e = none := g2 e (by simp)
    have old : ∀ b o, hp.get? b = some o → G'.get? b = some o := fun b o q => (gk b (Nat.ne_of_lt (Nat.lt_of_lt_of_le (Heap.lt_size q) M.new))).trans (M.keep b o q)
    have ob : ObjOk X.prog X.w (upd H1 d (.xd [(("name" : Str), v)])) G' d (.xd [(("name" : Str), v)]) :=
      ⟨_, hns.at (fun o q => (gk d M.dne).trans q), fun f => relO_no rv f⟩
    have J : Inv X pins σ (upd H1 d (.xd [(("name" : Str), v)])) ⟨G', g, dr, tk', os⟩ := I1.laid (t' := tk') old M.dbig ob
    refine ⟨e, oe, fv, ⟨G', g, dr, tk', os⟩, _, .ref C, some d, rfl, J, fun b o q => ?_, ge, hoe, ⟨hc, hd⟩, hdat, h1, ?_, rfl, I1.bare, raises_own T.exC T.tyC, q1 d (I1.hok.fresh M.dbig)⟩
    · by_cases hb : b = e
      · have q' : G'.get? b = some o := q
        rw [hb, ge] at q'; cases q'
      · exact (gk b hb).symm.trans q
    · rw [upd_ne (Ne.symm M.dne)]
      exact I1.hok.fresh M.new
/-- raise NoName(e) -/
def tRaiseNo (C : Addr) (W : WX) (ta : TA) : TS := fun _ σ H => tMkNo C ta σ H fun cls d H' => W cls d σ H'
theorem ps_raiseNo {a : Expr} {ta : TA} {W : WX} {p pos pos2 : Pos} {k : Nat} (hc : X.calm = true) (T : PySem.NoX.NoTxt X.prog X.K X.mg C fI) (hr : Room k X.A) (tk : Takes X W) (ha : PA X [a] ta) (hg : Gl X "NoName" := by rfl)
    (he : starEach (a :: []) X.env = (false, eval a X.env) :: starEach [] X.env := by rfl) (hpl : (backTo pos (starEach [] X.env)).any (·.1) = false := by rfl) :
    PS X (.Raise (some (.Call (.Name "NoName" p) [a] [] pos)) none pos2) (tRaiseNo C W ta) := ps_raise hc tk (pmk_no T hr ha hg he hpl)
/-- e.name, e the exception that the suite holds (at a; its class cls, its dict d) -/
def tByNo (C : Addr) (a : Addr) (cls : Value) (d : Option Addr) (te : TE) : TE := fun σ H Q => te σ H fun x H1 => x = .ref a ∧ cls = .ref C ∧ ∃ (dd : Addr) (v : V), d = some dd ∧ H1 dd = some (.xd [(("name" : Str), v)]) ∧ Q v H1
theorem pe_byNo {P : Program} {a : Addr} {oe : Obj} {cls : Value} {d : Option Addr} {pn : List (Addr × Obj)} {e : Expr} {te : TE} {pos : Pos} (T : PySem.NoX.NoTxt P X.K X.mg C fI) (hz : Zc cls d oe) (hf : ∃ vs, oe.data = .fields vs) (he : PE (X.suite a ((a, oe) :: pn)) e te)
    (hb : attributeBase e "name" X.env (eval e X.env) = eval e X.env := by rfl) :
    PE (X.suite a ((a, oe) :: pn)) (.Attribute e "name" pos) (tByNo C a cls d te) := by
  refine ⟨fun pins s σ H Q I h => ?_⟩
  refine attr_of hb (thn (he.run pins s σ H _ I h) fun u s1 hh => ?_)
  obtain ⟨x, H1, I1, rx, ex, ec, dd, v, ed, ea, q⟩ := hh
  subst ex
  obtain rfl : u = Value.ref a := rx
  subst ec
  subst ed
  obtain ⟨ha, _⟩ := I1.pin (a, oe) (List.mem_append_left _ List.mem_cons_self)
  obtain ⟨vs, hd⟩ := hf
  have hx : ObjOk X.prog X.w H1 s1.heap dd (.xd [(("name" : Str), v)]) := I1.hok dd _ ea
  obtain ⟨mA, hns, hr⟩ := hx
  obtain ⟨od, ho, hl⟩ := lookIn_ns hns
  have l : List.lookup ("name" : Str) [(("name" : Str), v)] = some v := by simp [List.lookup]
  obtain ⟨u, hu, ru⟩ := RelO.some_of (v := v) (o := mA "name") (by rw [← l]; exact hr "name")
  have J : PySem.W.InstAt s1.heap a oe C (some od) := ⟨ha, hz.1, by unfold PySem.W.notCls; rw [hd] <;> rfl, by rw [hz.2]; exact ho⟩
  exact HandSPX.exc_get I1.kIn J T.ga T.gg T.exC (PySem.W.findObj_own T.hdC T.noN rfl (by rw [hl, hu])) (handed_of ru) ⟨v, H1, I1.tok _, ru, q⟩
end
end L2

namespace L2
open PySem PySem.Spec PyProof.Rows
/-- what == of two dicts tells, by their data -/
def eqHits (ld : List (Key × PyData)) : List (Key × PyData) → Bool
  | [] => true
  | (k, d) :: r => match (ld.find? fun kv => decide (kv.1 = k)).map (·.2) with
    | none => false
    | some e => PyData.eqv d e && eqHits ld r
/-- a dict's values by their data -/
def DPairs (K : PySem.W.Frag) (H : Hp) : List (Key × V) → List (Key × PyData) → Prop := Paired fun p q => p.1 = q.1 ∧ Dp K H p.2 q.2 ∧ SeqAt.shaped q.2 = true
theorem DPairs.val {K : PySem.W.Frag} {H : Hp} {ls : List (Key × V)} {ld : List (Key × PyData)} (r : DPairs K H ls ld) (k : Key) :
    (valV ls k = none ∧ (ld.find? fun kv => decide (kv.1 = k)).map (·.2) = none) ∨ ∃ v e, valV ls k = some v ∧ (ld.find? fun kv => decide (kv.1 = k)).map (·.2) = some e ∧ Dp K H v e ∧ SeqAt.shaped e = true := by
  unfold DPairs at r
  unfold valV
  induction r with
  | nil => exact .inl ⟨rfl, rfl⟩
  | @cons p q ps qs h t ih =>
    obtain ⟨h1, h2, h3⟩ := h
    rw [List.find?_cons, List.find?_cons, ← h1]
    by_cases e : p.1 = k
    · rw [decide_eq_true e]
      exact .inr ⟨p.2, q.2, rfl, rfl, h2, h3⟩
    · rw [decide_eq_false e]
      exact ih
section
variable {X : Cx} {pins : List (Addr × Obj)} {σ : St} {H : Hp} {s : Shared}
theorem hits_of (I : Inv X pins σ H s) {A : Around} (hu : A.in1.units + 64 < cLine) {ls : List (Key × V)} {ld : List (Key × PyData)} (rl : DPairs X.K H ls ld) {vb : List (Key × Value)} (rb : KV ls vb) {ks : List (Key × V)} {kd : List (Key × PyData)} (rk : DPairs X.K H ks kd) :
    ∀ {va : List (Key × Value)}, KV ks va → PySem.W.KeqHits A.in1 s vb va (eqHits ld kd) := by
  unfold DPairs at rk
  induction rk with
  | nil =>
    intro va ra
    cases ra
    exact .nil
  | @cons p q ps qs h t ih =>
    intro va ra
    cases ra with
    | @cons _ u _ us r1 r2 =>
      obtain ⟨key, v⟩ := u
      obtain ⟨pk, pv'⟩ := p
      obtain ⟨qk, qd⟩ := q
      obtain ⟨h1, h2, h3⟩ := h
      obtain ⟨e1, rv⟩ := r1
      dsimp only at h1 h2 h3 e1 rv
      subst h1
      subst e1
      have rr := rb.val pk
      show PySem.W.KeqHits A.in1 s vb ((pk, v) :: us) (match (ld.find? fun kv => decide (kv.1 = pk)).map (·.2) with
        | none => false
        | some e => PyData.eqv qd e && eqHits ld qs)
      rcases rl.val pk with ⟨n1, n2⟩ | ⟨y, e, s1, s2, s3, s4⟩
      · rw [n2]
        rw [n1] at rr
        refine .miss ?_
        cases hz : valueAt vb pk with
        | none => rfl
        | some z =>
          rw [hz] at rr
          exact rr.elim
      · rw [s2]
        rw [s1] at rr
        obtain ⟨yu, hy, ry⟩ := rr.some_of
        obtain ⟨as, q1⟩ := Dp.reads I qd pv' v h2 rv
        obtain ⟨bs, q2⟩ := Dp.reads I e y yu s3 ry
        exact .hit hy (PySem.W.keq_at q1 q2 h3 s4 hu) (ih r2)
end
section
variable {X : Cx}
/-- a == b of two dicts of data -/
def rEqDD (K : PySem.W.Frag) : R2 := fun x y H Q => ∃ a b ks ls kd ld, x = .ref a ∧ y = .ref b ∧ H a = some (.dK ks) ∧ H b = some (.dK ls) ∧ DPairs K H ks kd ∧ DPairs K H ls ld ∧ Q (.bl (kd.length == ld.length && eqHits ld kd)) H
theorem op_eqDD (hu : X.A.units + 70 < cLine) : OpR X (compareOp .Eq) (rEqDD X.K) := by
  intro pins s σ H x y v u Q I rx ry h
  obtain ⟨a, b, ks, ls, kd, ld, rfl, rfl, ha, hb, dk, dl, q⟩ := h
  cases rx
  cases ry
  obtain ⟨_, ya, va, ra, da⟩ := (show ObjOk X.prog X.w H s.heap a (.dK ks) from I.hok a _ ha)
  obtain ⟨_, yb, vb, rb, db⟩ := (show ObjOk X.prog X.w H s.heap b (.dK ls) from I.hok b _ hb)
  show wpAny (model X.prog X.w) X.A (richCompare .Eq (.ref a) (.ref b)) (EP X pins σ Q) X.xe s
  refine PySem.W.keq_eq (knd := mixKind X.prog X.w) (r := eqHits ld kd) ya yb da db (by omega) (fun _ => hits_of I (by show X.A.units + 1 + 64 < cLine; omega) dl rb dk ra) ?_
  have e1 : va.length = kd.length := by rw [← ra.length]; exact Paired.length dk
  have e2 : vb.length = ld.length := by rw [← rb.length]; exact Paired.length dl
  rw [e1, e2]
  exact ⟨.bl _, H, I, rfl, q⟩
/-- what stands right of an own == -/
inductive TyE (H : Hp) : V → Value → Prop where
  | ins {b C dy : Addr} {gs : List (Str × V)} (h : H b = some (.ins C dy gs)) : TyE H (.ref b) (.ref C)
  | lst {b : Addr} {xs : List V} (h : H b = some (.lst xs)) : TyE H (.ref b) (.type "list")
  | dct {b : Addr} {kvs : List (Key × V)} (h : H b = some (.dK kvs)) : TyE H (.ref b) (.type "dict")
theorem looks_obj {M : Model} {h : Heap} {a : Addr} {o : Obj} (e : h.get? a = some o) : PySem.W.Looks M h (typeOf (.ref a)) o.cls := (PySem.W.Looks.ld e).andThen .now
/-- x == y, x an instance of the class at C with its own == -/
def rOwnEq (K : PySem.W.Frag) (C : Addr) (sp : Sp) : R2 := fun x y H Q => ∃ a dx fs tb, x = .ref a ∧ H a = some (.ins C dx fs) ∧ TyE H y tb ∧ PySem.W.notFirst K C tb = true ∧ sp [x, y] H (fun v H' => ∃ b, v = .bl b ∧ Q v H') (fun _ _ _ => False)
theorem op_ownEq {CX : CXT} {n : Nat} {C f : Addr} {fd : FuncData} {ps : List Str} {sp : Sp} (F : FnOk X.prog X.w X.K X.mg X.base CX n f fd ps sp) (hr : Room n X.A)
    (hs : PySem.W.findIn X.K (.ref C) "__eq__" = some (some (.ref f))) (hf : PySem.W.isFn X.K (.ref f) = true) (hb : Binds X.K fd ps []) (hx : Passes CX X (fun _ _ _ => False)) : OpR X (compareOp .Eq) (rOwnEq X.K C sp) := by
  intro pins s σ H x y u v Q I rx ry h
  obtain ⟨a, dx, fs, tb, rfl, ha, ty, nf, hsp⟩ := h
  cases rx
  obtain ⟨mA, J, _⟩ := ins_get I.hok ha
  obtain ⟨od, J, _⟩ := J.look
  obtain ⟨m, hF⟩ := I.fr
  have hty : PySem.W.Looks (model X.prog X.w) s.heap (typeOf v) tb := by
    cases ty with
    | @ins b C dy gs hb' =>
      cases ry
      obtain ⟨mB, J', _⟩ := ins_get I.hok hb'
      obtain ⟨od', J', _⟩ := J'.look
      exact J'.type
    | @lst b xs e =>
      cases ry
      obtain ⟨_, _, n, _, h1⟩ := (show ObjOk X.prog X.w H s.heap b (.lst xs) from I.hok b _ e)
      exact looks_obj h1
    | @dct b kvs e =>
      cases ry
      obtain ⟨_, _, vs, _, o, es, ep, h1, h2, _⟩ := (show ObjOk X.prog X.w H s.heap b (.dK kvs) from I.hok b _ e)
      rw [← h2.1]
      exact looks_obj h1
  show wpAny (model X.prog X.w) X.A (richCompare .Eq (.ref a) v) (EP X pins σ Q) X.xe s
  refine PySem.W.cmp_K (op := .Eq) (tb := tb) hr.units0 hF I.ok.mod.kin J hty nf hs hf ?_
  have hl := F.len _ _ _ _ hsp
  have r2 : Vals [V.ref a, y] [Value.ref a, v] := .cons rfl (.cons ry .nil)
  refine wpAny_call (codeAny_mono (F.run X.A X.stack s H ⟨[.ref a, v], []⟩ [.ref a, v] [.ref a, y] _ _ hr I.env0 (by
    have := hb s [.ref a, v] I.kIn (by simpa using hl)
    simpa using this) r2 hsp) fun r s' hq => ?_)
  cases r with
  | error e => exact hx pins σ H s e s' I hq
  | ok fl =>
    cases fl with
    | ret w =>
      obtain ⟨z, H', I', rz, b, ez, ex⟩ := I.after hq
      subst ez
      cases rz
      exact ⟨.bl b, H', I', rfl, ex⟩
    | next => exact False.elim hq
    | brk => exact False.elim hq
    | cont => exact False.elim hq
/-- a walk over a list or a tuple -/
def iLT (wa wb : TI) : TI := fun σ H R => wa σ H R ∨ wb σ H R
theorem pi_or {tg it : Expr} {wa wb : TI} (ha : PI X tg it wa) (hb : PI X tg it wb) : PI X tg it (iLT wa wb) :=
  ⟨fun pins s σ H R I h => h.elim (ha.run pins s σ H R I) (hb.run pins s σ H R I)⟩
end
end L2

namespace K81
open PySem L2
/-! ### the text by places -/
def top (i : Nat) : Stmt := PySem.Challenge.pw_optwright_k81_names.main.body.getD i (.Pass ⟨0, 0, 0, 0⟩)
abbrev sCop : Stmt := top 4
abbrev sInit : Stmt := inClass (top 6) 0
abbrev sGet : Stmt := inClass (top 6) 1
abbrev sPut : Stmt := inClass (top 6) 2
abbrev sHas : Stmt := inClass (top 6) 3
abbrev sEnt : Stmt := inClass (top 6) 4
abbrev sEq : Stmt := inClass (top 6) 5
abbrev sLcop : Stmt := top 8
abbrev sDraw : Stmt := top 9
abbrev sStart : Stmt := top 10
abbrev sPick : Stmt := top 11
abbrev sSame : Stmt := top 12
abbrev sGot : Stmt := top 13
abbrev sVal : Stmt := top 14
abbrev sEqr : Stmt := top 15
abbrev sSpoil : Stmt := top 16
abbrev sLaw : Stmt := top 17
/-! ### cut: a statement, then the rest, with a word between them -/
def tMid (t u : TS) : TS := fun D σ H => ∃ M : St → Hp → Prop, t { D with nx := M } σ H ∧ ∀ σ' H', M σ' H' → u D σ' H'
theorem pss_mid {X : Cx} {st : Stmt} {rest : List Stmt} {t u : TS} (h1 : PS X st t) (h2 : PSs X rest u) : PSs X (st :: rest) (tMid t u) := by
  refine ⟨fun pins s σ H D I h => ?_⟩
  rcases h with ⟨M, hm, hu⟩
  refine wpAny_execs_cons (thn (h1.run pins s σ H _ I hm) fun fl s1 q => ?_)
  cases fl <;> first
    | exact q
    | (obtain ⟨σ1, H1, I1, q1⟩ := q
       exact h2.run pins s1 σ1 H1 D I1 (hu σ1 H1 q1))
/-! ### the stream -/
/-- a stream of draws at st, its cells at cl, n draws made -/
structure Strm (H : Hp) (st cl : Addr) (n : Nat) : Prop where
  ex : ∃ (c a : Int) (ns : List Int), H st = some (.lst [.ref cl, .int c, .int (n : Int), .int a]) ∧ H cl = some (.lst (ns.map V.int)) ∧ 0 ≤ a ∧ a < 2147483647 ∧ 0 ≤ c
/-- all but what stands at two places is kept -/
def Kp2 (a b : Addr) (H H' : Hp) : Prop := ∀ q o, H q = some o → q ≠ a → q ≠ b → H' q = some o
theorem Strm.ne {H : Hp} {st cl : Addr} {n : Nat} (S : Strm H st cl n) : st ≠ cl := by
  obtain ⟨c, a, ns, h1, h2, _⟩ := S.ex
  refine ne_of h1 h2 fun e => ?_
  have e2 : [V.ref cl, .int c, .int (n : Int), .int a] = ns.map V.int := HO.lst.inj e
  cases ns with
  | nil => cases e2
  | cons x xs => cases (List.cons.inj e2).1
def SAt (H : Hp) (st cl : Addr) (c : Int) (n : Nat) (a : Int) (ns : List Int) : Prop := H st = some (.lst [.ref cl, .int c, .int (n : Int), .int a]) ∧ H cl = some (.lst (ns.map V.int)) ∧ 0 ≤ a ∧ a < 2147483647 ∧ 0 ≤ c
theorem fmod_lo {i j : Int} (h : 0 < j) : 0 ≤ i.fmod j := by
  rw [Int.fmod_eq_emod_of_nonneg _ (by omega)]
  exact Int.emod_nonneg _ (by omega)
theorem fmod_hi {i j : Int} (h : 0 < j) : i.fmod j < j := by
  rw [Int.fmod_eq_emod_of_nonneg _ (by omega)]
  exact Int.emod_lt_of_pos _ h
theorem fdiv_nn {i j : Int} (h : 0 ≤ i) (hj : 0 < j) : 0 ≤ i.fdiv j := by
  rw [Int.fdiv_eq_ediv_of_nonneg _ (by omega)]
  exact Int.ediv_nonneg h (by omega)
theorem seq0 {α : Type} (x : α) (xs : List α) : seqIndex? 0 (x :: xs).length = some 0 := by
  unfold seqIndex?
  simp
def spDraw : Sp := fun vs H Q _ => ∃ (st cl : Addr) (n : Nat) (m : Int), vs = [.ref st, .int m] ∧ Strm H st cl n ∧ 0 < m ∧ m < 1000000 ∧ n ≤ 100000 ∧
  ∀ (k : Int) (H' : Hp), 0 ≤ k → k < m → Strm H' st cl (n + 1) → Kp2 st cl H H' → Q (.int k) H'
/-- names of the top that the walk asks -/
structure TxtB (mg : Str → Option Value) : Prop where
  int : mg "int" = none
  list : mg "list" = none
  tuple : mg "tuple" = none
  len : mg "len" = none
  isinstance : mg "isinstance" = none
  dict : mg "dict" = none
  sorted : mg "sorted" = none
  all : mg "all" = none
  zip : mg "zip" = none
  range : mg "range" = none
  bool : mg "bool" = none
theorem shaped_ints (ns : List Int) : SeqAt.shaped (.list (ns.map PyData.int)) = true := PySem.W.shaped_ints ns
theorem dpAll_ints {K : PySem.W.Frag} {H : Hp} : ∀ ns : List Int, DpAll K H (ns.map V.int) (ns.map PyData.int)
  | [] => .nil
  | n :: ns => .cons (.int n) (dpAll_ints ns)
section
variable {P : Program} {w : World} {K : PySem.W.Frag} {mg : Str → Option Value} {base : Heap}
theorem scDraw : FnScope ["_law_stream", "_law_many", "_law_digit", "_law_mixed"] ["_law_stream", "_law_many"] (defScope sDraw) := ⟨rfl, rfl, rfl, by decide +kernel, rfl, by decide +kernel, by decide +kernel⟩
theorem ok_draw {f : Addr} {fd : FuncData} (F : Fun K "_law_draw" "_law_draw" sDraw f fd) (T : TxtB mg) : FnOk P w K mg base CX0 1 f fd ["_law_stream", "_law_many"] spDraw := by
  refine F.ok scDraw (fun vs H Q E h => ?_) (fun cdv A outer s H vs Q E hr h => ?_)
  · obtain ⟨st, cl, n, m, rfl, _⟩ := h
    rfl
  · obtain ⟨st, cl, n, m, rfl, S, m0, m1, hn, k⟩ := h
    have ne := S.ne
    obtain ⟨c, a, ns, h1, h2, a0, a1, c0⟩ := S.ex
    have hu : (Cx.A (cxOf CX0 P w K mg base ["_law_stream", "_law_many", "_law_digit", "_law_mixed"] "_law_draw" (defScope sDraw) f cdv A outer s H E)).units + 64 < cLine := hr.units
    refine ⟨_, pss_mid (ps_asg (pe_op op_add (pe_ix ix_list (pv 0) pe_int (fun _ _ => rfl)) pe_int) (pg_sub (pv 0) pe_int set_list))
      (pss_mid (ps_if (PW.pt (pw_and (pt_cmpR op_eq (pe_ix ix_list (pv 0) pe_int (fun _ _ => rfl)) pe_int (nomark _)) (pw_and1 (pt_cmpR (op_neD hu) (pe_ix ix_list (pv 0) pe_int (fun _ _ => rfl)) (pe_lst pa_nil) (nomark _)))))
        (pss_mid (ps_asg (pe_bm PySem.F.plainAttrs_list PySem.F.slot_list_pop PySem.F.type_list_pop mt_popAt (pe_ix ix_list (pv 0) pe_int (fun _ _ => rfl)) (pa_cons pe_int pa_nil)) (pg_sub (pv 0) pe_int set_list))
          (pss_one (ps_if (pt_cmpR op_lt (pe_ix ix_list (pv 0) pe_int (fun _ _ => rfl)) (pe_op op_pow pe_int pe_int) (nomark _))
            (pss_mid (ps_asg (pe_op op_modN (pe_callTy call_int1 (by rfl) T.int (by decide +kernel) (pa_cons (pe_op op_add (pe_op op_add (pe_op op_mul (pe_ix ix_list (pv 0) pe_int (fun _ _ => rfl)) pe_int) (pe_ix ix_list (pv 0) pe_int (fun _ _ => rfl))) pe_int) pa_nil)) pe_int) (pg_sub (pv 0) pe_int set_list))
              (pss_one (ps_asg pe_int (pg_sub (pv 0) pe_int set_list)))) pss_nil))) pss_nil)
      (pss_cons (ps_if (pt_cmpR op_gt (pe_ix ix_list (pv 0) pe_int (fun _ _ => rfl)) pe_int (nomark _))
        (pss_cons (ps_set (i := 2) scDraw.nd rfl (Or.inl rfl) (pe_op op_modN (pe_callTy call_int1 (by rfl) T.int (by decide +kernel) (pa_cons (pe_ix ix_list (pv 0) pe_int (fun _ _ => rfl)) pa_nil)) (pv 1)))
          (pss_cons (ps_asg (pe_op op_fdivN (pe_ix ix_list (pv 0) pe_int (fun _ _ => rfl)) (pv 1)) (pg_sub (pv 0) pe_int set_list)) (pss_one (ps_ret (pv 2))))) pss_nil)
      (pss_cons (ps_set (i := 3) scDraw.nd rfl (Or.inl rfl) (pe_op op_modN (pe_op op_pow (pe_op op_add (pe_op op_add (pe_ix ix_list (pv 0) pe_int (fun _ _ => rfl)) (pe_op op_mul pe_int (pe_ix ix_list (pv 0) pe_int (fun _ _ => rfl)))) pe_int) pe_int) pe_int))
      (pss_one (ps_ret (pe_op op_modN (pe_op op_modN (pe_op op_pow (pe_op op_add (pe_op op_add (pe_op op_mul (pv 3) pe_int) (pe_op op_mul (pe_op op_mul pe_int (pe_ix ix_list (pv 0) pe_int (fun _ _ => rfl))) (pe_ix ix_list (pv 0) pe_int (fun _ _ => rfl)))) pe_int) pe_int) pe_int) (pv 1))))))), ?_⟩
    -- stream[2] = stream[2] + 1
    refine ⟨fun σ' H' => σ' = [some (.ref st), some (.int m), none, none] ∧ Kp2 st cl H H' ∧ SAt H' st cl c (n + 1) a ns, ?_, ?_⟩
    · refine ⟨_, rfl, st, _, _, _, rfl, rfl, SqL.of h1, rfl, _, _, rfl, rfl, _, rfl, st, _, _, 2, rfl, rfl, h1, rfl, rfl, ?_, upd_same, ?_, a0, a1, c0⟩
      · intro q o e n1 n2
        rw [upd_ne n1]
        exact e
      · rw [upd_ne ne.symm]
        exact h2
    rintro _ G ⟨rfl, gk, g1, g2, _, _, _⟩
    -- the cell
    refine ⟨fun σ' H' => σ' = [some (.ref st), some (.int m), none, none] ∧ Kp2 st cl H H' ∧ ∃ (c a : Int) (ns : List Int), SAt H' st cl c (n + 1) a ns, ?_, ?_⟩
    · refine ⟨_, rfl, st, _, _, _, rfl, rfl, SqL.of g1, rfl, rfl, _, rfl, ?_⟩
      refine ite2 (fun hc => ?_) (fun hc => ?_)
      · have c0' : c = 0 := by simpa using hc
        refine ⟨_, rfl, st, _, _, _, rfl, rfl, SqL.of g1, rfl, Nat.zero_le _, fun p hp => ?_⟩
        have np : st ≠ p := ne_of_none g1 hp
        have np2 : cl ≠ p := ne_of_none g2 hp
        have q1 : (upd G p (.lst [])) st = some (.lst [.ref cl, .int c, .int ((n + 1 : Nat) : Int), .int a]) := by rw [upd_ne np]; exact g1
        have q2 : (upd G p (.lst [])) cl = some (.lst (ns.map V.int)) := by rw [upd_ne np2]; exact g2
        have qk : Kp2 st cl H (upd G p (.lst [])) := fun q o e n1 n2 => by
          have e1 := gk q o e n1 n2
          rw [upd_ne (ne_of_none e1 hp)]
          exact e1
        refine ⟨_, _, .lst (SqL.of q2) (dpAll_ints ns), .lst (SqL.of upd_same) .nil, shaped_ints ns, by decide, _, rfl, ?_⟩
        cases ns with
        | nil => exact iteF ⟨rfl, qk, c, a, [], q1, q2, a0, a1, c0⟩
        | cons z zs =>
          refine iteT ?_
          generalize upd G p (.lst []) = G1 at q1 q2 qk
          -- stream[1] = stream[0].pop(0)
          refine ⟨fun σ' H' => σ' = [some (.ref st), some (.int m), none, none] ∧ Kp2 st cl H H' ∧ H' st = some (.lst [.ref cl, .int z, .int ((n + 1 : Nat) : Int), .int a]) ∧ H' cl = some (.lst (zs.map V.int)), ?_, ?_⟩
          · refine ⟨_, rfl, st, _, _, _, rfl, rfl, SqL.of q1, rfl, .inl ⟨rfl, _, SqL.of q2⟩, cl, _, 0, 0, .int z, rfl, rfl, q2, by decide, by decide, seq0 _ _, rfl, _, rfl, st, _, _, 1, rfl, rfl, (by rw [upd_ne ne]; exact q1), rfl, rfl, ?_, upd_same, ?_⟩
            · intro q o e n1 n2
              rw [upd_ne n1, upd_ne n2]
              exact qk q o e n1 n2
            · rw [upd_ne ne.symm, upd_same]
              rfl
          rintro _ G2 ⟨rfl, k2, u1, u2⟩
          refine ⟨_, rfl, st, _, _, _, rfl, rfl, SqL.of u1, rfl, _, _, rfl, rfl, ⟨by decide, by decide, by decide⟩, _, _, rfl, rfl, _, rfl, ?_⟩
          refine ite2 (fun hz => ?_) (fun hz => ?_)
          · refine ⟨fun σ' H' => σ' = [some (.ref st), some (.int m), none, none] ∧ Kp2 st cl H H' ∧ H' cl = some (.lst (zs.map V.int)) ∧ ∃ b, 0 ≤ b ∧ b < 2147483647 ∧ H' st = some (.lst [.ref cl, .int z, .int ((n + 1 : Nat) : Int), .int b]), ?_, ?_⟩
            · refine ⟨_, rfl, st, _, _, _, rfl, rfl, SqL.of u1, rfl, _, _, rfl, rfl, .inr ⟨by decide, by decide⟩, _, rfl, st, _, _, _, rfl, rfl, SqL.of u1, rfl, _, _, rfl, rfl, _, _, rfl, rfl, .inl ⟨_, rfl, _, _, rfl, rfl, (by show (2147483647 : Int) ≠ 0; decide), ?_⟩⟩
              refine ⟨_, rfl, st, _, _, 3, rfl, rfl, u1, rfl, rfl, ?_, ?_, _, ?_, ?_, upd_same⟩
              · intro q o e n1 n2
                rw [upd_ne n1]
                exact k2 q o e n1 n2
              · rw [upd_ne ne.symm]
                exact u2
              · exact fmod_lo (by decide)
              · exact fmod_hi (by decide)
            · rintro _ G3 ⟨rfl, k3, v2, b, b0, b1, v1⟩
              refine ⟨_, rfl, st, _, _, 1, rfl, rfl, v1, rfl, rfl, ?_, 0, b, zs, upd_same, ?_, b0, b1, Int.le_refl 0⟩
              · intro q o e n1 n2
                rw [upd_ne n1]
                exact k3 q o e n1 n2
              · rw [upd_ne ne.symm]
                exact v2
          · refine ⟨rfl, k2, z, a, zs, u1, u2, a0, a1, ?_⟩
            have hz' : ¬ z < (10 : Int) ^ (18 : Int).toNat := by simpa using hz
            have : (0 : Int) ≤ (10 : Int) ^ (18 : Int).toNat := by decide
            omega
      · exact iteF ⟨rfl, gk, c, a, ns, g1, g2, a0, a1, c0⟩
    rintro _ G2 ⟨rfl, kk, c, a, ns, h1, h2, a0, a1, c0⟩
    -- a digit
    refine ⟨_, rfl, st, _, _, _, rfl, rfl, SqL.of h1, rfl, _, _, rfl, rfl, _, rfl, ?_⟩
    refine ite2 (fun hc => ?_) (fun hc => ?_)
    · refine ⟨_, rfl, st, _, _, _, rfl, rfl, SqL.of h1, rfl, .inl ⟨_, rfl, _, rfl, _, _, rfl, rfl, (by show m ≠ 0; omega), ?_⟩⟩
      refine ⟨_, rfl, st, _, _, _, rfl, rfl, SqL.of h1, rfl, _, rfl, _, _, rfl, rfl, ⟨(by show m ≠ 0; omega), (by show m.natAbs < 1073741824; omega)⟩, _, rfl, st, _, _, 1, rfl, rfl, h1, rfl, ?_⟩
      refine ⟨_, rfl, k _ _ (fmod_lo m0) (fmod_hi m0) ⟨Int.fdiv c m, a, ns, upd_same, ?_, a0, a1, fdiv_nn c0 m0⟩ ?_⟩
      · rw [upd_ne ne.symm]
        exact h2
      · intro q o e n1 n2
        rw [upd_ne n1]
        exact kk q o e n1 n2
    -- mixed
    have nb : ((n + 1 : Nat) : Int) ≤ 100001 := by omega
    have n0 : (0 : Int) ≤ ((n + 1 : Nat) : Int) := by omega
    refine ⟨_, rfl, st, _, _, _, rfl, rfl, SqL.of h1, rfl, _, rfl, st, _, _, _, rfl, rfl, SqL.of h1, rfl, _, _, rfl, rfl, .inl ⟨by decide, by decide⟩, _, _, rfl, rfl, _, _, rfl, rfl, _, _, rfl, rfl, ⟨by decide, by decide, ?_⟩, _, _, rfl, rfl, (by show (2147483629 : Int) ≠ 0; decide), ?_⟩
    · show (a + 104729 * ((n + 1 : Nat) : Int) + 17).natAbs < 2 ^ 64
      omega
    have y0 : (0 : Int) ≤ ((a + 104729 * ((n + 1 : Nat) : Int) + 17) ^ (5 : Int).toNat).fmod 2147483629 := fmod_lo (by decide)
    have y1 : ((a + 104729 * ((n + 1 : Nat) : Int) + 17) ^ (5 : Int).toNat).fmod 2147483629 < 2147483629 := fmod_hi (by decide)
    -- the answer
    refine ⟨_, rfl, _, _, rfl, rfl, .inl ⟨?_, ?_⟩, _, rfl, st, _, _, _, rfl, rfl, SqL.of h1, rfl, _, _, rfl, rfl, .inl ⟨by decide, by decide⟩, _, rfl, st, _, _, _, rfl, rfl, SqL.of h1, rfl, _, _, rfl, rfl, .inl ⟨?_, ?_⟩, _, _, rfl, rfl, _, _, rfl, rfl, _, _, rfl, rfl, ⟨by decide, by decide, ?_⟩, _, _, rfl, rfl, (by show (1000000007 : Int) ≠ 0; decide), _, rfl, _, _, rfl, rfl, (by show m ≠ 0; omega), ?_⟩
    · show -(2 ^ 64) < ((a + 104729 * ((n + 1 : Nat) : Int) + 17) ^ (5 : Int).toNat).fmod 2147483629
      generalize ((a + 104729 * ((n + 1 : Nat) : Int) + 17) ^ (5 : Int).toNat).fmod 2147483629 = y at y0 y1 ⊢
      omega
    · show ((a + 104729 * ((n + 1 : Nat) : Int) + 17) ^ (5 : Int).toNat).fmod 2147483629 < 2 ^ 64
      generalize ((a + 104729 * ((n + 1 : Nat) : Int) + 17) ^ (5 : Int).toNat).fmod 2147483629 = y at y0 y1 ⊢
      omega
    · show -(2 ^ 64) < 40503 * ((n + 1 : Nat) : Int)
      omega
    · show 40503 * ((n + 1 : Nat) : Int) < 2 ^ 64
      omega
    · show (((a + 104729 * ((n + 1 : Nat) : Int) + 17) ^ (5 : Int).toNat).fmod 2147483629 * 48271 + 40503 * ((n + 1 : Nat) : Int) * ((n + 1 : Nat) : Int) + 13).natAbs < 2 ^ 64
      generalize ((a + 104729 * ((n + 1 : Nat) : Int) + 17) ^ (5 : Int).toNat).fmod 2147483629 = y at y0 y1 ⊢
      have e1 : 40503 * ((n + 1 : Nat) : Int) * ((n + 1 : Nat) : Int) ≤ 40503 * 100001 * 100001 :=
        Int.mul_le_mul (by omega) nb n0 (by omega)
      have e2 : 0 ≤ 40503 * ((n + 1 : Nat) : Int) * ((n + 1 : Nat) : Int) := Int.mul_nonneg (by omega) n0
      omega
    exact k _ _ (fmod_lo m0) (fmod_hi m0) ⟨c, a, ns, h1, h2, a0, a1, c0⟩ kk
end
end K81

namespace K81
open PySem L2
/-! ### data at addresses of its own -/
mutual
/-- v bears the data d, all its lists and tuples stand in N -/
inductive Dt (N : Hp) : V → PyData → Prop
  | non : Dt N .non .none
  | bl (b : Bool) : Dt N (.bl b) (.bool b)
  | int (i : Int) : Dt N (.int i) (.int i)
  | str (x : Str) : Dt N (.str x) (.str x)
  | lst {a : Addr} {xs : List V} {ds : List PyData} : N a = some (.lst xs) → DtAll N xs ds → Dt N (.ref a) (.list ds)
  | tup {a : Addr} {xs : List V} {ds : List PyData} : N a = some (.tup xs) → DtAll N xs ds → Dt N (.ref a) (.tuple ds)
inductive DtAll (N : Hp) : List V → List PyData → Prop
  | nil : DtAll N [] []
  | cons {v : V} {vs : List V} {d : PyData} {ds : List PyData} : Dt N v d → DtAll N vs ds → DtAll N (v :: vs) (d :: ds)
end
mutual
theorem Dt.mono {N M : Hp} (e : Same N M) : ∀ (d : PyData) (v : V), Dt N v d → Dt M v d
  | .none, _, h => by cases h; exact .non
  | .bool b, _, h => by cases h; exact .bl b
  | .int i, _, h => by cases h; exact .int i
  | .str x, _, h => by cases h; exact .str x
  | .list ds, _, h => by
    cases h with
    | lst h1 h2 => exact .lst (e _ _ h1) (DtAll.mono e ds _ h2)
  | .tuple ds, _, h => by
    cases h with
    | tup h1 h2 => exact .tup (e _ _ h1) (DtAll.mono e ds _ h2)
  | .dict _, _, h => by cases h
theorem DtAll.mono {N M : Hp} (e : Same N M) : ∀ (ds : List PyData) (vs : List V), DtAll N vs ds → DtAll M vs ds
  | [], _, h => by cases h; exact .nil
  | d :: ds, _, h => by
    cases h with
    | cons h1 h2 => exact .cons (Dt.mono e d _ h1) (DtAll.mono e ds _ h2)
end
mutual
theorem Dt.dp {K : PySem.W.Frag} {N : Hp} : ∀ (d : PyData) (v : V), Dt N v d → Dp K N v d
  | .none, _, h => by cases h; exact .non
  | .bool b, _, h => by cases h; exact .bl b
  | .int i, _, h => by cases h; exact .int i
  | .str x, _, h => by cases h; exact .str x
  | .list ds, _, h => by
    cases h with
    | lst h1 h2 => exact .lst (SqL.of h1) (DtAll.dp ds _ h2)
  | .tuple ds, _, h => by
    cases h with
    | tup h1 h2 => exact .tup (SqT.of h1) (DtAll.dp ds _ h2)
  | .dict _, _, h => by cases h
theorem DtAll.dp {K : PySem.W.Frag} {N : Hp} : ∀ (ds : List PyData) (vs : List V), DtAll N vs ds → DpAll K N vs ds
  | [], _, h => by cases h; exact .nil
  | d :: ds, _, h => by
    cases h with
    | cons h1 h2 => exact .cons (Dt.dp d _ h1) (DtAll.dp ds _ h2)
end
theorem DtAll.len {N : Hp} : ∀ {ds : List PyData} {vs : List V}, DtAll N vs ds → vs.length = ds.length
  | [], _, h => by cases h; rfl
  | d :: ds, _, h => by
    cases h with
    | cons h1 h2 => rw [List.length_cons, List.length_cons, DtAll.len h2]
theorem DtAll.get {N : Hp} : ∀ {ds : List PyData} {vs : List V} {i : Nat} {v : V}, DtAll N vs ds → vs[i]? = some v → ∃ d, ds[i]? = some d ∧ Dt N v d
  | [], _, i, v, h, e => by cases h; simp at e
  | d :: ds, _, i, v, h, e => by
    cases h with
    | cons h1 h2 =>
      cases i with
      | zero =>
        simp at e
        subst e
        exact ⟨d, rfl, h1⟩
      | succ i => exact DtAll.get (i := i) h2 (by simpa using e)
theorem DtAll.snoc {N : Hp} : ∀ {ds : List PyData} {vs : List V} {d : PyData} {v : V}, DtAll N vs ds → Dt N v d → DtAll N (vs ++ [v]) (ds ++ [d])
  | [], _, d, v, h, q => by cases h; exact .cons q .nil
  | _ :: ds, _, d, v, h, q => by
    cases h with
    | cons h1 h2 => exact .cons h1 (DtAll.snoc h2 q)
/-! ### heaps apart -/
def emp : Hp := fun _ => none
/-- N stands in H', and is new beside H -/
structure Fresh (H H' N : Hp) : Prop where
  sub : Same N H'
  new : ∀ b o, N b = some o → H b = none
theorem fresh_emp {H H' : Hp} : Fresh H H' emp := ⟨fun _ _ e => (nomatch e), fun _ _ e => (nomatch e)⟩
theorem Fresh.upd {H H' N : Hp} {p : Addr} {o : HO} (F : Fresh H H' N) (hp : H p = none) (h' : H' p = some o) : Fresh H H' (upd N p o) := by
  refine ⟨fun b u e => ?_, fun b u e => ?_⟩
  · by_cases hb : b = p
    · subst hb
      rw [upd_same] at e
      cases e
      exact h'
    · rw [upd_ne hb] at e
      exact F.sub b u e
  · by_cases hb : b = p
    · subst hb
      exact hp
    · rw [upd_ne hb] at e
      exact F.new b u e
def uni (N M : Hp) : Hp := fun b => match N b with
  | some o => some o
  | none => M b
theorem uni_l {N M : Hp} : Same N (uni N M) := fun b o e => by
  unfold uni
  rw [e]
theorem uni_r {N M : Hp} (d : ∀ b o, M b = some o → N b = none) : Same M (uni N M) := fun b o e => by
  unfold uni
  rw [d b o e]
  exact e
theorem uni_or {N M : Hp} {b : Addr} {o : HO} (e : uni N M b = some o) : N b = some o ∨ M b = some o := by
  unfold uni at e
  cases h : N b with
  | some u =>
    rw [h] at e
    exact .inl e
  | none =>
    rw [h] at e
    exact .inr e
theorem same_upd {H : Hp} {p : Addr} {o : HO} (h : H p = none) : Same H (upd H p o) := fun b u e => by
  rw [upd_ne (ne_of_none e h)]
  exact e
theorem same_upd2 {H H1 : Hp} {p : Addr} {o : HO} (x : Same H H1) (h : H1 p = none) : Same H (upd H1 p o) := L2.Same.trans x (same_upd h)
/-- what H does not track may change -/
theorem same_mut {H H1 : Hp} {p : Addr} {o : HO} (x : Same H H1) (h : H p = none) : Same H (upd H1 p o) := fun b u e => by
  rw [upd_ne (ne_of_none e h)]
  exact x b u e
theorem Kp2.same {a b : Addr} {H H' B : Hp} (k : Kp2 a b H H') (s : Same B H) (ha : B a = none) (hb : B b = none) : Same B H' := fun q o e =>
  k q o (s q o e) (ne_of_none e ha) (ne_of_none e hb)
theorem Strm.keep {H H' : Hp} {st cl : Addr} {n : Nat} (S : Strm H st cl n) (e : Same H H') : Strm H' st cl n := by
  obtain ⟨c, a, ns, h1, h2, h3⟩ := S.ex
  exact ⟨c, a, ns, e _ _ h1, e _ _ h2, h3⟩
theorem Kp2.of_same {a b : Addr} {H H' : Hp} (e : Same H H') : Kp2 a b H H' := fun q o h _ _ => e q o h
theorem Kp2.trans {a b : Addr} {H H1 H2 : Hp} (x : Kp2 a b H H1) (y : Kp2 a b H1 H2) : Kp2 a b H H2 := fun q o e n1 n2 => y q o (x q o e n1 n2) n1 n2
theorem Strm.st {H : Hp} {st cl : Addr} {n : Nat} (S : Strm H st cl n) : ∃ o, H st = some o := by
  obtain ⟨c, a, ns, h1, _⟩ := S.ex
  exact ⟨_, h1⟩
theorem Strm.cl {H : Hp} {st cl : Addr} {n : Nat} (S : Strm H st cl n) : ∃ o, H cl = some o := by
  obtain ⟨c, a, ns, _, h2, _⟩ := S.ex
  exact ⟨_, h2⟩
/-! ### start, pick -/
def spStart (K : PySem.W.Frag) : Sp := fun vs H Q _ => ∃ (a : Addr) (ns : List Int), vs = [.ref a] ∧ SqL K H a (ns.map V.int) ∧ ∀ (st cl : Addr) (H' : Hp), H st = none → H cl = none → Same H H' → Strm H' st cl 0 → Q (.ref st) H'
def spPick : Sp := fun vs H Q _ => ∃ (st cl : Addr) (n : Nat) (a : Addr) (xs : List V), vs = [.ref st, .ref a] ∧ Strm H st cl n ∧ H a = some (.lst xs) ∧ a ≠ st ∧ a ≠ cl ∧ xs ≠ [] ∧ xs.length < 1000 ∧ n ≤ 100000 ∧
  ∀ (x : V) (H' : Hp), x ∈ xs → Strm H' st cl (n + 1) → Kp2 st cl H H' → Q x H'
section
variable {P : Program} {w : World} {K : PySem.W.Frag} {mg : Str → Option Value} {base : Heap}
theorem scStart : FnScope ["_law_script"] ["_law_script"] (defScope sStart) := ⟨rfl, rfl, rfl, by decide +kernel, rfl, by decide +kernel, by decide +kernel⟩
theorem ok_start {f : Addr} {fd : FuncData} (F : Fun K "_law_start" "_law_start" sStart f fd) (T : TxtB mg) : FnOk P w K mg base CX0 1 f fd ["_law_script"] (spStart K) := by
  refine F.ok scStart (fun vs H Q E h => ?_) (fun cdv A outer s H vs Q E hr h => ?_)
  · obtain ⟨a, ns, rfl, _⟩ := h
    rfl
  · obtain ⟨a, ns, rfl, hS, k⟩ := h
    refine ⟨_, pss_one (ps_ret (pe_lst (pa_cons (pe_callTy call_list_of (by rfl) T.list (by decide +kernel) (pa_cons (pv 0) pa_nil)) (pa_cons pe_int (pa_cons pe_int (pa_cons pe_int pa_nil)))))), ?_⟩
    refine ⟨_, rfl, a, _, rfl, .inl hS, fun cl hc => ⟨(by show 4 ≤ sizeLine; decide), fun st hs => ?_⟩⟩
    have nc : cl ≠ st := ne_of_none upd_same hs
    have hs0 : H st = none := by
      rw [upd_ne nc.symm] at hs
      exact hs
    exact k st cl _ hs0 hc (same_upd2 (same_upd hc) hs) ⟨0, 0, ns, upd_same, by rw [upd_ne nc, upd_same], by decide, by decide, by decide⟩
theorem scPick : FnScope ["_law_stream", "_law_some"] ["_law_stream", "_law_some"] (defScope sPick) := ⟨rfl, rfl, rfl, by decide +kernel, rfl, by decide +kernel, by decide +kernel⟩
theorem ok_pick {f fD : Addr} {fd fdD : FuncData} (F : Fun K "_law_pick" "_law_pick" sPick f fd) (T : TxtB mg) (G : FnOk P w K mg base CX0 1 fD fdD ["_law_stream", "_law_many"] spDraw) (mD : mg "_law_draw" = some (.ref fD)) (kD : PySem.W.keepIn K (.ref fD) = true) (bD : Binds K fdD ["_law_stream", "_law_many"] []) :
    FnOk P w K mg base CX0 2 f fd ["_law_stream", "_law_some"] spPick := by
  refine F.ok scPick (fun vs H Q E h => ?_) (fun cdv A outer s H vs Q E hr h => ?_)
  · obtain ⟨st, cl, n, a, xs, rfl, _⟩ := h
    rfl
  · obtain ⟨st, cl, n, a, xs, rfl, S, ha, n1, n2, x0, xl, hn, k⟩ := h
    refine ⟨_, pss_one (ps_ret (pe_ix ix_list (pv 1) (pe_call G hr rfl mD kD bD .nil pass0 (pa_cons (pv 0) (pa_cons (pe_callB call_len_seq (by rfl) T.len PySem.boot_len (pa_cons (pv 1) pa_nil)) pa_nil))) (fun _ _ => rfl))), ?_⟩
    have hx : 0 < xs.length := List.length_pos_iff.mpr x0
    refine ⟨_, rfl, _, rfl, _, rfl, a, xs, rfl, .inl (SqL.of ha), st, cl, n, (xs.length : Int), rfl, S, by omega, by omega, hn, fun j H' j0 j1 S' kk => ?_⟩
    have hj : j.toNat < xs.length := by omega
    have ej : ((j.toNat : Nat) : Int) = j := by omega
    refine ⟨a, xs, j, xs[j.toNat], rfl, rfl, SqL.of (kk _ _ ha n1 n2), ?_, k _ _ (List.getElem_mem hj) S' kk⟩
    have q := atI_nat (xs := xs) (j := j.toNat) (List.getElem?_eq_getElem hj)
    rw [ej] at q
    exact q
end
end K81

namespace K81
open PySem L2
/-- the nine values -/
def menu : List PyData := [.none, .int 5, .str "t", .list [.str "l", .list [.int 1]], .bool true, .tuple [], .int (-1), .tuple [.list [.str "l"], .int 1], .int 1]
def spVal : Sp := fun vs H Q _ => ∃ (st cl : Addr) (n : Nat), vs = [.ref st] ∧ Strm H st cl n ∧ n ≤ 100000 ∧
  ∀ (v : V) (d : PyData) (N H' : Hp), d ∈ menu → Dt N v d → Fresh H H' N → Strm H' st cl (n + 1) → Kp2 st cl H H' → Q v H'
section
variable {P : Program} {w : World} {K : PySem.W.Frag} {mg : Str → Option Value} {base : Heap}
theorem scVal : FnScope ["_law_stream"] ["_law_stream"] (defScope sVal) := ⟨rfl, rfl, rfl, by decide +kernel, rfl, by decide +kernel, by decide +kernel⟩
theorem ok_val {f fP : Addr} {fd fdP : FuncData} (F : Fun K "_law_value" "_law_value" sVal f fd) (G : FnOk P w K mg base CX0 2 fP fdP ["_law_stream", "_law_some"] spPick) (mP : mg "_law_pick" = some (.ref fP)) (kP : PySem.W.keepIn K (.ref fP) = true) (bP : Binds K fdP ["_law_stream", "_law_some"] []) :
    FnOk P w K mg base CX0 3 f fd ["_law_stream"] spVal := by
  refine F.ok scVal (fun vs H Q E h => ?_) (fun cdv A outer s H vs Q E hr h => ?_)
  · obtain ⟨st, cl, n, rfl, _⟩ := h
    rfl
  · obtain ⟨st, cl, n, rfl, S, hn, k⟩ := h
    refine ⟨_, pss_one (ps_ret (pe_call G hr rfl mP kP bP .nil pass0 (pa_cons (pv 0) (pa_cons (pe_lst (pa_cons pe_non (pa_cons pe_int (pa_cons pe_str
      (pa_cons (pe_lst (pa_cons pe_str (pa_cons (pe_lst (pa_cons pe_int pa_nil)) pa_nil)))
      (pa_cons pe_bl (pa_cons (pe_tup pa_nil) (pa_cons (pe_un un_neg pe_int)
      (pa_cons (pe_tup (pa_cons (pe_lst (pa_cons pe_str pa_nil)) (pa_cons pe_int pa_nil))) (pa_cons pe_int pa_nil)))))))))) pa_nil)))), ?_⟩
    have z1 : (1 : Nat) ≤ sizeLine := by decide
    have z2 : (2 : Nat) ≤ sizeLine := by decide
    refine ⟨_, rfl, z1, fun p1 h1 => ⟨z2, fun p2 h2 => ⟨Nat.zero_le _, fun p3 h3 => ⟨_, rfl, z1, fun p4 h4 => ⟨z2, fun p5 h5 => ⟨(by show (9 : Nat) ≤ sizeLine; decide), fun p6 h6 => ?_⟩⟩⟩⟩⟩⟩
    have s1 : Same H (upd H p1 (.lst [.int 1])) := same_upd h1
    have s2 := same_upd2 s1 h2 (o := .lst [.str "l", .ref p1])
    have s3 := same_upd2 s2 h3 (o := .tup [])
    have s4 := same_upd2 s3 h4 (o := .lst [.str "l"])
    have s5 := same_upd2 s4 h5 (o := .tup [.ref p4, .int 1])
    have s6 := same_upd2 s5 h6 (o := .lst [.non, .int 5, .str "t", .ref p2, .bl true, .ref p3, .int (-1), .ref p5, .int 1])
    have e2 : Same _ _ := same_upd h2 (o := .lst [.str "l", .ref p1])
    have e3 : Same _ _ := same_upd h3 (o := .tup [])
    have e4 : Same _ _ := same_upd h4 (o := .lst [.str "l"])
    have e5 : Same _ _ := same_upd h5 (o := .tup [.ref p4, .int 1])
    have e6 : Same _ _ := same_upd h6 (o := .lst [.non, .int 5, .str "t", .ref p2, .bl true, .ref p3, .int (-1), .ref p5, .int 1])
    have a1 := e6 _ _ (e5 _ _ (e4 _ _ (e3 _ _ (e2 _ _ (upd_same (H := H) (a := p1) (o := .lst [.int 1]))))))
    have a2 := e6 _ _ (e5 _ _ (e4 _ _ (e3 _ _ (upd_same (a := p2) (o := .lst [.str "l", .ref p1])))))
    have a3 := e6 _ _ (e5 _ _ (e4 _ _ (upd_same (a := p3) (o := .tup []))))
    have a4 := e6 _ _ (e5 _ _ (upd_same (a := p4) (o := .lst [.str "l"])))
    have a5 := e6 _ _ (upd_same (a := p5) (o := .tup [.ref p4, .int 1]))
    have a6 := upd_same (H := upd (upd (upd (upd (upd H p1 (.lst [.int 1])) p2 (.lst [.str "l", .ref p1])) p3 (.tup [])) p4 (.lst [.str "l"])) p5 (.tup [.ref p4, .int 1])) (a := p6) (o := .lst [.non, .int 5, .str "t", .ref p2, .bl true, .ref p3, .int (-1), .ref p5, .int 1])
    have f1 : H p1 = Option.none := h1
    have f2 : H p2 = Option.none := Same.free s1 h2
    have f3 : H p3 = Option.none := Same.free s2 h3
    have f4 : H p4 = Option.none := Same.free s3 h4
    have f5 : H p5 = Option.none := Same.free s4 h5
    have f6 : H p6 = Option.none := Same.free s5 h6
    have n12 : p1 ≠ p2 := ne_of_none upd_same h2
    have n45 : p4 ≠ p5 := ne_of_none upd_same h5
    clear e2 e3 e4 e5 e6 s1 s2 s3 s4 s5 h1 h2 h3 h4 h5 h6
    refine ⟨st, cl, n, p6, _, rfl, S.keep s6, a6, ?_, ?_, (fun z => by cases z), (by show 9 < 1000; decide), hn, fun x H' hx S' kk => ?_⟩
    · rintro rfl
      obtain ⟨o, ho⟩ := S.st
      rw [f6] at ho
      cases ho
    · rintro rfl
      obtain ⟨o, ho⟩ := S.cl
      rw [f6] at ho
      cases ho
    · generalize upd (upd (upd (upd (upd (upd H p1 (.lst [.int 1])) p2 (.lst [.str "l", .ref p1])) p3 (.tup [])) p4 (.lst [.str "l"])) p5 (.tup [.ref p4, .int 1])) p6 (.lst [.non, .int 5, .str "t", .ref p2, .bl true, .ref p3, .int (-1), .ref p5, .int 1]) = G at *
      have nst : ∀ {p : Addr}, H p = Option.none → p ≠ st := fun {p} z e => by
        obtain ⟨o, ho⟩ := S.st
        rw [← e, z] at ho
        cases ho
      have ncl : ∀ {p : Addr}, H p = Option.none → p ≠ cl := fun {p} z e => by
        obtain ⟨o, ho⟩ := S.cl
        rw [← e, z] at ho
        cases ho
      have kH : Kp2 st cl H H' := (Kp2.of_same s6).trans kk
      have b1 := kk _ _ a1 (nst f1) (ncl f1)
      have b2 := kk _ _ a2 (nst f2) (ncl f2)
      have b3 := kk _ _ a3 (nst f3) (ncl f3)
      have b4 := kk _ _ a4 (nst f4) (ncl f4)
      have b5 := kk _ _ a5 (nst f5) (ncl f5)
      rcases List.mem_cons.mp hx with rfl | hx
      · exact k _ .none emp H' (by simp [menu]) .non fresh_emp S' kH
      rcases List.mem_cons.mp hx with rfl | hx
      · exact k _ (.int 5) emp H' (by simp [menu]) (.int 5) fresh_emp S' kH
      rcases List.mem_cons.mp hx with rfl | hx
      · exact k _ (.str "t") emp H' (by simp [menu]) (.str _) fresh_emp S' kH
      rcases List.mem_cons.mp hx with rfl | hx
      · refine k _ (.list [.str "l", .list [.int 1]]) (upd (upd emp p1 (.lst [.int 1])) p2 (.lst [.str "l", .ref p1])) H' (by simp [menu]) ?_ ((fresh_emp.upd f1 b1).upd f2 b2) S' kH
        exact .lst upd_same (.cons (.str _) (.cons (.lst (by rw [upd_ne n12, upd_same]) (.cons (.int 1) .nil)) .nil))
      rcases List.mem_cons.mp hx with rfl | hx
      · exact k _ (.bool true) emp H' (by simp [menu]) (.bl true) fresh_emp S' kH
      rcases List.mem_cons.mp hx with rfl | hx
      · exact k _ (.tuple []) (upd emp p3 (.tup [])) H' (by simp [menu]) (.tup upd_same .nil) (fresh_emp.upd f3 b3) S' kH
      rcases List.mem_cons.mp hx with rfl | hx
      · exact k _ (.int (-1)) emp H' (by simp [menu]) (.int (-1)) fresh_emp S' kH
      rcases List.mem_cons.mp hx with rfl | hx
      · refine k _ (.tuple [.list [.str "l"], .int 1]) (upd (upd emp p4 (.lst [.str "l"])) p5 (.tup [.ref p4, .int 1])) H' (by simp [menu]) ?_ ((fresh_emp.upd f4 b4).upd f5 b5) S' kH
        exact .tup upd_same (.cons (.lst (by rw [upd_ne n45, upd_same]) (.cons (.str _) .nil)) (.cons (.int 1) .nil))
      rcases List.mem_cons.mp hx with rfl | hx
      · exact k _ (.int 1) emp H' (by simp [menu]) (.int 1) fresh_emp S' kH
      · cases hx
end
end K81

namespace K81
open PySem L2
/-! ### copied -/
mutual
def small : PyData → Bool
  | .list xs => decide (xs.length ≤ 1000) && smallAll xs
  | .tuple xs => decide (xs.length ≤ 1000) && smallAll xs
  | _ => true
def smallAll : List PyData → Bool
  | [] => true
  | x :: xs => small x && smallAll xs
end
theorem smallAll_get : ∀ {ds : List PyData} {i : Nat} {d : PyData}, smallAll ds = true → ds[i]? = some d → small d = true
  | [], i, d, _, e => by simp at e
  | x :: xs, i, d, h, e => by
    simp only [smallAll, Bool.and_eq_true] at h
    cases i with
    | zero =>
      simp at e
      subst e
      exact h.1
    | succ i => exact smallAll_get h.2 (by simpa using e)
theorem depthAll_get : ∀ {ds : List PyData} {i : Nat} {d : PyData}, ds[i]? = some d → PyData.depth d ≤ PyData.depthAll ds
  | [], i, d, e => by simp at e
  | x :: xs, i, d, e => by
    simp only [PyData.depthAll]
    cases i with
    | zero =>
      simp at e
      subst e
      omega
    | succ i =>
      have := depthAll_get (ds := xs) (i := i) (d := d) (by simpa using e)
      omega
/-- copied(v), v of nesting below m -/
def spCop : Nat → Sp
  | 0 => fun _ _ _ _ => False
  | m + 1 => fun vs H Q _ => ∃ (v : V) (d : PyData), vs = [v] ∧ Dt H v d ∧ PyData.depth d ≤ m ∧ small d = true ∧ ∀ (v' : V) (N H' : Hp), Same H H' → Fresh H H' N → Dt N v' d → Q v' H'
theorem cop_child {m : Nat} {ds : List PyData} {i : Nat} {d : PyData} (dep : PyData.depth (.list ds) ≤ m) (sz : small (.list ds) = true) (e : ds[i]? = some d) : PyData.depth d + 1 ≤ m ∧ small d = true := by
  simp only [small, Bool.and_eq_true] at sz
  have := depthAll_get e
  simp only [PyData.depth] at dep
  exact ⟨by omega, smallAll_get sz.2 e⟩
theorem cop_child' {m : Nat} {ds : List PyData} {i : Nat} {d : PyData} (dep : PyData.depth (.tuple ds) ≤ m) (sz : small (.tuple ds) = true) (e : ds[i]? = some d) : PyData.depth d + 1 ≤ m ∧ small d = true := by
  simp only [small, Bool.and_eq_true] at sz
  have := depthAll_get e
  simp only [PyData.depth] at dep
  exact ⟨by omega, smallAll_get sz.2 e⟩
theorem cop_size {ds : List PyData} (sz : small (.list ds) = true) : ds.length ≤ 1000 := by
  simp only [small, Bool.and_eq_true] at sz
  simpa using sz.1
theorem cop_size' {ds : List PyData} (sz : small (.tuple ds) = true) : ds.length ≤ 1000 := by
  simp only [small, Bool.and_eq_true] at sz
  simpa using sz.1
theorem sz_lt1 {n i : Nat} (e : n = i) (h : i < 1001) : n < sizeLine := by
  rw [e, PySem.sizeLine_eq]
  omega
/-- behind i items of a copying comprehension: at D the copies, whose parts stand in N -/
def CopI (H : Hp) (D : Addr) (ds : List PyData) (i : Nat) (H' : Hp) : Prop := Same H H' ∧ ∃ (ys : List V) (N : Hp), H' D = some (.lst ys) ∧ N D = none ∧ Fresh H H' N ∧ DtAll N ys (ds.take i)
theorem copI0 {H : Hp} {D : Addr} {ds : List PyData} (hD : H D = none) : CopI H D ds 0 (upd H D (.lst [])) := ⟨same_upd hD, [], emp, upd_same, rfl, fresh_emp, .nil⟩
theorem take_more' {α : Type} : ∀ {l : List α} {i : Nat} {x : α}, l[i]? = some x → l.take (i + 1) = l.take i ++ [x]
  | [], i, x, h => by simp at h
  | a :: l, 0, x, h => by
    have e : a = x := Option.some.inj h
    subst e
    rfl
  | a :: l, i + 1, x, h => by
    have ih := take_more' (l := l) (i := i) (x := x) h
    show a :: l.take (i + 1) = a :: l.take i ++ [x]
    rw [ih]
    rfl
theorem copI_step {H H' H2 N : Hp} {D : Addr} {ds : List PyData} {i : Nat} {dx : PyData} {v' : V} (hD : H D = none) (hdx : ds[i]? = some dx) (h : CopI H D ds i H') (e2 : Same H' H2) (F2 : Fresh H' H2 N) (t2 : Dt N v' dx) :
    ∃ (ys : List V) (N0 : Hp), H2 D = some (.lst ys) ∧ ys.length = i ∧ CopI H D ds (i + 1) (upd H2 D (.lst (ys ++ [v']))) := by
  obtain ⟨s1, ys, N0, hy, nD, F1, t1⟩ := h
  have hlen : i < ds.length := (List.getElem?_eq_some_iff.mp hdx).1
  have hl : ys.length = i := by
    rw [t1.len, List.length_take]
    omega
  have ap : ∀ b o, N b = some o → N0 b = none := fun b o e => by
    have z := F2.new b o e
    cases q : N0 b with
    | none => rfl
    | some u =>
      rw [F1.sub b u q] at z
      cases z
  have nND : N D = none := by
    cases q : N D with
    | none => rfl
    | some u =>
      have z := F2.new D u q
      rw [hy] at z
      cases z
  refine ⟨ys, N0, e2 _ _ hy, hl, same_mut (s1.trans e2) hD, ys ++ [v'], uni N0 N, upd_same, ?_, ⟨fun b o e => ?_, fun b o e => ?_⟩, ?_⟩
  · unfold uni
    rw [nD]
    exact nND
  · have hb : b ≠ D := fun z => by
      rw [z] at e
      rcases uni_or e with q | q
      · rw [nD] at q
        cases q
      · rw [nND] at q
        cases q
    rw [upd_ne hb]
    rcases uni_or e with q | q
    · exact e2 _ _ (F1.sub b o q)
    · exact F2.sub b o q
  · rcases uni_or e with q | q
    · exact F1.new b o q
    · exact Same.free s1 (F2.new b o q)
  · rw [take_more' hdx]
    exact (DtAll.mono uni_l _ _ t1).snoc (Dt.mono (uni_r ap) _ _ t2)
theorem copI_end {H H' : Hp} {D : Addr} {ds : List PyData} {n : Nat} (hn : n = ds.length) (h : CopI H D ds n H') : Same H H' ∧ ∃ (ys : List V) (N : Hp), H' D = some (.lst ys) ∧ N D = none ∧ Fresh H H' N ∧ DtAll N ys ds := by
  obtain ⟨s1, ys, N0, hy, nD, F1, t1⟩ := h
  rw [hn, List.take_length] at t1
  exact ⟨s1, ys, N0, hy, nD, F1, t1⟩
section
variable {P : Program} {w : World} {K : PySem.W.Frag} {mg : Str → Option Value} {base : Heap}

theorem scCop : FnScope ["value", "part"] ["value"] (defScope sCop) := ⟨rfl, rfl, rfl, by decide +kernel, rfl, by decide +kernel, by decide +kernel⟩
theorem stepCop {f : Addr} {fd : FuncData} {m : Nat} (F : Fun K "copied" "copied" sCop f fd) (T : TxtB mg) (G : FnOk P w K mg base CX0 (m + 1) f fd ["value"] (spCop m)) (mC : mg "copied" = some (.ref f)) (kC : PySem.W.keepIn K (.ref f) = true) (bC : Binds K fd ["value"] []) :
    FnOk P w K mg base CX0 (m + 2) f fd ["value"] (spCop (m + 1)) := by
  refine F.ok scCop (fun vs H Q E h => ?_) (fun cdv A outer s H vs Q E hr h => ?_)
  · obtain ⟨v, d, rfl, _⟩ := h
    rfl
  · obtain ⟨v, d, rfl, hd, dep, sz, k⟩ := h
    refine ⟨_, pss_cons (ps_if (pt_val (pe_callB call_isi (by rfl) T.isinstance (by decide +kernel) (pa_cons (pv 0) (pa_cons (pe_bltn (v := .ty "list") (by rfl) T.list (by decide +kernel) rfl) pa_nil))))
        (pss_one (ps_ret (pe_lc (own := [("part", 1)]) (g := gName 1) (tt := tYes) rfl scCop.nd (pi_list (pv 0)) (blkOk_by (N := ["value", "part"]) (sc := defScope sCop) (by decide +kernel)) (fun _ _ _ _ _ => pg_name (i := 1) scCop.nd rfl (Or.inl rfl)) (fun _ _ _ _ _ => pts_nil) (fun _ _ _ _ _ => pe_call G hr rfl mC kC bC .nil pass0 (pa_cons (pv 1) pa_nil))))) pss_nil)
      (pss_one (ps_ret (pe_ifExp (pt_val (pe_callB call_isi (by rfl) T.isinstance (by decide +kernel) (pa_cons (pv 0) (pa_cons (pe_bltn (v := .ty "tuple") (by rfl) T.tuple (by decide +kernel) rfl) pa_nil))))
        (pe_callTy call_tuple_of (by rfl) T.tuple (by decide +kernel) (pa_cons (pe_lc (own := [("part", 1)]) (g := gName 1) (tt := tYes) rfl scCop.nd (pi_tup (pv 0)) (blkOk_by (N := ["value", "part"]) (sc := defScope sCop) (by decide +kernel)) (fun _ _ _ _ _ => pg_name (i := 1) scCop.nd rfl (Or.inl rfl)) (fun _ _ _ _ _ => pts_nil) (fun _ _ _ _ _ => pe_call G hr rfl mC kC bC .nil pass0 (pa_cons (pv 1) pa_nil))) pa_nil))
        (pv 0)))), ?_⟩
    -- isinstance(value, list)
    cases hd with
    | non => exact ⟨_, rfl, _, .ty "list", _, _, false, rfl, .ty _, .base (.non), kit_ty (by decide +kernel), _, rfl, iteF ⟨_, rfl, _, .ty "tuple", _, _, false, rfl, .ty _, .base (.non), kit_ty (by decide +kernel), _, rfl, iteF ⟨_, rfl, k _ emp H (Same.refl H) fresh_emp (.non)⟩⟩⟩
    | bl b => exact ⟨_, rfl, _, .ty "list", _, _, false, rfl, .ty _, .base (.bl b), kit_ty (by decide +kernel), _, rfl, iteF ⟨_, rfl, _, .ty "tuple", _, _, false, rfl, .ty _, .base (.bl b), kit_ty (by decide +kernel), _, rfl, iteF ⟨_, rfl, k _ emp H (Same.refl H) fresh_emp (.bl b)⟩⟩⟩
    | int i => exact ⟨_, rfl, _, .ty "list", _, _, false, rfl, .ty _, .base (.int i), kit_ty (by decide +kernel), _, rfl, iteF ⟨_, rfl, _, .ty "tuple", _, _, false, rfl, .ty _, .base (.int i), kit_ty (by decide +kernel), _, rfl, iteF ⟨_, rfl, k _ emp H (Same.refl H) fresh_emp (.int i)⟩⟩⟩
    | str x => exact ⟨_, rfl, _, .ty "list", _, _, false, rfl, .ty _, .base (.str x), kit_ty (by decide +kernel), _, rfl, iteF ⟨_, rfl, _, .ty "tuple", _, _, false, rfl, .ty _, .base (.str x), kit_ty (by decide +kernel), _, rfl, iteF ⟨_, rfl, k _ emp H (Same.refl H) fresh_emp (.str x)⟩⟩⟩
    | @lst a xs ds ha hds =>
      refine ⟨_, rfl, .ref a, .ty "list", _, _, true, rfl, .ty _, .base (.lst ha), kit_ty (by decide +kernel), _, rfl, iteT ?_⟩
      refine ⟨_, rfl, a, rfl, ⟨_, SqL.of ha⟩, fun D hD => ?_⟩
      refine lc_list (K := K) (a := a) (xs := xs) (CopI H D ds) (copI0 hD) (fun i H' _ h => SqL.of (h.1 _ _ ha)) (fun i x H' hx h => ?_) (fun H' h => ?_)
      · obtain ⟨dx, hdx, hx'⟩ := hds.get hx
        obtain ⟨d0, s0⟩ := cop_child dep sz hdx
        obtain ⟨m', rfl⟩ : ∃ m', m = m' + 1 := ⟨m - 1, by omega⟩
        refine ⟨rfl, _, rfl, x, dx, rfl, Dt.mono h.1 _ _ hx', by omega, s0, fun v' N H2 e2 F2 t2 => ?_⟩
        obtain ⟨ys, N0, h1, h2⟩ := copI_step hD hdx h e2 F2 t2
        exact ⟨ys, h1, by have := (List.getElem?_eq_some_iff.mp hx).1; have := hds.len; have := cop_size sz; exact sz_lt1 h2.1 (by omega), h2.2⟩
      · obtain ⟨s1, ys, N, hy, hl, F1, t1⟩ := copI_end hds.len h
        exact k (.ref D) (upd N D (.lst ys)) H' s1 (F1.upd hD hy) (.lst upd_same (DtAll.mono (same_upd hl) _ _ t1))
    | @tup a xs ds ha hds =>
      refine ⟨_, rfl, .ref a, .ty "list", _, _, false, rfl, .ty _, .base (.tup ha), kit_ty (by decide +kernel), _, rfl, iteF ?_⟩
      refine ⟨_, rfl, .ref a, .ty "tuple", _, _, true, rfl, .ty _, .base (.tup ha), kit_ty (by decide +kernel), _, rfl, iteT ?_⟩
      refine ⟨_, rfl, a, rfl, ⟨_, SqT.of ha⟩, fun D hD => ?_⟩
      refine lc_tup (K := K) (a := a) (xs := xs) (CopI H D ds) (copI0 hD) (fun i H' _ h => SqT.of (h.1 _ _ ha)) (fun i x H' hx h => ?_) (fun H' h => ?_)
      · obtain ⟨dx, hdx, hx'⟩ := hds.get hx
        obtain ⟨d0, s0⟩ := cop_child' dep sz hdx
        obtain ⟨m', rfl⟩ : ∃ m', m = m' + 1 := ⟨m - 1, by omega⟩
        refine ⟨rfl, _, rfl, x, dx, rfl, Dt.mono h.1 _ _ hx', by omega, s0, fun v' N H2 e2 F2 t2 => ?_⟩
        obtain ⟨ys, N0, h1, h2⟩ := copI_step hD hdx h e2 F2 t2
        exact ⟨ys, h1, by have := (List.getElem?_eq_some_iff.mp hx).1; have := hds.len; have := cop_size' sz; exact sz_lt1 h2.1 (by omega), h2.2⟩
      · obtain ⟨s1, ys, N, hy, hl, F1, t1⟩ := copI_end hds.len h
        refine ⟨D, ys, rfl, .inl ⟨SqL.of hy, fun l hl2 => ?_⟩⟩
        have nDl : N l = none := by
          cases e : N l with
          | none => rfl
          | some o =>
            rw [F1.sub _ _ e] at hl2
            cases hl2
        exact k (.ref l) (upd N l (.tup ys)) _ (same_upd2 s1 hl2) (Fresh.upd ⟨F1.sub.trans (same_upd hl2), F1.new⟩ (Same.free s1 hl2) upd_same) (.tup upd_same (DtAll.mono (same_upd nDl) _ _ t1))
theorem okCop {f : Addr} {fd : FuncData} (F : Fun K "copied" "copied" sCop f fd) (T : TxtB mg) (mC : mg "copied" = some (.ref f)) (kC : PySem.W.keepIn K (.ref f) = true) (bC : Binds K fd ["value"] []) :
    ∀ m, FnOk P w K mg base CX0 (m + 1) f fd ["value"] (spCop m)
  | 0 => ⟨fun _ _ _ _ h => h.elim, fun _ _ _ _ _ _ _ _ _ _ _ _ _ h => h.elim⟩
  | m + 1 => stepCop F T (okCop F T mC kC bC m) mC kC bC

theorem scLcop : FnScope ["_law_value_here", "_law_part"] ["_law_value_here"] (defScope sLcop) := ⟨rfl, rfl, rfl, by decide +kernel, rfl, by decide +kernel, by decide +kernel⟩
theorem stepLcop {f : Addr} {fd : FuncData} {m : Nat} (F : Fun K "_law_copied" "_law_copied" sLcop f fd) (T : TxtB mg) (G : FnOk P w K mg base CX0 (m + 1) f fd ["_law_value_here"] (spCop m)) (mC : mg "_law_copied" = some (.ref f)) (kC : PySem.W.keepIn K (.ref f) = true) (bC : Binds K fd ["_law_value_here"] []) :
    FnOk P w K mg base CX0 (m + 2) f fd ["_law_value_here"] (spCop (m + 1)) := by
  refine F.ok scLcop (fun vs H Q E h => ?_) (fun cdv A outer s H vs Q E hr h => ?_)
  · obtain ⟨v, d, rfl, _⟩ := h
    rfl
  · obtain ⟨v, d, rfl, hd, dep, sz, k⟩ := h
    refine ⟨_, pss_cons (ps_if (pt_val (pe_callB call_isi (by rfl) T.isinstance (by decide +kernel) (pa_cons (pv 0) (pa_cons (pe_bltn (v := .ty "list") (by rfl) T.list (by decide +kernel) rfl) pa_nil))))
        (pss_one (ps_ret (pe_lc (own := [("_law_part", 1)]) (g := gName 1) (tt := tYes) rfl scLcop.nd (pi_list (pv 0)) (blkOk_by (N := ["_law_value_here", "_law_part"]) (sc := defScope sLcop) (by decide +kernel)) (fun _ _ _ _ _ => pg_name (i := 1) scLcop.nd rfl (Or.inl rfl)) (fun _ _ _ _ _ => pts_nil) (fun _ _ _ _ _ => pe_call G hr rfl mC kC bC .nil pass0 (pa_cons (pv 1) pa_nil))))) pss_nil)
      (pss_one (ps_ret (pe_ifExp (pt_val (pe_callB call_isi (by rfl) T.isinstance (by decide +kernel) (pa_cons (pv 0) (pa_cons (pe_bltn (v := .ty "tuple") (by rfl) T.tuple (by decide +kernel) rfl) pa_nil))))
        (pe_callTy call_tuple_of (by rfl) T.tuple (by decide +kernel) (pa_cons (pe_lc (own := [("_law_part", 1)]) (g := gName 1) (tt := tYes) rfl scLcop.nd (pi_tup (pv 0)) (blkOk_by (N := ["_law_value_here", "_law_part"]) (sc := defScope sLcop) (by decide +kernel)) (fun _ _ _ _ _ => pg_name (i := 1) scLcop.nd rfl (Or.inl rfl)) (fun _ _ _ _ _ => pts_nil) (fun _ _ _ _ _ => pe_call G hr rfl mC kC bC .nil pass0 (pa_cons (pv 1) pa_nil))) pa_nil))
        (pv 0)))), ?_⟩
    -- isinstance(value, list)
    cases hd with
    | non => exact ⟨_, rfl, _, .ty "list", _, _, false, rfl, .ty _, .base (.non), kit_ty (by decide +kernel), _, rfl, iteF ⟨_, rfl, _, .ty "tuple", _, _, false, rfl, .ty _, .base (.non), kit_ty (by decide +kernel), _, rfl, iteF ⟨_, rfl, k _ emp H (Same.refl H) fresh_emp (.non)⟩⟩⟩
    | bl b => exact ⟨_, rfl, _, .ty "list", _, _, false, rfl, .ty _, .base (.bl b), kit_ty (by decide +kernel), _, rfl, iteF ⟨_, rfl, _, .ty "tuple", _, _, false, rfl, .ty _, .base (.bl b), kit_ty (by decide +kernel), _, rfl, iteF ⟨_, rfl, k _ emp H (Same.refl H) fresh_emp (.bl b)⟩⟩⟩
    | int i => exact ⟨_, rfl, _, .ty "list", _, _, false, rfl, .ty _, .base (.int i), kit_ty (by decide +kernel), _, rfl, iteF ⟨_, rfl, _, .ty "tuple", _, _, false, rfl, .ty _, .base (.int i), kit_ty (by decide +kernel), _, rfl, iteF ⟨_, rfl, k _ emp H (Same.refl H) fresh_emp (.int i)⟩⟩⟩
    | str x => exact ⟨_, rfl, _, .ty "list", _, _, false, rfl, .ty _, .base (.str x), kit_ty (by decide +kernel), _, rfl, iteF ⟨_, rfl, _, .ty "tuple", _, _, false, rfl, .ty _, .base (.str x), kit_ty (by decide +kernel), _, rfl, iteF ⟨_, rfl, k _ emp H (Same.refl H) fresh_emp (.str x)⟩⟩⟩
    | @lst a xs ds ha hds =>
      refine ⟨_, rfl, .ref a, .ty "list", _, _, true, rfl, .ty _, .base (.lst ha), kit_ty (by decide +kernel), _, rfl, iteT ?_⟩
      refine ⟨_, rfl, a, rfl, ⟨_, SqL.of ha⟩, fun D hD => ?_⟩
      refine lc_list (K := K) (a := a) (xs := xs) (CopI H D ds) (copI0 hD) (fun i H' _ h => SqL.of (h.1 _ _ ha)) (fun i x H' hx h => ?_) (fun H' h => ?_)
      · obtain ⟨dx, hdx, hx'⟩ := hds.get hx
        obtain ⟨d0, s0⟩ := cop_child dep sz hdx
        obtain ⟨m', rfl⟩ : ∃ m', m = m' + 1 := ⟨m - 1, by omega⟩
        refine ⟨rfl, _, rfl, x, dx, rfl, Dt.mono h.1 _ _ hx', by omega, s0, fun v' N H2 e2 F2 t2 => ?_⟩
        obtain ⟨ys, N0, h1, h2⟩ := copI_step hD hdx h e2 F2 t2
        exact ⟨ys, h1, by have := (List.getElem?_eq_some_iff.mp hx).1; have := hds.len; have := cop_size sz; exact sz_lt1 h2.1 (by omega), h2.2⟩
      · obtain ⟨s1, ys, N, hy, hl, F1, t1⟩ := copI_end hds.len h
        exact k (.ref D) (upd N D (.lst ys)) H' s1 (F1.upd hD hy) (.lst upd_same (DtAll.mono (same_upd hl) _ _ t1))
    | @tup a xs ds ha hds =>
      refine ⟨_, rfl, .ref a, .ty "list", _, _, false, rfl, .ty _, .base (.tup ha), kit_ty (by decide +kernel), _, rfl, iteF ?_⟩
      refine ⟨_, rfl, .ref a, .ty "tuple", _, _, true, rfl, .ty _, .base (.tup ha), kit_ty (by decide +kernel), _, rfl, iteT ?_⟩
      refine ⟨_, rfl, a, rfl, ⟨_, SqT.of ha⟩, fun D hD => ?_⟩
      refine lc_tup (K := K) (a := a) (xs := xs) (CopI H D ds) (copI0 hD) (fun i H' _ h => SqT.of (h.1 _ _ ha)) (fun i x H' hx h => ?_) (fun H' h => ?_)
      · obtain ⟨dx, hdx, hx'⟩ := hds.get hx
        obtain ⟨d0, s0⟩ := cop_child' dep sz hdx
        obtain ⟨m', rfl⟩ : ∃ m', m = m' + 1 := ⟨m - 1, by omega⟩
        refine ⟨rfl, _, rfl, x, dx, rfl, Dt.mono h.1 _ _ hx', by omega, s0, fun v' N H2 e2 F2 t2 => ?_⟩
        obtain ⟨ys, N0, h1, h2⟩ := copI_step hD hdx h e2 F2 t2
        exact ⟨ys, h1, by have := (List.getElem?_eq_some_iff.mp hx).1; have := hds.len; have := cop_size' sz; exact sz_lt1 h2.1 (by omega), h2.2⟩
      · obtain ⟨s1, ys, N, hy, hl, F1, t1⟩ := copI_end hds.len h
        refine ⟨D, ys, rfl, .inl ⟨SqL.of hy, fun l hl2 => ?_⟩⟩
        have nDl : N l = none := by
          cases e : N l with
          | none => rfl
          | some o =>
            rw [F1.sub _ _ e] at hl2
            cases hl2
        exact k (.ref l) (upd N l (.tup ys)) _ (same_upd2 s1 hl2) (Fresh.upd ⟨F1.sub.trans (same_upd hl2), F1.new⟩ (Same.free s1 hl2) upd_same) (.tup upd_same (DtAll.mono (same_upd nDl) _ _ t1))
theorem okLcop {f : Addr} {fd : FuncData} (F : Fun K "_law_copied" "_law_copied" sLcop f fd) (T : TxtB mg) (mC : mg "_law_copied" = some (.ref f)) (kC : PySem.W.keepIn K (.ref f) = true) (bC : Binds K fd ["_law_value_here"] []) :
    ∀ m, FnOk P w K mg base CX0 (m + 1) f fd ["_law_value_here"] (spCop m)
  | 0 => ⟨fun _ _ _ _ h => h.elim, fun _ _ _ _ _ _ _ _ _ _ _ _ _ h => h.elim⟩
  | m + 1 => stepLcop F T (okLcop F T mC kC bC m) mC kC bC
end
end K81

namespace K81
open PySem L2
/-- the same data read twice, of nesting below m -/
def spSame : Nat → Sp
  | 0 => fun _ _ _ _ => False
  | m + 1 => fun vs H Q _ => ∃ (x y : V) (d : PyData), vs = [x, y] ∧ Dt H x d ∧ Dt H y d ∧ PyData.depth d ≤ m ∧ small d = true ∧ ∀ (H' : Hp), Same H H' → Q (.bl true) H'
theorem walk_zipT {K : PySem.W.Frag} {a b : Addr} {xs ys : List V} {n : Nat} (hn : n = min xs.length ys.length) : Walk (RZ.ItzT K a b) n (fun H => SqT K H a xs ∧ SqT K H b ys) (YPair (fun i => xs[i]?) (fun i => ys[i]?)) := by
  subst hn
  refine ⟨fun i _ hi q => ?_, fun _ q => ⟨xs, ys, q.1, q.2, by omega⟩, fun i H v H' _ q y => ?_⟩
  · exact ⟨xs, ys, xs[i], ys[i], q.1, q.2, by rw [List.getElem?_eq_getElem], by rw [List.getElem?_eq_getElem]⟩
  · obtain ⟨T, x, z, h1, h2, h3, h4, h5⟩ := y
    exact ⟨T, x, z, h1, h2, h3, h4 xs q.1, h5 ys q.2⟩
theorem all_true (n : Nat) : (List.replicate n true).all id = true := by
  rw [List.all_eq_true]
  intro x hx
  exact (List.mem_replicate.mp hx).2
theorem DtAll.at {N : Hp} : ∀ {ds : List PyData} {vs : List V} {i : Nat} {d : PyData}, DtAll N vs ds → ds[i]? = some d → ∃ v, vs[i]? = some v ∧ Dt N v d
  | [], _, i, v, h, e => by simp at e
  | d :: ds, _, i, v, h, e => by
    cases h with
    | cons h1 h2 =>
      cases i with
      | zero =>
        simp at e
        subst e
        exact ⟨_, rfl, h1⟩
      | succ i => exact DtAll.at (i := i) h2 (by simpa using e)
def kitsB (a : String) : List String → Option Bool
  | [] => some false
  | c :: cs => match kitB a c with
    | some true => some true
    | some false => kitsB a cs
    | none => none
theorem kits {K : PySem.W.Frag} {a : String} : ∀ {cs : List String} {r : Bool}, kitsB a cs = some r → PySem.W.kitAny K (.type a) (cs.map Value.type) = some r
  | [], r, h => by
    cases h
    exact kitAny_nil
  | c :: cs, r, h => by
    unfold kitsB at h
    cases e : kitB a c with
    | none =>
      rw [e] at h
      cases h
    | some b =>
      rw [e] at h
      cases b with
      | true =>
        cases h
        exact kitAny_cons (kit_ty e) (fun z => by cases z) (fun _ => rfl)
      | false => exact kitAny_cons (kit_ty e) (fun _ => kits h) (fun z => by cases z)
/-- at D so many True -/
def AllT (H : Hp) (D : Addr) (i : Nat) (H' : Hp) : Prop := Same H H' ∧ H' D = some (.lst ((List.replicate i true).map V.bl))
section
variable {P : Program} {w : World} {K : PySem.W.Frag} {mg : Str → Option Value} {base : Heap}
abbrev nSame : List Str := ["_law_found", "_law_due", "_law_one", "_law_other"]
theorem scSame : FnScope nSame ["_law_found", "_law_due"] (defScope sSame) := ⟨rfl, rfl, rfl, by decide +kernel, rfl, by decide +kernel, by decide +kernel⟩
theorem stepSame {f : Addr} {fd : FuncData} {m : Nat} (F : Fun K "_law_same" "_law_same" sSame f fd) (T : TxtB mg) (G : FnOk P w K mg base CX0 (m + 1) f fd ["_law_found", "_law_due"] (spSame m)) (mC : mg "_law_same" = some (.ref f)) (kC : PySem.W.keepIn K (.ref f) = true) (bC : Binds K fd ["_law_found", "_law_due"] []) :
    FnOk P w K mg base CX0 (m + 2) f fd ["_law_found", "_law_due"] (spSame (m + 1)) := by
  refine F.ok scSame (fun vs H Q E h => ?_) (fun cdv A outer s H vs Q E hr h => ?_)
  · obtain ⟨x, y, d, rfl, _⟩ := h
    rfl
  · obtain ⟨x, y, d, rfl, hx, hy, dep, sz, k⟩ := h
    refine ⟨_, pss_cons (ps_if (pt_val (pe_callB call_isiT (by rfl) T.isinstance (by decide +kernel) (pa_cons (pv 1) (pa_cons (pe_tup (pa_cons (pe_bltn (v := .ty "list") (by rfl) T.list (by decide +kernel) rfl) (pa_cons (pe_bltn (v := .ty "tuple") (by rfl) T.tuple (by decide +kernel) rfl) pa_nil))) pa_nil))))
        (pss_cons (ps_if (PW.pt (pw_or (pt_cmpR op_ne (pe_callB call_isi (by rfl) T.isinstance (by decide +kernel) (pa_cons (pv 0) (pa_cons (pe_bltn (v := .ty "list") (by rfl) T.list (by decide +kernel) rfl) pa_nil))) (pe_callB call_isi (by rfl) T.isinstance (by decide +kernel) (pa_cons (pv 1) (pa_cons (pe_bltn (v := .ty "list") (by rfl) T.list (by decide +kernel) rfl) pa_nil))) (nomark _))
            (pw_or1 (pt_cmpR op_ne (pe_callB call_isi (by rfl) T.isinstance (by decide +kernel) (pa_cons (pv 0) (pa_cons (pe_bltn (v := .ty "tuple") (by rfl) T.tuple (by decide +kernel) rfl) pa_nil))) (pe_callB call_isi (by rfl) T.isinstance (by decide +kernel) (pa_cons (pv 1) (pa_cons (pe_bltn (v := .ty "tuple") (by rfl) T.tuple (by decide +kernel) rfl) pa_nil))) (nomark _)))))
          (pss_one (ps_ret pe_bl)) pss_nil)
        (pss_one (ps_ret (pe_and (pe_cmpR op_eq (pe_callB call_len_seq (by rfl) T.len PySem.boot_len (pa_cons (pv 0) pa_nil)) (pe_callB call_len_seq (by rfl) T.len PySem.boot_len (pa_cons (pv 1) pa_nil)) (nomark _))
          (pe_one (pe_callB (cr_all rfl) (by rfl) T.all (by decide +kernel) (pa_cons
            (pe_lc (own := [("_law_one", 2), ("_law_other", 3)]) (g := gTup K 2 (gCons (gName 2) (gCons (gName 3) gNil))) (tt := tYes) rfl scSame.nd (RZ.pi_zipA (by rfl) T.zip (pa_cons (pv 0) (pa_cons (pv 1) pa_nil))) (blkOk_by (N := nSame) (sc := defScope sSame) (by decide +kernel)) (fun _ _ _ _ _ => pg_tup rfl (pgs_cons (pg_name (i := 2) scSame.nd rfl (Or.inl rfl)) (pgs_cons (pg_name (i := 3) scSame.nd rfl (Or.inl rfl)) pgs_nil))) (fun _ _ _ _ _ => pts_nil) (fun _ _ _ _ _ => pe_call G hr rfl mC kC bC .nil pass0 (pa_cons (pv 2) (pa_cons (pv 3) pa_nil)))) pa_nil))))))) pss_nil)
      (pss_cons (ps_if (pt_val (pe_callB call_isi (by rfl) T.isinstance (by decide +kernel) (pa_cons (pv 1) (pa_cons (pe_bltn (v := .ty "int") (by rfl) T.int (by decide +kernel) rfl) pa_nil))))
        (pss_one (ps_ret (pe_and (pe_callB call_isi (by rfl) T.isinstance (by decide +kernel) (pa_cons (pv 0) (pa_cons (pe_bltn (v := .ty "int") (by rfl) T.int (by decide +kernel) rfl) pa_nil)))
          (pe_and (pe_cmpR op_eq (pe_callB call_isi (by rfl) T.isinstance (by decide +kernel) (pa_cons (pv 0) (pa_cons (pe_bltn (v := .ty "bool") (by rfl) T.bool (by decide +kernel) rfl) pa_nil))) (pe_callB call_isi (by rfl) T.isinstance (by decide +kernel) (pa_cons (pv 1) (pa_cons (pe_bltn (v := .ty "bool") (by rfl) T.bool (by decide +kernel) rfl) pa_nil))) (nomark _))
          (pe_one (pe_cmpR op_eq (pv 0) (pv 1) (nomark _))))))) pss_nil)
      (pss_one (ps_ret (pe_and (pe_cmpR op_eq (pv 0) (pv 1) (nomark _)) (pe_one (pe_cmpR op_isBl (pe_callB call_isiT (by rfl) T.isinstance (by decide +kernel) (pa_cons (pv 0) (pa_cons (pe_tup (pa_cons (pe_bltn (v := .ty "int") (by rfl) T.int (by decide +kernel) rfl) (pa_cons (pe_bltn (v := .ty "list") (by rfl) T.list (by decide +kernel) rfl) (pa_cons (pe_bltn (v := .ty "tuple") (by rfl) T.tuple (by decide +kernel) rfl) pa_nil)))) pa_nil))) pe_bl (nomark _))))))), ?_⟩
    cases d with
    | dict _ => cases hx
    | none =>
      cases hx
      cases hy
      refine ⟨_, rfl, (by show 2 ≤ sizeLine; decide), fun p hp => ⟨_, p, _, _, _, false, rfl, upd_same, .cons (.ty _) (.cons (.ty _) .nil), .base (.non), kits (cs := ["list", "tuple"]) (by decide +kernel), _, rfl, iteF ?_⟩⟩
      refine ⟨_, rfl, _, .ty "int", _, _, false, rfl, .ty _, .base (.non), kit_ty (by decide +kernel), _, rfl, iteF ?_⟩
      refine ⟨_, rfl, _, rfl, rfl, true, (by rw [decide_eq_true rfl]), iteT ⟨_, rfl, (by show 3 ≤ sizeLine; decide), fun p2 hp2 => ⟨_, p2, _, _, _, false, rfl, upd_same, .cons (.ty _) (.cons (.ty _) (.cons (.ty _) .nil)), .base (.non), kits (cs := ["int", "list", "tuple"]) (by decide +kernel), _, _, rfl, rfl, k _ (same_upd2 (same_upd hp) hp2)⟩⟩⟩
    | str z =>
      cases hx
      cases hy
      refine ⟨_, rfl, (by show 2 ≤ sizeLine; decide), fun p hp => ⟨_, p, _, _, _, false, rfl, upd_same, .cons (.ty _) (.cons (.ty _) .nil), .base (.str z), kits (cs := ["list", "tuple"]) (by decide +kernel), _, rfl, iteF ?_⟩⟩
      refine ⟨_, rfl, _, .ty "int", _, _, false, rfl, .ty _, .base (.str z), kit_ty (by decide +kernel), _, rfl, iteF ?_⟩
      refine ⟨_, rfl, _, rfl, rfl, true, (by rw [decide_eq_true rfl]), iteT ⟨_, rfl, (by show 3 ≤ sizeLine; decide), fun p2 hp2 => ⟨_, p2, _, _, _, false, rfl, upd_same, .cons (.ty _) (.cons (.ty _) (.cons (.ty _) .nil)), .base (.str z), kits (cs := ["int", "list", "tuple"]) (by decide +kernel), _, _, rfl, rfl, k _ (same_upd2 (same_upd hp) hp2)⟩⟩⟩
    | bool q =>
      cases hx
      cases hy
      refine ⟨_, rfl, (by show 2 ≤ sizeLine; decide), fun p hp => ⟨_, p, _, _, _, false, rfl, upd_same, .cons (.ty _) (.cons (.ty _) .nil), .base (.bl q), kits (cs := ["list", "tuple"]) (by decide +kernel), _, rfl, iteF ?_⟩⟩
      refine ⟨_, rfl, _, .ty "int", _, _, true, rfl, .ty _, .base (.bl q), kit_ty (by decide +kernel), _, rfl, iteT ?_⟩
      refine ⟨_, rfl, _, .ty "int", _, _, true, rfl, .ty _, .base (.bl q), kit_ty (by decide +kernel), true, rfl, iteT ⟨_, rfl, _, .ty "bool", _, _, true, rfl, .ty _, .base (.bl q), kit_ty (by decide +kernel), _, rfl, _, .ty "bool", _, _, true, rfl, .ty _, .base (.bl q), kit_ty (by decide +kernel), rfl, true, (by rw [decide_eq_true rfl]), iteT ⟨_, rfl, _, rfl, rfl, ?_⟩⟩⟩
      rw [decide_eq_true rfl]
      exact k _ (same_upd hp)
    | int i =>
      cases hx
      cases hy
      refine ⟨_, rfl, (by show 2 ≤ sizeLine; decide), fun p hp => ⟨_, p, _, _, _, false, rfl, upd_same, .cons (.ty _) (.cons (.ty _) .nil), .base (.int i), kits (cs := ["list", "tuple"]) (by decide +kernel), _, rfl, iteF ?_⟩⟩
      refine ⟨_, rfl, _, .ty "int", _, _, true, rfl, .ty _, .base (.int i), kit_ty (by decide +kernel), _, rfl, iteT ?_⟩
      refine ⟨_, rfl, _, .ty "int", _, _, true, rfl, .ty _, .base (.int i), kit_ty (by decide +kernel), true, rfl, iteT ⟨_, rfl, _, .ty "bool", _, _, false, rfl, .ty _, .base (.int i), kit_ty (by decide +kernel), _, rfl, _, .ty "bool", _, _, false, rfl, .ty _, .base (.int i), kit_ty (by decide +kernel), rfl, true, (by rw [decide_eq_true rfl]), iteT ⟨_, rfl, _, rfl, rfl, ?_⟩⟩⟩
      rw [decide_eq_true rfl]
      exact k _ (same_upd hp)
    | list ds =>
      cases hx
      cases hy
      rename_i a xs ha hxs b ys hb hys
      refine ⟨_, rfl, (by show 2 ≤ sizeLine; decide), fun p hp => ⟨_, p, _, _, _, true, rfl, upd_same, .cons (.ty _) (.cons (.ty _) .nil), .base (.lst (same_upd hp _ _ hb)), kits (cs := ["list", "tuple"]) (by decide +kernel), _, rfl, iteT ?_⟩⟩
      have s1 := same_upd hp (o := .tup [.ty "list", .ty "tuple"])
      generalize upd H p (.tup [.ty "list", .ty "tuple"]) = H1 at s1
      have ha1 := s1 _ _ ha
      have hb1 := s1 _ _ hb
      refine ⟨_, rfl, _, .ty "list", _, _, true, rfl, .ty _, .base (.lst ha1), kit_ty (by decide +kernel), _, rfl, _, .ty "list", _, _, true, rfl, .ty _, .base (.lst hb1), kit_ty (by decide +kernel), rfl, false, rfl, iteF ?_⟩
      refine ⟨_, rfl, _, .ty "tuple", _, _, false, rfl, .ty _, .base (.lst ha1), kit_ty (by decide +kernel), _, rfl, _, .ty "tuple", _, _, false, rfl, .ty _, .base (.lst hb1), kit_ty (by decide +kernel), rfl, false, rfl, iteF ?_⟩
      have l1 := hxs.len
      have l2 := hys.len
      refine ⟨_, rfl, a, xs, rfl, Or.inl (SqL.of ha1), _, rfl, b, ys, rfl, Or.inl (SqL.of hb1), rfl, true, (by rw [l1, l2, decide_eq_true rfl]), iteT ?_⟩
      refine ⟨_, rfl, _, rfl, a, b, xs, ys, rfl, Or.inl ⟨SqL.of ha1, SqL.of hb1, fun D hD => ?_⟩⟩
      refine lc_it (walk_zip (n := ds.length) (by omega)) (AllT H1 D) ⟨same_upd hD, upd_same⟩ (fun i H' _ h => ⟨SqL.of (h.1 _ _ ha1), SqL.of (h.1 _ _ hb1)⟩) (fun i v H' H'' hi h y => ?_) (fun H' h => ?_)
      · obtain ⟨U, x, z, rfl, hU, rfl, hx, hz⟩ := y
        obtain ⟨dx, hdx, hx'⟩ := hxs.get hx
        obtain ⟨dz, hdz, hz'⟩ := hys.get hz
        rw [hdx] at hdz
        cases hdz
        obtain ⟨d0, s0⟩ := cop_child dep sz hdx
        obtain ⟨m', rfl⟩ : ∃ m', m = m' + 1 := ⟨m - 1, by omega⟩
        have s2 : Same H (upd H' U (.tup [x, z])) := same_upd2 (s1.trans h.1) hU
        refine ⟨U, _, rfl, SqT.of upd_same, rfl, _, _, rfl, _, _, rfl, rfl, rfl, _, rfl, _, rfl, x, z, dx, rfl, Dt.mono s2 _ _ hx', Dt.mono s2 _ _ hz', by omega, s0, fun H2 e2 => ?_⟩
        have nD : D ≠ U := ne_of_none h.2 hU
        refine ⟨_, e2 _ _ (by rw [upd_ne nD]; exact h.2), ?_, same_mut ((same_upd2 h.1 hU).trans e2) hD, ?_⟩
        · have := cop_size sz
          exact sz_lt1 (by rw [List.length_map, List.length_replicate]) (by omega)
        · rw [upd_same, List.replicate_succ', List.map_append]
          rfl
      · refine ⟨D, List.replicate ds.length true, rfl, SqL.of h.2, ?_⟩
        rw [all_true]
        exact k _ (s1.trans h.1)
    | tuple ds =>
      cases hx
      cases hy
      rename_i a xs ha hxs b ys hb hys
      refine ⟨_, rfl, (by show 2 ≤ sizeLine; decide), fun p hp => ⟨_, p, _, _, _, true, rfl, upd_same, .cons (.ty _) (.cons (.ty _) .nil), .base (.tup (same_upd hp _ _ hb)), kits (cs := ["list", "tuple"]) (by decide +kernel), _, rfl, iteT ?_⟩⟩
      have s1 := same_upd hp (o := .tup [.ty "list", .ty "tuple"])
      generalize upd H p (.tup [.ty "list", .ty "tuple"]) = H1 at s1
      have ha1 := s1 _ _ ha
      have hb1 := s1 _ _ hb
      refine ⟨_, rfl, _, .ty "list", _, _, false, rfl, .ty _, .base (.tup ha1), kit_ty (by decide +kernel), _, rfl, _, .ty "list", _, _, false, rfl, .ty _, .base (.tup hb1), kit_ty (by decide +kernel), rfl, false, rfl, iteF ?_⟩
      refine ⟨_, rfl, _, .ty "tuple", _, _, true, rfl, .ty _, .base (.tup ha1), kit_ty (by decide +kernel), _, rfl, _, .ty "tuple", _, _, true, rfl, .ty _, .base (.tup hb1), kit_ty (by decide +kernel), rfl, false, rfl, iteF ?_⟩
      have l1 := hxs.len
      have l2 := hys.len
      refine ⟨_, rfl, a, xs, rfl, Or.inr (SqT.of ha1), _, rfl, b, ys, rfl, Or.inr (SqT.of hb1), rfl, true, (by rw [l1, l2, decide_eq_true rfl]), iteT ?_⟩
      refine ⟨_, rfl, _, rfl, a, b, xs, ys, rfl, Or.inr ⟨SqT.of ha1, SqT.of hb1, fun D hD => ?_⟩⟩
      refine lc_it (walk_zipT (n := ds.length) (by omega)) (AllT H1 D) ⟨same_upd hD, upd_same⟩ (fun i H' _ h => ⟨SqT.of (h.1 _ _ ha1), SqT.of (h.1 _ _ hb1)⟩) (fun i v H' H'' hi h y => ?_) (fun H' h => ?_)
      · obtain ⟨U, x, z, rfl, hU, rfl, hx, hz⟩ := y
        obtain ⟨dx, hdx, hx'⟩ := hxs.get hx
        obtain ⟨dz, hdz, hz'⟩ := hys.get hz
        rw [hdx] at hdz
        cases hdz
        obtain ⟨d0, s0⟩ := cop_child' dep sz hdx
        obtain ⟨m', rfl⟩ : ∃ m', m = m' + 1 := ⟨m - 1, by omega⟩
        have s2 : Same H (upd H' U (.tup [x, z])) := same_upd2 (s1.trans h.1) hU
        refine ⟨U, _, rfl, SqT.of upd_same, rfl, _, _, rfl, _, _, rfl, rfl, rfl, _, rfl, _, rfl, x, z, dx, rfl, Dt.mono s2 _ _ hx', Dt.mono s2 _ _ hz', by omega, s0, fun H2 e2 => ?_⟩
        have nD : D ≠ U := ne_of_none h.2 hU
        refine ⟨_, e2 _ _ (by rw [upd_ne nD]; exact h.2), ?_, same_mut ((same_upd2 h.1 hU).trans e2) hD, ?_⟩
        · have := cop_size' sz
          exact sz_lt1 (by rw [List.length_map, List.length_replicate]) (by omega)
        · rw [upd_same, List.replicate_succ', List.map_append]
          rfl
      · refine ⟨D, List.replicate ds.length true, rfl, SqL.of h.2, ?_⟩
        rw [all_true]
        exact k _ (s1.trans h.1)
theorem okSame {f : Addr} {fd : FuncData} (F : Fun K "_law_same" "_law_same" sSame f fd) (T : TxtB mg) (mC : mg "_law_same" = some (.ref f)) (kC : PySem.W.keepIn K (.ref f) = true) (bC : Binds K fd ["_law_found", "_law_due"] []) :
    ∀ m, FnOk P w K mg base CX0 (m + 1) f fd ["_law_found", "_law_due"] (spSame m)
  | 0 => ⟨fun _ _ _ _ h => h.elim, fun _ _ _ _ _ _ _ _ _ _ _ _ _ h => h.elim⟩
  | m + 1 => stepSame F T (okSame F T mC kC bC m) mC kC bC
end
end K81

namespace K81
open PySem L2 PyProof.Rows
/-! ### sorted texts are one list -/
theorem sortedS_pw : ∀ (l : List Str), sortedS l = true → l.Pairwise fun a b => a.cps.toList ≤ b.cps.toList
  | [], _ => .nil
  | [x], _ => .cons (fun _ h => nomatch h) .nil
  | x :: y :: r, h => by
    have h' : (!PySem.Spec.ltCps y.cps.toList x.cps.toList && risingS y r) = true := h
    rw [Bool.and_eq_true] at h'
    have ih := sortedS_pw (y :: r) h'.2
    have xy : x.cps.toList ≤ y.cps.toList := by
      have q := h'.1
      rw [PyProof.Rows.ltCps_eq] at q
      simpa using q
    refine .cons (fun z hz => ?_) ih
    rcases List.mem_cons.mp hz with rfl | hz
    · exact xy
    · exact List.le_trans xy (List.rel_of_pairwise_cons ih hz)
theorem cps_inj {a b : Str} (h : a.cps.toList = b.cps.toList) : a = b := by
  cases a
  cases b
  simp at h
  rw [h]
theorem sorted_one {a b : List Str} (p : a.Perm b) (ha : sortedS a = true) (hb : sortedS b = true) : a = b :=
  p.eq_of_pairwise (fun x y _ _ h1 h2 => cps_inj (List.le_antisymm h1 h2)) (sortedS_pw a ha) (sortedS_pw b hb)
/-! ### the mirror of a dict of data -/
abbrev DD := List (Str × PyData)
def putD (l : DD) (k : Str) (d : PyData) : DD := if (l.any fun p => decide (p.1 = k)) = true then l.map (fun p => if p.1 = k then (p.1, d) else p) else l ++ [(k, d)]
def lookD (l : DD) (k : Str) : Option PyData := (l.find? fun p => decide (p.1 = k)).map (·.2)
def mergeD (l more : DD) : DD := more.foldl (fun a p => putD a p.1 p.2) l
def keysD (l : DD) : List Str := l.map (·.1)
/-- a dict's pairs bear the mirror, their parts stand in N -/
def Held (N : Hp) : List (Key × V) → DD → Prop := PySem.Paired fun p q => p.1 = Sum.inr q.1 ∧ Dt N p.2 q.2
theorem held_mono {N M : Hp} (e : Same N M) : ∀ {kvs : List (Key × V)} {ld : DD}, Held N kvs ld → Held M kvs ld
  | _, _, .nil => .nil
  | _, _, .cons h t => .cons ⟨h.1, Dt.mono e _ _ h.2⟩ (held_mono e t)
theorem held_len {N : Hp} {kvs : List (Key × V)} {ld : DD} (h : Held N kvs ld) : kvs.length = ld.length := PySem.Paired.length h
theorem held_keys {N : Hp} : ∀ {kvs : List (Key × V)} {ld : DD}, Held N kvs ld → kvs.map (·.1) = (keysD ld).map Sum.inr
  | _, _, .nil => rfl
  | _, _, .cons h t => by
    have e := held_keys t
    unfold keysD at e ⊢
    rw [List.map_cons, List.map_cons, List.map_cons, ← e]
    exact congrArg (· :: _) h.1
theorem held_any {N : Hp} (k : Str) : ∀ {kvs : List (Key × V)} {ld : DD}, Held N kvs ld → (kvs.any fun kv => decide (kv.1 = (Sum.inr k : Key))) = ld.any fun p => decide (p.1 = k)
  | _, _, .nil => rfl
  | _, _, .cons h t => by
    rw [List.any_cons, List.any_cons, held_any k t, h.1, key_rr]
theorem held_map {N : Hp} (k : Str) {v : V} {d : PyData} (hv : Dt N v d) : ∀ {kvs : List (Key × V)} {ld : DD}, Held N kvs ld →
    Held N (kvs.map fun kv => if kv.1 = (Sum.inr k : Key) then (kv.1, v) else kv) (ld.map fun p => if p.1 = k then (p.1, d) else p)
  | _, _, .nil => .nil
  | _, _, @PySem.Paired.cons _ _ _ p q ps qs h t => by
    refine .cons ?_ (held_map k hv t)
    dsimp only at h ⊢
    by_cases e : q.1 = k
    · have e2 : p.1 = (Sum.inr k : Key) := by rw [h.1, e]
      rw [if_pos e, if_pos e2]
      exact ⟨h.1, hv⟩
    · have e2 : ¬ p.1 = (Sum.inr k : Key) := fun z => e (Sum.inr.inj (h.1.symm.trans z))
      rw [if_neg e, if_neg e2]
      exact h
theorem held_app {N : Hp} {v : V} {d : PyData} {k : Str} (hv : Dt N v d) : ∀ {kvs : List (Key × V)} {ld : DD}, Held N kvs ld → Held N (kvs ++ [(Sum.inr k, v)]) (ld ++ [(k, d)])
  | _, _, .nil => .cons ⟨rfl, hv⟩ .nil
  | _, _, .cons h t => .cons h (held_app hv t)
theorem held_put {N : Hp} {kvs : List (Key × V)} {ld : DD} {v : V} {d : PyData} {k : Str} (h : Held N kvs ld) (hv : Dt N v d) : Held N (putK kvs (Sum.inr k : Key) v) (putD ld k d) := by
  unfold putK putD
  rw [held_any k h]
  by_cases e : (ld.any fun p => decide (p.1 = k)) = true
  · rw [if_pos e, if_pos e]
    exact held_map k hv h
  · rw [if_neg e, if_neg e]
    exact held_app hv h
theorem held_merge {N : Hp} : ∀ {more : List (Key × V)} {md : DD} {kvs : List (Key × V)} {ld : DD}, Held N more md → Held N kvs ld → Held N (mergeK kvs more) (mergeD ld md)
  | _, _, _, _, .nil, h => h
  | _, _, _, _, @PySem.Paired.cons _ _ _ p q ps qs m t, h => by
    have e := held_put (k := q.1) h m.2
    rw [← m.1] at e
    exact held_merge (more := ps) (md := qs) t e
theorem held_look {N : Hp} (k : Str) : ∀ {kvs : List (Key × V)} {ld : DD}, Held N kvs ld → (lookD ld k = none ∧ valV kvs (Sum.inr k : Key) = none) ∨ ∃ d v, lookD ld k = some d ∧ valV kvs (Sum.inr k : Key) = some v ∧ Dt N v d
  | _, _, .nil => .inl ⟨rfl, rfl⟩
  | _, _, @PySem.Paired.cons _ _ _ p q ps qs h t => by
    unfold lookD valV
    rw [List.find?_cons, List.find?_cons]
    by_cases e : q.1 = k
    · have e2 : p.1 = (Sum.inr k : Key) := by rw [h.1, e]
      rw [decide_eq_true e, decide_eq_true e2]
      exact .inr ⟨q.2, p.2, rfl, rfl, h.2⟩
    · have e2 : ¬ p.1 = (Sum.inr k : Key) := fun z => e (Sum.inr.inj (h.1.symm.trans z))
      rw [decide_eq_false e, decide_eq_false e2]
      exact held_look k t
/-! ### the mirror's own laws -/
theorem any_key {l : DD} {k : Str} : (l.any fun p => decide (p.1 = k)) = true ↔ k ∈ keysD l := by
  unfold keysD
  rw [List.any_eq_true, List.mem_map]
  constructor
  · rintro ⟨p, hp, e⟩
    exact ⟨p, hp, by simpa using e⟩
  · rintro ⟨p, hp, e⟩
    exact ⟨p, hp, by simpa using e⟩
theorem keys_put {l : DD} {k : Str} {d : PyData} : keysD (putD l k d) = if k ∈ keysD l then keysD l else keysD l ++ [k] := by
  unfold putD
  by_cases e : (l.any fun p => decide (p.1 = k)) = true
  · rw [if_pos e, if_pos (any_key.mp e)]
    unfold keysD
    rw [List.map_map]
    apply List.map_congr_left
    intro p _
    show (if p.1 = k then (p.1, d) else p).1 = p.1
    split <;> rfl
  · rw [if_neg e, if_neg (fun z => e (any_key.mpr z))]
    unfold keysD
    rw [List.map_append]
    rfl
theorem nodup_put {l : DD} {k : Str} {d : PyData} (h : (keysD l).Nodup) : (keysD (putD l k d)).Nodup := by
  rw [keys_put]
  split
  · exact h
  · rename_i hk
    rw [List.nodup_append]
    exact ⟨h, by simp, fun a ha b hb e => hk (by rw [List.mem_singleton.mp hb] at e; rw [← e]; exact ha)⟩
theorem len_put {l : DD} {k : Str} {d : PyData} : (putD l k d).length ≤ l.length + 1 := by
  unfold putD
  split
  · rw [List.length_map]
    omega
  · rw [List.length_append]
    simp
theorem all_put {R : PyData → Prop} {l : DD} {k : Str} {d : PyData} (h : ∀ p ∈ l, R p.2) (hd : R d) : ∀ p ∈ putD l k d, R p.2 := by
  intro p hp
  unfold putD at hp
  split at hp
  · obtain ⟨q, hq, e⟩ := List.mem_map.mp hp
    by_cases z : q.1 = k
    · rw [if_pos z] at e
      rw [← e]
      exact hd
    · rw [if_neg z] at e
      rw [← e]
      exact h q hq
  · rcases List.mem_append.mp hp with hp | hp
    · exact h p hp
    · rw [List.mem_singleton.mp hp]
      exact hd
theorem nodup_merge : ∀ {m l : DD}, (keysD l).Nodup → (keysD (mergeD l m)).Nodup
  | [], l, h => h
  | p :: m, l, h => nodup_merge (m := m) (l := putD l p.1 p.2) (nodup_put h)
theorem len_merge : ∀ {m l : DD}, (mergeD l m).length ≤ l.length + m.length
  | [], l => Nat.le_refl _
  | p :: m, l => by
    have h1 := len_merge (m := m) (l := putD l p.1 p.2)
    have h2 := len_put (l := l) (k := p.1) (d := p.2)
    show (mergeD (putD l p.1 p.2) m).length ≤ l.length + (m.length + 1)
    omega
theorem all_merge {R : PyData → Prop} : ∀ {m l : DD}, (∀ p ∈ l, R p.2) → (∀ p ∈ m, R p.2) → ∀ p ∈ mergeD l m, R p.2
  | [], l, h, _ => h
  | p :: m, l, h, hm => all_merge (m := m) (l := putD l p.1 p.2) (all_put h (hm p List.mem_cons_self)) fun q hq => hm q (List.mem_cons_of_mem _ hq)
theorem look_put {l : DD} {k j : Str} {d : PyData} : lookD (putD l k d) j = if j = k then some d else lookD l j := by
  have e1 : ∀ l : DD, lookD (l.map fun p => if p.1 = k then (p.1, d) else p) j = if j = k then (if (l.any fun p => decide (p.1 = k)) = true then some d else none) else lookD l j := by
    intro l
    induction l with
    | nil =>
      show (none : Option PyData) = _
      split
      · rw [if_neg (by simp)]
      · rfl
    | cons p l ih =>
      unfold lookD at ih ⊢
      rw [List.map_cons, List.find?_cons]
      by_cases pk : p.1 = k
      · rw [if_pos pk]
        by_cases jk : j = k
        · rw [if_pos jk, jk, decide_eq_true pk, List.any_cons, decide_eq_true pk]
          rfl
        · have pj : ¬ p.1 = j := fun z => jk (z.symm.trans pk)
          rw [decide_eq_false pj]
          rw [if_neg jk] at ih ⊢
          rw [List.find?_cons, decide_eq_false pj]
          exact ih
      · rw [if_neg pk]
        by_cases pj : p.1 = j
        · have jk : ¬ j = k := fun z => pk (pj.trans z)
          rw [if_neg jk, decide_eq_true pj, List.find?_cons, decide_eq_true pj]
        · rw [decide_eq_false pj, ih, List.any_cons, decide_eq_false pk, Bool.false_or]
          split
          · rfl
          · rw [List.find?_cons, decide_eq_false pj]
  unfold putD
  by_cases e : (l.any fun p => decide (p.1 = k)) = true
  · rw [if_pos e, e1, if_pos e]
  · rw [if_neg e]
    unfold lookD
    rw [List.find?_append]
    by_cases jk : j = k
    · rw [if_pos jk, jk]
      have n : l.find? (fun p => decide (p.1 = k)) = none := by
        rw [List.find?_eq_none]
        intro p hp z
        exact e (List.any_eq_true.mpr ⟨p, hp, z⟩)
      rw [n]
      show ((none : Option (Str × PyData)).or ([(k, d)].find? fun p => decide (p.1 = k))).map (·.2) = some d
      rw [List.find?_cons, decide_eq_true rfl]
      rfl
    · rw [if_neg jk, List.find?_cons, decide_eq_false (fun z : k = j => jk z.symm)]
      show ((l.find? fun p => decide (p.1 = j)).or (List.find? _ [])).map (·.2) = _
      rw [List.find?_nil, Option.or_none]
theorem look_mem {l : DD} {k : Str} {d : PyData} (h : lookD l k = some d) : (k, d) ∈ l := by
  unfold lookD at h
  obtain ⟨p, hp, e⟩ := Option.map_eq_some_iff.mp h
  have h1 := List.mem_of_find?_eq_some hp
  have h2 := List.find?_some (p := fun p : Str × PyData => decide (p.1 = k)) hp
  have h3 : p.1 = k := by simpa using h2
  rw [← h3, ← e]
  exact h1
theorem look_nodup : ∀ {l : DD} {k : Str} {d : PyData}, (keysD l).Nodup → (k, d) ∈ l → lookD l k = some d
  | [], k, d, _, h => nomatch h
  | p :: l, k, d, n, h => by
    have n' : p.1 ∉ keysD l ∧ (keysD l).Nodup := List.nodup_cons.mp n
    unfold lookD
    rw [List.find?_cons]
    rcases List.mem_cons.mp h with rfl | h
    · rw [decide_eq_true rfl]
      rfl
    · have pk : ¬ p.1 = k := fun z => n'.1 (by rw [z]; exact List.mem_map.mpr ⟨_, h, rfl⟩)
      rw [decide_eq_false pk]
      exact look_nodup n'.2 h
theorem look_key {l : DD} {k : Str} (h : k ∈ keysD l) : ∃ d, lookD l k = some d := by
  unfold keysD at h
  obtain ⟨p, hp, e⟩ := List.mem_map.mp h
  unfold lookD
  cases q : l.find? (fun p => decide (p.1 = k)) with
  | some r => exact ⟨r.2, rfl⟩
  | none =>
    rw [List.find?_eq_none] at q
    exact absurd (decide_eq_true e) (q p hp)
theorem key_look {l : DD} {k : Str} {d : PyData} (h : lookD l k = some d) : k ∈ keysD l := List.mem_map.mpr ⟨_, look_mem h, rfl⟩
end K81

namespace K81
open PySem L2
/-! ### the class Names -/
def NamesAt (C : Addr) (H : Hp) (p hd : Addr) (kvs : List (Key × V)) : Prop := ∃ dx, H p = some (.ins C dx [(("held" : Str), V.ref hd)]) ∧ H hd = some (.dK kvs)
theorem namesAt_mono {C : Addr} {H H' : Hp} {p hd : Addr} {kvs : List (Key × V)} (e : Same H H') (h : NamesAt C H p hd kvs) : NamesAt C H' p hd kvs := by
  obtain ⟨dx, h1, h2⟩ := h
  exact ⟨dx, e _ _ h1, e _ _ h2⟩
structure TxtN (P : Program) (K : PySem.W.Frag) (mg : Str → Option Value) (C CN fI : Addr) : Prop where
  cl : Cls K C
  nH : NoAttr K C "held"
  mgC : mg "Names" = some (.ref C)
  ha : PySem.W.findIn K (.ref C) "__class__" = some (some (.builtin "object.__class__"))
  hn : PySem.W.specialIn K (.builtin "object.__class__") "__get__" = some (some (.builtin "getset_descriptor.__get__"))
  htk : PySem.W.takesIn K (.builtin "object.__class__") = some true
  hm : PySem.W.mroIn K C (.type "object") = some true
  kC : PySem.W.kitOne K (.ref C) (.ref C) = some true
  kL : PySem.W.kitOne K (.type "list") (.ref C) = some false
  kD : PySem.W.kitOne K (.type "dict") (.ref C) = some false
  nfL : PySem.W.notFirst K C (.type "list") = true
  nfD : PySem.W.notFirst K C (.type "dict") = true
  no : PySem.NoX.NoTxt P K mg CN fI
def okD (d : PyData) : Prop := PyData.depth d ≤ 4 ∧ small d = true ∧ SeqAt.shaped d = true
def spGet (C CN : Addr) : Sp := fun vs H Q E => ∃ (p hd : Addr) (kvs : List (Key × V)) (ld : DD) (k : Str), vs = [.ref p, .str k] ∧ NamesAt C H p hd kvs ∧ Held H kvs ld ∧ (∀ q ∈ ld, okD q.2) ∧
  (lookD ld k = none → ∀ d, H d = none → E (.ref CN) (some d) (upd H d (.xd [(("name" : Str), .str k)]))) ∧
  (∀ dd, lookD ld k = some dd → ∀ (v' : V) (N H' : Hp), Same H H' → Fresh H H' N → Dt N v' dd → Q v' H')
def spPut (C : Addr) : Sp := fun vs H Q _ => ∃ (p hd : Addr) (kvs : List (Key × V)) (k : Str) (v : V) (d : PyData), vs = [.ref p, .str k, v] ∧ NamesAt C H p hd kvs ∧ kvs.length ≤ 1000 ∧ Dt H v d ∧ okD d ∧
  ∀ (v' : V) (N H' : Hp), NamesAt C H' p hd (putK kvs (Sum.inr k : Key) v') → Dt N v' d → Fresh H H' N → (∀ b o, H b = some o → b ≠ hd → H' b = some o) → Q .non H'
def spHas (C : Addr) : Sp := fun vs H Q _ => ∃ (p hd : Addr) (kvs : List (Key × V)) (k : Str), vs = [.ref p, .str k] ∧ NamesAt C H p hd kvs ∧ Q (.bl (valV kvs (Sum.inr k : Key)).isSome) H
section
variable {P : Program} {w : World} {K : PySem.W.Frag} {mg : Str → Option Value} {base : Heap} {C CN fI : Addr}
theorem scGet : FnScope ["self", "name"] ["self", "name"] (defScope sGet) := ⟨rfl, rfl, rfl, by decide +kernel, rfl, by decide +kernel, by decide +kernel⟩
theorem ok_get {f fC : Addr} {fd fdC : FuncData} (F : Fun K "get" "Names.get" sGet f fd) (T : TxtN P K mg C CN fI) (G : FnOk P w K mg base CX0 8 fC fdC ["value"] (spCop 7)) (mC : mg "copied" = some (.ref fC)) (kC : PySem.W.keepIn K (.ref fC) = true) (bC : Binds K fdC ["value"] []) :
    FnOk P w K mg base (L2.CX P w) 10 f fd ["self", "name"] (spGet C CN) := by
  refine F.okX scGet (fun vs H Q E h => ?_) (fun cdv A outer s H vs Q E hr h => ?_)
  · obtain ⟨p, hd, kvs, ld, k, rfl, _⟩ := h
    rfl
  · obtain ⟨p, hd, kvs, ld, k, rfl, ⟨dx, h1, h2⟩, hH, hok, kE, kQ⟩ := h
    have hu := hu_of hr
    refine ⟨_, pss_cons (ps_if (pt_cmp (pc_dnotin hu (pv 1) (pe_fld (pv 0) rfl))) (pss_one (ps_raiseNo rfl T.no hr (takes_of rfl rfl rfl rfl) (pa_cons (pv 1) pa_nil))) pss_nil)
      (pss_one (ps_ret (pe_call G (hr.mono (by decide)) rfl mC kC bC .nil pass0 (pa_cons (pe_dget hu (pe_fld (pv 0) rfl) (pv 1) (fun _ _ => rfl)) pa_nil)))), ?_⟩
    refine ⟨_, rfl, _, rfl, p, C, dx, _, _, rfl, h1, T.cl, T.nH, rfl, hd, _, rfl, DGet.k (k := Sum.inr k) h2, _, rfl, ?_⟩
    rcases held_look k hH with ⟨l1, l2⟩ | ⟨d, v, l1, l2, hv⟩
    · rw [l2]
      refine iteT ?_
      exact ⟨_, rfl, _, rfl, fun d hd => kE l1 d hd⟩
    · rw [l2]
      refine iteF ?_
      refine ⟨_, rfl, p, C, dx, _, _, rfl, h1, T.cl, T.nH, rfl, _, rfl, hd, v, rfl, ?_, v, d, rfl, hv, Nat.le_trans (hok _ (look_mem l1)).1 (by decide), (hok _ (look_mem l1)).2.1, kQ d l1⟩
      have q := DGet.k (k := Sum.inr k) h2
      rw [l2] at q
      exact q
theorem scPut : FnScope ["self", "name", "value"] ["self", "name", "value"] (defScope sPut) := ⟨rfl, rfl, rfl, by decide +kernel, rfl, by decide +kernel, by decide +kernel⟩
theorem ok_put {f fC : Addr} {fd fdC : FuncData} (F : Fun K "put" "Names.put" sPut f fd) (T : TxtN P K mg C CN fI) (G : FnOk P w K mg base CX0 8 fC fdC ["value"] (spCop 7)) (mC : mg "copied" = some (.ref fC)) (kC : PySem.W.keepIn K (.ref fC) = true) (bC : Binds K fdC ["value"] []) :
    FnOk P w K mg base CX0 10 f fd ["self", "name", "value"] (spPut C) := by
  refine F.ok scPut (fun vs H Q E h => ?_) (fun cdv A outer s H vs Q E hr h => ?_)
  · obtain ⟨p, hd, kvs, k, v, d, rfl, _⟩ := h
    rfl
  · obtain ⟨p, hd, kvs, k, v, d, rfl, ⟨dx, h1, h2⟩, hl, hv, hok, kQ⟩ := h
    have hu := hu_of hr
    refine ⟨_, pss_one (ps_dput hu (pe_fld (pv 0) rfl) (pv 1) (pe_call G (hr.mono (by decide)) rfl mC kC bC .nil pass0 (pa_cons (pv 2) pa_nil)) rfl), ?_⟩
    refine ⟨_, rfl, v, d, rfl, hv, Nat.le_trans hok.1 (by decide), hok.2.1, fun v' N H' e F1 t1 => ?_⟩
    refine ⟨_, rfl, p, C, dx, _, _, rfl, e _ _ h1, T.cl, T.nH, rfl, _, rfl, hd, _, rfl, DPut.k (k := Sum.inr k) (e _ _ h2) (small1000 hl), ?_⟩
    have nph : p ≠ hd := ne_of h1 h2 (by intro z; cases z)
    have nN : ∀ b o, N b = some o → b ≠ hd := fun b o q z => by
      rw [z] at q
      have := F1.new _ _ q
      rw [h2] at this
      cases this
    refine kQ v' N _ ⟨dx, by rw [upd_ne nph]; exact e _ _ h1, upd_same⟩ t1 ⟨fun b o q => by rw [upd_ne (nN b o q)]; exact F1.sub b o q, F1.new⟩ (fun b o q nb => by rw [upd_ne nb]; exact e b o q)
theorem scHas : FnScope ["self", "name"] ["self", "name"] (defScope sHas) := ⟨rfl, rfl, rfl, by decide +kernel, rfl, by decide +kernel, by decide +kernel⟩
theorem ok_has {f : Addr} {fd : FuncData} (F : Fun K "has" "Names.has" sHas f fd) (T : TxtN P K mg C CN fI) :
    FnOk P w K mg base CX0 2 f fd ["self", "name"] (spHas C) := by
  refine F.ok scHas (fun vs H Q E h => ?_) (fun cdv A outer s H vs Q E hr h => ?_)
  · obtain ⟨p, hd, kvs, k, rfl, _⟩ := h
    rfl
  · obtain ⟨p, hd, kvs, k, rfl, ⟨dx, h1, h2⟩, q⟩ := h
    have hu := hu_of hr
    refine ⟨_, pss_one (ps_ret (pe_cmp (pc_din hu (pv 1) (pe_fld (pv 0) rfl)) rfl)), ?_⟩
    exact ⟨_, rfl, _, rfl, p, C, dx, _, _, rfl, h1, T.cl, T.nH, rfl, hd, _, rfl, DGet.k (k := Sum.inr k) h2, q⟩
end
end K81

namespace K81
open PySem L2
/-- pairs of names and data, each a tuple -/
def PairsAt (H : Hp) : List V → DD → Prop := PySem.Paired fun x nd => ∃ t v, x = .ref t ∧ H t = some (.tup [.str nd.1, v]) ∧ Dt H v nd.2
theorem pairsAt_mono {H H' : Hp} (e : Same H H') : ∀ {xs : List V} {nds : DD}, PairsAt H xs nds → PairsAt H' xs nds
  | _, _, .nil => .nil
  | _, _, .cons h t => .cons (by
      obtain ⟨a, v, h1, h2, h3⟩ := h
      exact ⟨a, v, h1, e _ _ h2, Dt.mono e _ _ h3⟩) (pairsAt_mono e t)
theorem pairsAt_get {H : Hp} : ∀ {xs : List V} {nds : DD} {i : Nat} {x : V}, PairsAt H xs nds → xs[i]? = some x → ∃ nd t v, nds[i]? = some nd ∧ x = .ref t ∧ H t = some (.tup [.str nd.1, v]) ∧ Dt H v nd.2
  | _, _, i, x, .nil, e => by simp at e
  | _, _, 0, x, .cons (b := nd) h t, e => by
    simp at e
    subst e
    obtain ⟨a, v, h1, h2, h3⟩ := h
    exact ⟨nd, a, v, rfl, h1, h2, h3⟩
  | _, _, i + 1, x, .cons h t, e => pairsAt_get (i := i) t (by simpa using e)
/-- behind i turns of __init__'s comprehension: at D new tuples of names and copies -/
def IniI (H : Hp) (D : Addr) (nds : DD) (i : Nat) (H' : Hp) : Prop := Same H H' ∧ ∃ (ts : List Addr) (kvs : List (Key × V)) (N : Hp), H' D = some (.lst (ts.map V.ref)) ∧ N D = none ∧ Fresh H H' N ∧
  PySem.Paired (fun t (kv : Key × V) => H' t = some (.tup [kV kv.1, kv.2])) ts kvs ∧ Held N kvs (nds.take i)
theorem iniI0 {H : Hp} {D : Addr} {nds : DD} (hD : H D = none) : IniI H D nds 0 (upd H D (.lst [])) := ⟨same_upd hD, [], [], emp, upd_same, rfl, fresh_emp, .nil, .nil⟩
theorem paired_snoc {α β : Type} {R : α → β → Prop} : ∀ {xs : List α} {ys : List β} {x : α} {y : β}, PySem.Paired R xs ys → R x y → PySem.Paired R (xs ++ [x]) (ys ++ [y])
  | _, _, _, _, .nil, h => .cons h .nil
  | _, _, _, _, .cons r t, h => .cons r (paired_snoc t h)
theorem paired_map {α β : Type} {R S : α → β → Prop} (f : ∀ a b, R a b → S a b) : ∀ {xs : List α} {ys : List β}, PySem.Paired R xs ys → PySem.Paired S xs ys
  | _, _, .nil => .nil
  | _, _, .cons r t => .cons (f _ _ r) (paired_map f t)
theorem held_snoc {N : Hp} {kvs : List (Key × V)} {ld : DD} {k : Str} {v : V} {d : PyData} (h : Held N kvs ld) (hv : Dt N v d) : Held N (kvs ++ [(Sum.inr k, v)]) (ld ++ [(k, d)]) := held_app hv h
theorem iniI_step {H H' H2 N : Hp} {D U : Addr} {nds : DD} {i : Nat} {nd : Str × PyData} {v' : V} (hD : H D = none) (hnd : nds[i]? = some nd) (h : IniI H D nds i H') (e2 : Same H' H2) (F2 : Fresh H' H2 N) (t2 : Dt N v' nd.2) (hU : H2 U = none) :
    ∃ acc : List V, (upd H2 U (.tup [.str nd.1, v'])) D = some (.lst acc) ∧ acc.length = i ∧ IniI H D nds (i + 1) (upd (upd H2 U (.tup [.str nd.1, v'])) D (.lst (acc ++ [.ref U]))) := by
  obtain ⟨s1, ts, kvs, N0, hy, nD, F1, tp, t1⟩ := h
  have hlen : i < nds.length := (List.getElem?_eq_some_iff.mp hnd).1
  have hl : ts.length = i := by
    rw [PySem.Paired.length tp, held_len t1, List.length_take]
    omega
  have nDU : D ≠ U := ne_of_none (e2 _ _ hy) hU
  have ap : ∀ b o, N b = some o → N0 b = none := fun b o e => by
    have z := F2.new b o e
    cases q : N0 b with
    | none => rfl
    | some u =>
      rw [F1.sub b u q] at z
      cases z
  have nND : N D = none := by
    cases q : N D with
    | none => rfl
    | some u =>
      have z := F2.new D u q
      rw [hy] at z
      cases z
  have s3 : Same H2 (upd H2 U (.tup [.str nd.1, v'])) := same_upd hU
  refine ⟨ts.map V.ref, s3 _ _ (e2 _ _ hy), by rw [List.length_map]; exact hl, same_mut ((s1.trans e2).trans s3) hD, ts ++ [U], kvs ++ [(Sum.inr nd.1, v')], uni N0 N, ?_, ?_, ⟨fun b o e => ?_, fun b o e => ?_⟩, ?_, ?_⟩
  · rw [upd_same, List.map_append]
    rfl
  · unfold uni
    rw [nD]
    exact nND
  · have hb : b ≠ D := fun z => by
      rw [z] at e
      rcases uni_or e with q | q
      · rw [nD] at q
        cases q
      · rw [nND] at q
        cases q
    rw [upd_ne hb]
    rcases uni_or e with q | q
    · exact s3 _ _ (e2 _ _ (F1.sub b o q))
    · exact s3 _ _ (F2.sub b o q)
  · rcases uni_or e with q | q
    · exact F1.new b o q
    · exact Same.free s1 (F2.new b o q)
  · refine paired_snoc (paired_map (fun t kv q => ?_) tp) ?_
    · have n1 : t ≠ D := ne_of q hy (by intro z; cases z)
      rw [upd_ne n1]
      exact s3 _ _ (e2 _ _ q)
    · rw [upd_ne nDU.symm]
      exact upd_same
  · rw [take_more' hnd]
    exact held_snoc (held_mono uni_l t1) (Dt.mono (uni_r ap) _ _ t2)
def spInit (K : PySem.W.Frag) (C : Addr) : Sp := fun vs H Q _ => ∃ (p dx a : Addr) (xs : List V) (nds : DD), vs = [.ref p, .ref a] ∧ H p = some (.ins C dx []) ∧ (SqL K H a xs ∨ SqT K H a xs) ∧ PairsAt H xs nds ∧ nds.length ≤ 500 ∧ (∀ q ∈ nds, okD q.2) ∧
  ∀ (hd : Addr) (kvs : List (Key × V)) (N H' : Hp), NamesAt C H' p hd kvs → H hd = none → Held N kvs (mergeD [] nds) → Fresh H H' N → N hd = none → (∀ b o, H b = some o → b ≠ p → H' b = some o) → Q .non H'
theorem sqLT_mono {K : PySem.W.Frag} {H H' : Hp} {a : Addr} {xs : List V} (e : Same H H') (h : SqL K H a xs ∨ SqT K H a xs) : SqL K H' a xs ∨ SqT K H' a xs := by
  rcases h with h | h
  · exact .inl (h.elim (fun h => .inl (h.elim (fun h => .inl (e _ _ h)) fun ⟨o, h⟩ => .inr ⟨o, e _ _ h⟩)) fun h => .inr h)
  · exact .inr (h.elim (fun h => .inl (h.elim (fun h => .inl (e _ _ h)) fun ⟨o, h⟩ => .inr ⟨o, e _ _ h⟩)) fun h => .inr h)
theorem sqL_mono {K : PySem.W.Frag} {H H' : Hp} {a : Addr} {xs : List V} (e : Same H H') (h : SqL K H a xs) : SqL K H' a xs :=
  h.elim (fun h => .inl (h.elim (fun h => .inl (e _ _ h)) fun ⟨o, h⟩ => .inr ⟨o, e _ _ h⟩)) fun h => .inr h
theorem sqT_mono {K : PySem.W.Frag} {H H' : Hp} {a : Addr} {xs : List V} (e : Same H H') (h : SqT K H a xs) : SqT K H' a xs :=
  h.elim (fun h => .inl (h.elim (fun h => .inl (e _ _ h)) fun ⟨o, h⟩ => .inr ⟨o, e _ _ h⟩)) fun h => .inr h
section
variable {P : Program} {w : World} {K : PySem.W.Frag} {mg : Str → Option Value} {base : Heap} {C CN fI : Addr}
abbrev nInit : List Str := ["self", "pairs", "name", "value"]
theorem scInit : FnScope nInit ["self", "pairs"] (defScope sInit) := ⟨rfl, rfl, rfl, by decide +kernel, rfl, by decide +kernel, by decide +kernel⟩
theorem ok_init {f fC : Addr} {fd fdC : FuncData} {dvs : List V} {kws : List (Str × V)} (F : FunD K "__init__" "Names.__init__" (defArgs sInit) (defBody sInit) (defScope sInit) dvs kws f fd) (B : TxtB mg) (T : TxtN P K mg C CN fI) (G : FnOk P w K mg base CX0 8 fC fdC ["value"] (spCop 7)) (mC : mg "copied" = some (.ref fC)) (kC : PySem.W.keepIn K (.ref fC) = true) (bC : Binds K fdC ["value"] []) :
    FnOk P w K mg base CX0 10 f fd ["self", "pairs"] (spInit K C) := by
  refine F.ok scInit (fun vs H Q E h => ?_) (fun cdv A outer s H vs Q E hr h => ?_)
  · obtain ⟨p, dx, a, xs, nds, rfl, _⟩ := h
    rfl
  · obtain ⟨p, dx, a, xs, nds, rfl, h1, hS, hP, hl, hok, kQ⟩ := h
    refine ⟨_, pss_one (ps_fld (pv 0) (pe_callTy (call_dictP rfl) (by rfl) B.dict (by decide +kernel) (pa_cons (pe_lc (own := [("name", 2), ("value", 3)]) (g := gTup K 2 (gCons (gName 2) (gCons (gName 3) gNil))) (tt := tYes) rfl scInit.nd (pi_or (pi_list (pv 1)) (pi_tup (pv 1))) (blkOk_by (N := nInit) (sc := defScope sInit) (by decide +kernel))
      (fun _ _ _ _ _ => pg_tup rfl (pgs_cons (pg_name (i := 2) scInit.nd rfl (Or.inl rfl)) (pgs_cons (pg_name (i := 3) scInit.nd rfl (Or.inl rfl)) pgs_nil))) (fun _ _ _ _ _ => pts_nil)
      (fun _ _ _ _ _ => pe_tup (pa_cons (pv 2) (pa_cons (pe_call G (hr.mono (by decide)) rfl mC kC bC .nil pass0 (pa_cons (pv 3) pa_nil)) pa_nil)))) pa_nil)) rfl), ?_⟩
    have turn : ∀ (D : Addr) (hD : H D = none) (i : Nat) (x : V) (H' : Hp), xs[i]? = some x → IniI H D nds i H' → gTup K 2 (gCons (gName 2) (gCons (gName 3) gNil)) x (wipe (start nInit [.ref p, .ref a]) [2, 3]) H' fun σ2 H2 => wipe σ2 [2, 3] = wipe (start nInit [.ref p, .ref a]) [2, 3] ∧ tYes σ2 H2 fun b H3 =>
        if b = true then tTup (tCons (tVar 2) (tCons (tCall (spCop 7) [] E0 (tCons (tVar 3) tNil)) tNil)) σ2 H3 fun y H4 => ∃ acc, H4 D = some (.lst acc) ∧ acc.length < sizeLine ∧ IniI H D nds (i + 1) (upd H4 D (.lst (acc ++ [y]))) else IniI H D nds (i + 1) H3 := by
      intro D hD i x H' hx h
      obtain ⟨nd, t, v, hnd, rfl, ht, hv⟩ := pairsAt_get hP hx
      have hi : i < nds.length := (List.getElem?_eq_some_iff.mp hnd).1
      have hk := hok nd (List.mem_of_getElem? hnd)
      refine ⟨t, _, rfl, SqT.of (h.1 _ _ ht), rfl, _, _, rfl, _, _, rfl, rfl, rfl, ?_⟩
      refine ⟨_, rfl, _, rfl, v, nd.2, rfl, Dt.mono h.1 _ _ hv, Nat.le_trans hk.1 (by decide), hk.2.1, fun v' N H2 e2 F2 t2 => ⟨(by show 2 ≤ sizeLine; decide), fun U hU => ?_⟩⟩
      obtain ⟨acc, a1, a2, a3⟩ := iniI_step hD hnd h e2 F2 t2 hU
      exact ⟨acc, a1, sz_lt1 a2 (by omega), a3⟩
    have fin : ∀ (D : Addr) (hD : H D = none) (H' : Hp), IniI H D nds xs.length H' → _ := fun D hD H' h => (show ∃ (a : Addr) (ps : List Addr) (kvs : List (Key × V)), [V.ref D] = [V.ref a] ∧ SqL K H' a (ps.map V.ref) ∧ PySem.Paired (fun p kv => SqT K H' p [kV kv.1, kv.2]) ps kvs ∧ ∀ q, H' q = none → ∃ v, (start nInit [.ref p, .ref a])[0]? = some (some v) ∧ ∃ a C dx fs, v = .ref a ∧ (upd H' q (.dK (mergeK [] kvs))) a = some (.ins C dx fs) ∧ Cls K C ∧ NoAttr K C "held" ∧ fs.length < 1000 ∧ Q .non (upd (upd H' q (.dK (mergeK [] kvs))) a (.ins C dx (putF "held" (.ref q) fs))) by
      obtain ⟨s1, ts, kvs, N, hy, nD, F1, tp, t1⟩ := h
      have e1 : xs.length = nds.length := PySem.Paired.length hP
      rw [e1, List.take_length] at t1
      refine ⟨D, ts, kvs, rfl, SqL.of hy, paired_map (fun t kv q => SqT.of q) tp, fun q hq => ⟨_, rfl, p, C, dx, [], rfl, ?_, T.cl, T.nH, (by show 0 < 1000; decide), ?_⟩⟩
      · rw [upd_ne (ne_of_none (s1 _ _ h1) hq)]
        exact s1 _ _ h1
      · have nqp : q ≠ p := (ne_of_none (s1 _ _ h1) hq).symm
        have nNq : N q = none := by
          cases z : N q with
          | none => rfl
          | some o =>
            rw [F1.sub _ _ z] at hq
            cases hq
        have nNp : ∀ b o, N b = some o → b ≠ p := fun b o z y => by
          rw [y] at z
          have := F1.new _ _ z
          rw [h1] at this
          cases this
        refine kQ q (mergeK [] kvs) N _ ⟨dx, upd_same, by rw [upd_ne nqp, upd_same]⟩ (Same.free s1 hq) (held_merge t1 .nil) ⟨fun b o z => ?_, F1.new⟩ nNq (fun b o z nb => ?_)
        · rw [upd_ne (nNp b o z), upd_ne (ne_of_none (F1.sub b o z) hq)]
          exact F1.sub b o z
        · rw [upd_ne nb, upd_ne (ne_of_none (s1 b o z) hq)]
          exact s1 b o z)
    rcases hS with hS | hS
    · exact .inl ⟨_, rfl, a, rfl, ⟨xs, hS⟩, fun D hD => lc_list (K := K) (a := a) (xs := xs) (IniI H D nds) (iniI0 hD) (fun i H' _ h => sqL_mono h.1 hS) (turn D hD) (fin D hD)⟩
    · exact .inr ⟨_, rfl, a, rfl, ⟨xs, hS⟩, fun D hD => lc_tup (K := K) (a := a) (xs := xs) (IniI H D nds) (iniI0 hD) (fun i H' _ h => sqT_mono h.1 hS) (turn D hD) (fin D hD)⟩
end
end K81

namespace K81
open PySem L2
theorem fresh_in {H H2 N : Hp} {U : Addr} {o : HO} (e2 : Same H H2) (F : Fresh H H2 N) (hU : H2 U = none) : Fresh H (upd H2 U o) (upd N U o) ∧ N U = none := by
  refine ⟨Fresh.upd ⟨F.sub.trans (same_upd hU), F.new⟩ (Same.free e2 hU) upd_same, ?_⟩
  cases z : N U with
  | none => rfl
  | some u =>
    rw [F.sub _ _ z] at hU
    cases hU
def entD (ld : DD) (ys : List Str) : List PyData := ys.map fun k => .tuple [.str k, (lookD ld k).getD .none]
def spEnt (C : Addr) : Sp := fun vs H Q _ => ∃ (p hd : Addr) (kvs : List (Key × V)) (ld : DD), vs = [.ref p] ∧ NamesAt C H p hd kvs ∧ Held H kvs ld ∧ ld.length ≤ 60 ∧ (∀ q ∈ ld, okD q.2) ∧
  ∀ (ys : List Str) (D : Addr) (N H' : Hp), ys.Perm (keysD ld) → PyProof.Rows.sortedS ys = true → Same H H' → Fresh H H' N → Dt N (.ref D) (.list (entD ld ys)) → Q (.ref D) H'
def dK (ld : DD) : List (Key × PyData) := ld.map fun p => (Sum.inr p.1, p.2)
theorem held_dpairs {K : PySem.W.Frag} {N : Hp} : ∀ {kvs : List (Key × V)} {ld : DD}, Held N kvs ld → (∀ q ∈ ld, SeqAt.shaped q.2 = true) → DPairs K N kvs (dK ld)
  | _, _, .nil, _ => .nil
  | _, _, @PySem.Paired.cons _ _ _ p q ps qs h t, hs => .cons (b := (Sum.inr q.1, q.2)) ⟨h.1, Dt.dp _ _ h.2, hs q List.mem_cons_self⟩ (held_dpairs t fun r hr => hs r (List.mem_cons_of_mem _ hr))
/-- names == y: y other names, or no names -/
def spEq (C : Addr) : Sp := fun vs H Q _ => ∃ (p hd : Addr) (kvs : List (Key × V)) (ld : DD) (y : V), vs = [.ref p, y] ∧ NamesAt C H p hd kvs ∧ Held H kvs ld ∧ (∀ q ∈ ld, SeqAt.shaped q.2 = true) ∧
  ((∃ (q hd2 : Addr) (kvs2 : List (Key × V)) (ld2 : DD), y = .ref q ∧ NamesAt C H q hd2 kvs2 ∧ Held H kvs2 ld2 ∧ (∀ q ∈ ld2, SeqAt.shaped q.2 = true) ∧ Q (.bl (ld.length == ld2.length && eqHits (dK ld2) (dK ld))) H) ∨
    (∃ (q : Addr), y = .ref q ∧ ((∃ xs, H q = some (.lst xs)) ∨ ∃ kk, H q = some (.dK kk)) ∧ Q (.bl false) H))
section
variable {P : Program} {w : World} {K : PySem.W.Frag} {mg : Str → Option Value} {base : Heap} {C CN fI : Addr}
theorem scEnt : FnScope ["self", "name"] ["self"] (defScope sEnt) := ⟨rfl, rfl, rfl, by decide +kernel, rfl, by decide +kernel, by decide +kernel⟩
theorem ok_ent {f fC : Addr} {fd fdC : FuncData} (F : Fun K "entries" "Names.entries" sEnt f fd) (B : TxtB mg) (T : TxtN P K mg C CN fI) (G : FnOk P w K mg base CX0 8 fC fdC ["value"] (spCop 7)) (mC : mg "copied" = some (.ref fC)) (kC : PySem.W.keepIn K (.ref fC) = true) (bC : Binds K fdC ["value"] []) :
    FnOk P w K mg base CX0 10 f fd ["self"] (spEnt C) := by
  refine F.ok scEnt (fun vs H Q E h => ?_) (fun cdv A outer s H vs Q E hr h => ?_)
  · obtain ⟨p, hd, kvs, ld, rfl, _⟩ := h
    rfl
  · obtain ⟨p, hd, kvs, ld, rfl, ⟨dx, h1, h2⟩, hH, hl, hok, kQ⟩ := h
    have hu := hu_of hr
    refine ⟨_, pss_one (ps_ret (pe_lc (own := [("name", 1)]) (g := gName 1) (tt := tYes) rfl scEnt.nd (pi_list (pe_callB (call_sortedD rfl) (by rfl) B.sorted (by decide +kernel) (pa_cons (pe_fld (pv 0) rfl) pa_nil))) (blkOk_by (N := ["self", "name"]) (sc := defScope sEnt) (by decide +kernel))
      (fun _ _ _ _ _ => pg_name (i := 1) scEnt.nd rfl (Or.inl rfl)) (fun _ _ _ _ _ => pts_nil)
      (fun _ _ _ _ _ => by exact pe_tup (pa_cons (pv 1) (pa_cons (pe_call G (hr.mono (by decide)) rfl mC kC bC .nil pass0 (by
        refine pa_cons (te := tDGet (tFld K (tVar 0) "held") (tVar 1)) ?_ pa_nil
        refine pe_dget hu (td := tFld K (tVar 0) "held") (ty := tVar 1) ?_ ?_ ?_
        · refine pe_fld (ta := tVar 0) ?_ ?_
          · exact pv 0
          · rfl
        · exact pv 1
        · exact fun _ _ => rfl)) pa_nil))))), ?_⟩
    refine ⟨_, rfl, p, C, dx, _, _, rfl, h1, T.cl, T.nH, rfl, hd, kvs, keysD ld, rfl, .inl h2, held_keys hH, (by unfold keysD; rw [List.length_map]; omega), fun ys S hp hs hS => ?_⟩
    have s1 : Same H (upd H S (.lst (ys.map V.str))) := same_upd hS
    have q1 : (upd H S (.lst (ys.map V.str))) S = some (.lst (ys.map V.str)) := upd_same
    generalize upd H S (.lst (ys.map V.str)) = H1 at s1 q1
    refine ⟨S, rfl, ⟨_, SqL.of q1⟩, fun D hD => ?_⟩
    have hlen : (ys.map V.str).length = (entD ld ys).length := by
      unfold entD
      rw [List.length_map, List.length_map]
    refine lc_list (K := K) (a := S) (xs := ys.map V.str) (CopI H1 D (entD ld ys)) (copI0 hD) (fun i H' _ h => SqL.of (h.1 _ _ q1)) (fun i x H' hx h => ?_) (fun H' h => ?_)
    · obtain ⟨k, hk, rfl⟩ : ∃ k, ys[i]? = some k ∧ x = V.str k := by
        rw [List.getElem?_map] at hx
        cases e : ys[i]? with
        | none =>
          rw [e] at hx
          cases hx
        | some k =>
          rw [e] at hx
          exact ⟨k, rfl, (Option.some.inj hx).symm⟩
      have hil : i < ys.length := (List.getElem?_eq_some_iff.mp hk).1
      have hyl : ys.length = ld.length := by
        rw [hp.length_eq]
        unfold keysD
        rw [List.length_map]
      have hkl : k ∈ keysD ld := hp.mem_iff.mp (List.mem_of_getElem? hk)
      obtain ⟨d, hd1⟩ := look_key hkl
      have sH : Same H H' := s1.trans h.1
      rcases held_look k hH with ⟨l1, _⟩ | ⟨d', v, l1, l2, hv⟩
      · rw [l1] at hd1
        cases hd1
      · rw [l1] at hd1
        cases hd1
        have hkk := hok _ (look_mem l1)
        have hdx : (entD ld ys)[i]? = some (.tuple [.str k, d]) := by
          unfold entD
          rw [List.getElem?_map, hk]
          show some (PyData.tuple [.str k, (lookD ld k).getD .none]) = _
          rw [l1]
          rfl
        have qg := DGet.k (k := Sum.inr k) (sH _ _ h2)
        rw [l2] at qg
        refine ⟨rfl, _, rfl, _, rfl, p, C, dx, _, _, rfl, sH _ _ h1, T.cl, T.nH, rfl, _, rfl, hd, v, rfl, qg, v, d, rfl, Dt.mono sH _ _ hv, Nat.le_trans hkk.1 (by decide), hkk.2.1, fun v' N H2 e2 F2 t2 => ⟨(by show 2 ≤ sizeLine; decide), fun U hU => ?_⟩⟩
        obtain ⟨F3, nU⟩ := fresh_in (o := .tup [.str k, v']) e2 F2 hU
        obtain ⟨acc, N0, a1, a2, a3⟩ := copI_step hD hdx h (same_upd2 e2 hU) F3 (.tup upd_same (.cons (.str k) (.cons (Dt.mono (same_upd nU) _ _ t2) .nil)))
        exact ⟨acc, a1, sz_lt1 a2 (by omega), a3⟩
    · obtain ⟨s2, zs, N, hy, nD, F1, t1⟩ := copI_end hlen h
      have F2 : Fresh H H' (upd N D (.lst zs)) := ⟨(F1.upd hD hy).sub, fun b o e => Same.free s1 ((F1.upd hD hy).new b o e)⟩
      exact kQ ys D (upd N D (.lst zs)) H' hp hs (s1.trans s2) F2 (.lst upd_same (DtAll.mono (same_upd nD) _ _ t1))
theorem scEq : FnScope ["self", "other"] ["self", "other"] (defScope sEq) := ⟨rfl, rfl, rfl, by decide +kernel, rfl, by decide +kernel, by decide +kernel⟩
theorem ok_eq {f : Addr} {fd : FuncData} (F : Fun K "__eq__" "Names.__eq__" sEq f fd) (B : TxtB mg) (T : TxtN P K mg C CN fI) :
    FnOk P w K mg base CX0 2 f fd ["self", "other"] (spEq C) := by
  refine F.ok scEq (fun vs H Q E h => ?_) (fun cdv A outer s H vs Q E hr h => ?_)
  · obtain ⟨p, hd, kvs, ld, y, rfl, _⟩ := h
    rfl
  · obtain ⟨p, hd, kvs, ld, y, rfl, ⟨dx, h1, h2⟩, hH, hs, h⟩ := h
    have hu : (A.deeper (PyProof.Rows.envOfC "Names.__eq__" (defScope sEq) s.heap.objs.size f cdv)).units + 70 < cLine := by
      have := hr.un
      omega
    refine ⟨_, pss_one (ps_ret (pe_and (pe_callB call_isi (by rfl) B.isinstance (by decide +kernel) (pa_cons (pv 1) (pa_cons (pe_glob (v := .ref C) rfl T.mgC rfl) pa_nil))) (pe_one (pe_cmpR (op_eqDD hu) (pe_fld (pv 0) rfl) (pe_fld (pv 1) rfl) (nomark _))))), ?_⟩
    rcases h with ⟨q, hd2, kvs2, ld2, rfl, ⟨dx2, g1, g2⟩, gH, gs, kQ⟩ | ⟨q, rfl, hq, kQ⟩
    · refine ⟨_, rfl, _, .ref C, _, _, true, rfl, .own C, .base (.ins g1 T.cl T.ha T.hn T.htk T.hm), T.kC, true, rfl, iteT ?_⟩
      refine ⟨_, rfl, p, C, dx, _, _, rfl, h1, T.cl, T.nH, rfl, _, rfl, q, C, dx2, _, _, rfl, g1, T.cl, T.nH, rfl, hd, hd2, kvs, kvs2, dK ld, dK ld2, rfl, rfl, h2, g2, held_dpairs hH hs, held_dpairs gH gs, ?_⟩
      unfold dK
      rw [List.length_map, List.length_map]
      exact kQ
    · rcases hq with ⟨xs, hx⟩ | ⟨kk, hx⟩
      · exact ⟨_, rfl, _, .ref C, _, _, false, rfl, .own C, .base (.lst hx), T.kL, false, rfl, iteF kQ⟩
      · exact ⟨_, rfl, _, .ref C, _, _, false, rfl, .own C, .base (.dK hx), T.kD, false, rfl, iteF kQ⟩
end
end K81

namespace K81
open PySem L2
section
variable {X : Cx} {CX : CXT} {k : Nat} {f C : Addr} {fd : FuncData} {ps : List Str} {sp : Sp} {E : St → XK} {m : Str} {pos apos : Pos} {e o : Expr} {es : List Expr} {ta : TE} {t : TA}
/-- o.m(e, ..), what is raised wished for at the caller's slots -/
def tMethAt (C : Addr) (m : Str) (sp : Sp) (E : St → XK) (ta : TE) (t : TA) : TE := fun σ H Q => ta σ H fun x H1 => ∃ a dx fs, x = .ref a ∧ H1 a = some (.ins C dx fs) ∧ fs.lookup m = none ∧ t σ H1 fun vs H2 => sp (x :: vs) H2 Q (E σ)
theorem pe_methAt {pl : Sem Bool} (ho : PE X o ta) (c : Cls X.K C) (hm : Meth X.K C m f) (F : FnOk X.prog X.w X.K X.mg X.base CX k f fd ps sp) (hr : Room k X.A) (hb : Binds X.K fd ps []) (hx : ∀ σ, PassesAt CX X σ (E σ)) (ha : PA X (e :: es) t)
    (h1 : starEach (e :: es) X.env = (false, eval e X.env) :: starEach es X.env := by rfl) (h2 : (backTo pos (starEach es X.env)).any (·.1) = false := by rfl)
    (h3 : eval (.Call (.Attribute o m apos) (e :: es) [] pos) X.env = (eval o X.env >>= fun ov => standAt apos.atName >>= fun _ => holding [ov] (getMethod ov m pl) >>= fun r =>
      callWith pos r.1 r.2 (backTo pos (starEach (e :: es) X.env)) (backToKw pos (keywordEach [] X.env))) := by rfl) :
    PE X (.Call (.Attribute o m apos) (e :: es) [] pos) (tMethAt C m sp E ta t) :=
  ⟨fun pins s σ H Q I h => PySem.W.methodCall_KW (pl := pl) (thn (ho.run pins s σ H _ I h) fun u s1 hh => by
    obtain ⟨y, H1, I1, ry, a, dx, fs, rfl, ea, l, q⟩ := hh
    cases ry
    exact getmeth_ok I1 ea c hm l (PySem.W.callWith_K (first := [.ref a]) (h₀ := X.base) I.ok.mod.kin hm.kp (thn (ha.run pos pins s1 σ H1 _ I1 q) fun us s2 zz => by
      obtain ⟨vs, H2, I2, r, q2⟩ := zz
      exact ⟨I2.kIn, run_fnS (us := .ref a :: us) (vs := .ref a :: vs) F hr hb (hx σ) I2 (.cons rfl r) q2⟩) h1 h2)) h3⟩
end
/-! ### what get tells -/
def gotD (ld : DD) (k : Str) : PyData := match lookD ld k with
  | some d => .tuple [.str "told", d]
  | none => .tuple [.str "none", .str k]
def spGot (C : Addr) : Sp := fun vs H Q _ => ∃ (p hd : Addr) (kvs : List (Key × V)) (ld : DD) (k : Str), vs = [.ref p, .str k] ∧ NamesAt C H p hd kvs ∧ Held H kvs ld ∧ (∀ q ∈ ld, okD q.2) ∧
  ∀ (v : V) (H' : Hp), Same H H' → Dt H' v (gotD ld k) → Q v H'
section
variable {P : Program} {w : World} {K : PySem.W.Frag} {mg : Str → Option Value} {base : Heap} {C CN fI : Addr}
abbrev nGot : List Str := ["_law_names", "_law_name", "_law_found", "e"]
theorem scGot : FnScope nGot ["_law_names", "_law_name"] (defScope sGot) := ⟨rfl, rfl, rfl, by decide +kernel, rfl, by decide +kernel, by decide +kernel⟩
theorem ok_got {f fG : Addr} {fd fdG : FuncData} (F : Fun K "_law_got" "_law_got" sGot f fd) (B : TxtB mg) (T : TxtN P K mg C CN fI) (G : FnOk P w K mg base (L2.CX P w) 10 fG fdG ["self", "name"] (spGet C CN)) (mG : Meth K C "get" fG) (bG : Binds K fdG ["self", "name"] []) :
    FnOk P w K mg base CX0 12 f fd ["_law_names", "_law_name"] (spGot C) := by
  refine F.ok scGot (fun vs H Q E h => ?_) (fun cdv A outer s H vs Q E hr h => ?_)
  · obtain ⟨p, hd, kvs, ld, k, rfl, _⟩ := h
    rfl
  · obtain ⟨p, hd, kvs, ld, k, rfl, hN, hH, hok, kQ⟩ := h
    have hr1 : Room 10 _ := hr.mono (by decide)
    refine ⟨_, pss_cons (ps_set (i := 2) scGot.nd rfl (Or.inl rfl) pe_non)
      (pss_cons (ps_try_as (i := 3) (tb := fun W => tAsg (tTup (tCons (tC (.str "told")) (tCons (tMethAt C "get" (spGet C CN) (WE W) (tVar 0) (tCons (tVar 1) tNil)) tNil))) (gName 2)) (ts := fun a cls d => tAsg (tTup (tCons (tC (.str "none")) (tCons (tByNo CN a cls d (tVar 3)) tNil))) (gName 2)) (Wout := fun _ _ _ _ => False) rfl rfl scGot.nd rfl rfl ⟨rfl, by decide, Or.inl T.no.gC⟩ takes0
        (fun W pn xe tk _ => pss_one (ps_set (i := 2) scGot.nd rfl (Or.inl rfl) (by exact pe_tup (pa_cons pe_str (pa_cons (by exact pe_methAt (pv 0) T.cl mG G hr1 bG (fun σ => passAt tk σ) (by exact pa_cons (pv 1) pa_nil)) pa_nil)))))
        (fun a oe cls d pn hz hf => pss_one (ps_set (i := 2) scGot.nd rfl (Or.inl rfl) (by exact pe_tup (pa_cons pe_str (pa_cons (pe_byNo T.no hz hf (pv 3)) pa_nil))))))
      (pss_one (ps_ret (pv 2)))), ?_⟩
    obtain ⟨dx, h1, h2⟩ := id hN
    refine ⟨_, rfl, p, dx, _, rfl, h1, rfl, _, rfl, p, hd, kvs, ld, k, rfl, hN, hH, hok, fun hno d hd => ?_, fun dd hdd v' N H' e F1 t1 => ?_⟩
    · refine ⟨true, T.no.te, fun _ a ha => ?_, fun z => Bool.noConfusion z⟩
      refine ⟨_, rfl, rfl, rfl, d, _, rfl, upd_same, (by show 2 ≤ sizeLine; decide), fun U hU => ?_⟩
      refine ⟨_, rfl, kQ _ _ (same_upd2 (same_upd hd) hU) ?_⟩
      unfold gotD
      rw [hno]
      exact .tup upd_same (.cons (.str _) (.cons (.str _) .nil))
    · refine ⟨(by show 2 ≤ sizeLine; decide), fun U hU => ⟨_, rfl, kQ _ _ (same_upd2 e hU) ?_⟩⟩
      unfold gotD
      rw [hdd]
      exact .tup upd_same (.cons (.str _) (.cons (Dt.mono (F1.sub.trans (same_upd hU)) _ _ t1) .nil))
end
end K81

namespace K81
open PySem L2 PyProof.Rows
/-! ### names equal and unequal, by the mirror -/
def eqDD (A B : DD) : Bool := A.length == B.length && eqHits (dK B) (dK A)
def val (ld : DD) (k : Str) : PyData := (lookD ld k).getD .none
def al (d : PyData) : PyData := match d with
  | .bool true => .int 1
  | _ => d
theorem find_dK (k : Str) : ∀ B : DD, ((dK B).find? fun kv => decide (kv.1 = (Sum.inr k : Key))).map (·.2) = lookD B k
  | [] => rfl
  | p :: B => by
    have ih := find_dK k B
    unfold lookD at ih ⊢
    show (((Sum.inr p.1, p.2) :: dK B).find? fun kv => decide (kv.1 = (Sum.inr k : Key))).map (·.2) = _
    rw [List.find?_cons, List.find?_cons, key_rr]
    by_cases e : p.1 = k
    · rw [decide_eq_true e]
      rfl
    · rw [decide_eq_false e]
      exact ih
theorem hits_true {B : DD} : ∀ {A : DD}, (∀ p ∈ A, ∃ e, lookD B p.1 = some e ∧ PyData.eqv p.2 e = true) → eqHits (dK B) (dK A) = true
  | [], _ => rfl
  | p :: A, h => by
    obtain ⟨e, h1, h2⟩ := h p List.mem_cons_self
    show (match ((dK B).find? fun kv => decide (kv.1 = (Sum.inr p.1 : Key))).map (·.2) with
      | none => false
      | some e => PyData.eqv p.2 e && eqHits (dK B) (dK A)) = true
    rw [find_dK, h1]
    show (PyData.eqv p.2 e && eqHits (dK B) (dK A)) = true
    rw [h2, hits_true fun q hq => h q (List.mem_cons_of_mem _ hq)]
    rfl
theorem eqDD_true {A B : DD} (hl : A.length = B.length) (h : ∀ p ∈ A, ∃ e, lookD B p.1 = some e ∧ PyData.eqv p.2 e = true) : eqDD A B = true := by
  unfold eqDD
  rw [hits_true h, hl]
  simp
theorem eqDD_len {A B : DD} (hl : A.length ≠ B.length) : eqDD A B = false := by
  unfold eqDD
  rw [show (A.length == B.length) = false by simpa using hl]
  rfl
theorem merge_app : ∀ {m l : DD}, (keysD l ++ keysD m).Nodup → mergeD l m = l ++ m
  | [], l, _ => (List.append_nil l).symm
  | p :: m, l, h => by
    have hp : p.1 ∉ keysD l := fun z => by
      have := (List.nodup_append.mp h).2.2 p.1 z p.1 List.mem_cons_self
      exact this rfl
    have e : putD l p.1 p.2 = l ++ [p] := by
      unfold putD
      rw [if_neg (fun z => hp (any_key.mp z))]
    show mergeD (putD l p.1 p.2) m = l ++ p :: m
    rw [e, merge_app (m := m) (l := l ++ [p])]
    · rw [List.append_assoc]
      rfl
    · unfold keysD at h ⊢
      rw [List.map_append, List.append_assoc]
      exact h
theorem keys_map {ks : List Str} {f : Str → PyData} : keysD (ks.map fun k => (k, f k)) = ks := by
  unfold keysD
  rw [List.map_map]
  show ks.map (fun k => k) = ks
  exact List.map_id' ks
theorem look_map {f : Str → PyData} {k : Str} : ∀ {ks : List Str}, k ∈ ks → lookD (ks.map fun k => (k, f k)) k = some (f k)
  | [], h => nomatch h
  | j :: ks, h => by
    unfold lookD
    rw [List.map_cons, List.find?_cons]
    by_cases e : j = k
    · rw [decide_eq_true e, e]
      rfl
    · rw [decide_eq_false e]
      rcases List.mem_cons.mp h with z | z
      · exact absurd z.symm e
      · exact look_map z
theorem mem_val {ld : DD} {k : Str} (h : k ∈ keysD ld) : (k, val ld k) ∈ ld ∧ lookD ld k = some (val ld k) := by
  obtain ⟨d, hd⟩ := look_key h
  have e : val ld k = d := by
    unfold val
    rw [hd]
    rfl
  rw [e]
  exact ⟨look_mem hd, hd⟩
section
variable {ld : DD} {ks : List Str} {f : Str → PyData}
/-- the same names, each value equal to the one told by f -/
theorem eq_both (nd : (keysD ld).Nodup) (p : ks.Perm (keysD ld)) (h : ∀ k ∈ keysD ld, PyData.eqv (val ld k) (f k) = true ∧ PyData.eqv (f k) (val ld k) = true) :
    eqDD ld (mergeD [] (ks.map fun k => (k, f k))) = true ∧ eqDD (mergeD [] (ks.map fun k => (k, f k))) ld = true := by
  have e : mergeD [] (ks.map fun k => (k, f k)) = ks.map fun k => (k, f k) := by
    rw [merge_app]
    · rfl
    · show (keysD (ks.map fun k => (k, f k))).Nodup
      rw [keys_map]
      exact p.symm.nodup nd
  rw [e]
  have hl : ld.length = (ks.map fun k => (k, f k)).length := by
    rw [List.length_map, p.length_eq]
    unfold keysD
    rw [List.length_map]
  constructor
  · refine eqDD_true hl fun q hq => ?_
    have hk : q.1 ∈ keysD ld := List.mem_map.mpr ⟨q, hq, rfl⟩
    have hv : lookD ld q.1 = some q.2 := look_nodup nd hq
    have ev : val ld q.1 = q.2 := by
      unfold val
      rw [hv]
      rfl
    refine ⟨f q.1, look_map (p.mem_iff.mpr hk), ?_⟩
    rw [← ev]
    exact (h q.1 hk).1
  · refine eqDD_true hl.symm fun q hq => ?_
    obtain ⟨k, hk, rfl⟩ := List.mem_map.mp hq
    have hk' := p.mem_iff.mp hk
    exact ⟨val ld k, (mem_val hk').2, (h k hk').2⟩
end
theorem menu_eqv {d : PyData} (h : d ∈ menu) : PyData.eqv d d = true ∧ PyData.eqv d (al d) = true ∧ PyData.eqv (al d) d = true ∧ PyData.eqv d (.list [d]) = false ∧ PyData.eqv (.list [d]) d = false ∧ PyData.depth d ≤ 3 ∧ small d = true ∧ SeqAt.shaped d = true ∧ SeqAt.shaped (.list [d]) = true ∧ SeqAt.shaped (al d) = true ∧ PyData.depth (al d) ≤ 3 ∧ small (al d) = true ∧ PyData.depth (.list [d]) ≤ 4 ∧ small (.list [d]) = true := by
  unfold menu at h
  simp only [List.mem_cons, List.not_mem_nil, or_false] at h
  rcases h with rfl | rfl | rfl | rfl | rfl | rfl | rfl | rfl | rfl <;> decide +kernel
theorem okD_menu {d : PyData} (h : d ∈ menu) : okD d := ⟨Nat.le_trans (menu_eqv h).2.2.2.2.2.1 (by decide), (menu_eqv h).2.2.2.2.2.2.1, (menu_eqv h).2.2.2.2.2.2.2.1⟩
theorem okD_al {d : PyData} (h : d ∈ menu) : okD (al d) := ⟨Nat.le_trans (menu_eqv h).2.2.2.2.2.2.2.2.2.2.1 (by decide), (menu_eqv h).2.2.2.2.2.2.2.2.2.2.2.1, (menu_eqv h).2.2.2.2.2.2.2.2.2.1⟩
theorem okD_box {d : PyData} (h : d ∈ menu) : okD (.list [d]) := ⟨(menu_eqv h).2.2.2.2.2.2.2.2.2.2.2.2.1, (menu_eqv h).2.2.2.2.2.2.2.2.2.2.2.2.2, (menu_eqv h).2.2.2.2.2.2.2.2.1⟩
/-- one name, its value boxed -/
theorem eq_box {ld : DD} {ks : List Str} (nd : (keysD ld).Nodup) (p : ks.Perm (keysD ld)) (hne : ks ≠ []) (hm : ∀ q ∈ ld, q.2 ∈ menu) :
    eqDD ld (mergeD [] ((ks.take 1).map fun k => (k, .list [val ld k]))) = false ∧ eqDD (mergeD [] ((ks.take 1).map fun k => (k, .list [val ld k]))) ld = false := by
  have hl : ks.length = ld.length := by
    rw [p.length_eq]
    unfold keysD
    rw [List.length_map]
  cases ks with
  | nil => exact absurd rfl hne
  | cons k ks =>
    have e : mergeD [] (((k :: ks).take 1).map fun k => (k, PyData.list [val ld k])) = [(k, .list [val ld k])] := rfl
    rw [e]
    cases ks with
    | cons j ks =>
      have h2 : ld.length ≠ ([(k, PyData.list [val ld k])] : DD).length := by
        rw [← hl]
        show ks.length + 1 + 1 ≠ 1
        omega
      exact ⟨eqDD_len h2, eqDD_len h2.symm⟩
    | nil =>
      match ld, hl with
      | [(j, d)], _ =>
        have hj : k = j := by
          have : k ∈ keysD [(j, d)] := p.mem_iff.mp List.mem_cons_self
          simpa [keysD] using this
        subst hj
        have hd := hm (k, d) List.mem_cons_self
        have ev : val [(k, d)] k = d := by
          unfold val lookD
          rw [List.find?_cons, decide_eq_true rfl]
          rfl
        rw [ev]
        have m1 := (menu_eqv hd).2.2.2.1
        have m2 := (menu_eqv hd).2.2.2.2.1
        have look1 : ∀ e : PyData, lookD [(k, e)] k = some e := fun e => by
          unfold lookD
          rw [List.find?_cons, decide_eq_true rfl]
          rfl
        constructor
        · show (true && (match ((dK [(k, PyData.list [d])]).find? fun kv => decide (kv.1 = (Sum.inr k : Key))).map (·.2) with
            | none => false
            | some e => PyData.eqv d e && true)) = false
          rw [find_dK, look1]
          show (true && (PyData.eqv d (.list [d]) && true)) = false
          rw [m1]
          rfl
        · show (true && (match ((dK [(k, d)]).find? fun kv => decide (kv.1 = (Sum.inr k : Key))).map (·.2) with
            | none => false
            | some e => PyData.eqv (.list [d]) e && true)) = false
          rw [find_dK, look1]
          show (true && (PyData.eqv (.list [d]) d && true)) = false
          rw [m2]
          rfl
/-- one name more -/
theorem eq_more {ld : DD} {k : Str} {d : PyData} (nd : (keysD ld).Nodup) (hk : k ∉ keysD ld) : eqDD ld (mergeD [] (ld ++ [(k, d)])) = false ∧ eqDD (mergeD [] (ld ++ [(k, d)])) ld = false := by
  have e : mergeD [] (ld ++ [(k, d)]) = ld ++ [(k, d)] := by
    rw [merge_app]
    · rfl
    · show (keysD (ld ++ [(k, d)])).Nodup
      unfold keysD at nd hk ⊢
      rw [List.map_append, List.nodup_append]
      exact ⟨nd, by simp, fun a ha b hb z => hk (by simp at hb; rw [hb] at z; rw [← z]; exact ha)⟩
  rw [e]
  have h2 : ld.length ≠ (ld ++ [(k, d)]).length := by
    rw [List.length_append]
    simp
  exact ⟨eqDD_len h2, eqDD_len h2.symm⟩
end K81

namespace K81
open PySem L2 PyProof.Rows
/-- x is True, of anything -/
def rIsTrue : R2 := fun x y H Q => y = .bl true ∧ Q (.bl (decide (x = .bl true))) H
theorem op_isTrue {X : Cx} : OpR X (compareOp .Is) rIsTrue := by
  intro pins s σ H x y v u Q I rx ry h
  obtain ⟨rfl, q⟩ := h
  cases (show u = Value.bool true from ry)
  by_cases e : x = .bl true
  · subst e
    cases (show v = Value.bool true from rx)
    exact wpAny_is_self rfl ⟨.bl true, H, I, rfl, by simpa using q⟩
  · have q' : Q (.bl false) H := by
      rw [decide_eq_false e] at q
      exact q
    cases x with
    | non =>
      cases (show v = Value.none from rx)
      exact wpAny_is_other rfl (fun z => nomatch z) ⟨.bl false, H, I, rfl, q'⟩
    | bl b =>
      cases (show v = Value.bool b from rx)
      exact wpAny_is_other rfl (fun z => e (congrArg V.bl (Value.bool.inj z))) ⟨.bl false, H, I, rfl, q'⟩
    | int i =>
      obtain ⟨t, rfl⟩ := (show ∃ t, v = Value.int i t from rx)
      exact wpAny_is_other rfl (fun z => nomatch z) ⟨.bl false, H, I, rfl, q'⟩
    | str z =>
      obtain ⟨t, rfl⟩ := (show ∃ t, v = Value.str z t from rx)
      exact wpAny_is_other rfl (fun z => nomatch z) ⟨.bl false, H, I, rfl, q'⟩
    | byt b =>
      obtain ⟨t, rfl⟩ := (show ∃ t, v = Value.bytes b t from rx)
      exact wpAny_is_other rfl (fun z => nomatch z) ⟨.bl false, H, I, rfl, q'⟩
    | flt b =>
      obtain ⟨t, rfl⟩ := (show ∃ t, v = Value.float b t from rx)
      exact wpAny_is_other rfl (fun z => nomatch z) ⟨.bl false, H, I, rfl, q'⟩
    | ref a =>
      cases (show v = Value.ref a from rx)
      exact wpAny_is_other rfl (fun z => nomatch z) ⟨.bl false, H, I, rfl, q'⟩
    | ty n =>
      cases (show v = Value.type n from rx)
      exact wpAny_is_other rfl (fun z => nomatch z) ⟨.bl false, H, I, rfl, q'⟩
end K81

namespace K81
open PySem L2 PyProof.Rows
def words : List Str := ["a", "b", "ab", "Z", "a b", "", "_x", "0"]
def rows (ld : DD) (ks : List Str) (f : Str → PyData) : DD := ks.map fun k => (k, f k)
/-- pairs told by new tuples, their values within M -/
def PrM (M H : Hp) : List V → DD → Prop := PySem.Paired fun x nd => ∃ t v, x = .ref t ∧ H t = some (.tup [.str nd.1, v]) ∧ Dt M v nd.2
theorem prM_at {M H : Hp} (e : Same M H) : ∀ {xs : List V} {nds : DD}, PrM M H xs nds → PairsAt H xs nds
  | _, _, .nil => .nil
  | _, _, .cons h t => .cons (by
      obtain ⟨a, v, h1, h2, h3⟩ := h
      exact ⟨a, v, h1, h2, Dt.mono e _ _ h3⟩) (prM_at e t)
theorem prM_mono {M M' H H' : Hp} (e : Same M M') (k : ∀ t xs, H t = some (.tup xs) → H' t = some (.tup xs)) : ∀ {xs : List V} {nds : DD}, PrM M H xs nds → PrM M' H' xs nds
  | _, _, .nil => .nil
  | _, _, .cons h t => .cons (by
      obtain ⟨a, v, h1, h2, h3⟩ := h
      exact ⟨a, v, h1, k _ _ h2, Dt.mono e _ _ h3⟩) (prM_mono e k t)
def PrI (H1 : Hp) (D : Addr) (nds : DD) (i : Nat) (H' : Hp) : Prop := Same H1 H' ∧ ∃ (xs : List V) (M : Hp), H' D = some (.lst xs) ∧ M D = none ∧ Same H1 M ∧ Same M H' ∧ PrM M H' xs (nds.take i)
theorem prI0 {H1 : Hp} {D : Addr} {nds : DD} (hD : H1 D = none) : PrI H1 D nds 0 (upd H1 D (.lst [])) := ⟨same_upd hD, [], H1, upd_same, hD, Same.refl _, same_upd hD, .nil⟩
/-- one turn: the value v within M2, a new tuple at U -/
theorem prI_step {H1 H' M2 : Hp} {D U : Addr} {nds : DD} {i : Nat} {nd : Str × PyData} {v : V} {xs : List V} {M : Hp} (hD : H1 D = none) (hnd : nds[i]? = some nd) (hy : H' D = some (.lst xs)) (p : PrM M H' xs (nds.take i)) (s1 : Same H1 M2) (e : Same M M2) (nM : M2 D = none) (s2 : Same M2 H') (hv : Dt M2 v nd.2) (hU : H' U = none) :
    (upd H' U (.tup [.str nd.1, v])) D = some (.lst xs) ∧ xs.length = i ∧ PrI H1 D nds (i + 1) (upd (upd H' U (.tup [.str nd.1, v])) D (.lst (xs ++ [.ref U]))) := by
  have hlen : i < nds.length := (List.getElem?_eq_some_iff.mp hnd).1
  have hl : xs.length = i := by
    rw [PySem.Paired.length p, List.length_take]
    omega
  have nDU : D ≠ U := ne_of_none hy hU
  have s3 : Same H' (upd H' U (.tup [.str nd.1, v])) := same_upd hU
  refine ⟨s3 _ _ hy, hl, same_mut ((s1.trans s2).trans s3) hD, xs ++ [.ref U], M2, upd_same, nM, s1, same_mut (s2.trans s3) nM, ?_⟩
  rw [take_more' hnd]
  refine paired_snoc (prM_mono e (fun t ys q => ?_) p) ⟨U, v, rfl, by rw [upd_ne nDU.symm]; exact upd_same, hv⟩
  have n1 : t ≠ D := ne_of q hy (by intro z; cases z)
  rw [upd_ne n1]
  exact s3 _ _ q
theorem prI_end {H1 H' : Hp} {D : Addr} {nds : DD} {n : Nat} (hn : n = nds.length) (h : PrI H1 D nds n H') : Same H1 H' ∧ ∃ xs, H' D = some (.lst xs) ∧ PairsAt H' xs nds := by
  obtain ⟨s1, xs, M, hy, _, _, s2, p⟩ := h
  rw [hn, List.take_length] at p
  exact ⟨s1, xs, hy, prM_at s2 p⟩
theorem cut1 : ∀ xs : List V, cutV xs none (some 1) = xs.take 1
  | [] => rfl
  | x :: xs => by
    unfold cutV HT.sIx
    simp
theorem made_same {H1 H' : Hp} {x dx C : Addr} (hx : H1 x = none) (hdx : H1 dx = none) (kp : ∀ b o, (upd (upd H1 dx (.own x)) x (.ins C dx [])) b = some o → b ≠ x → H' b = some o) : Same H1 H' := fun b o e =>
  kp b o (by rw [upd_ne (ne_of_none e hx), upd_ne (ne_of_none e hdx)]; exact e) (ne_of_none e hx)
theorem shaped_words : ∀ {ks : List Str}, (∀ k ∈ ks, k ∈ words) → SeqAt.shaped (.list (ks.map PyData.str)) = true := by
  intro ks h
  unfold SeqAt.shaped
  rw [Bool.and_eq_true]
  constructor
  · show PyData.canLayAll0 (ks.map PyData.str) = true
    induction ks with
    | nil => rfl
    | cons k ks ih =>
      show (PyData.strOk k && PyData.canLayAll0 (ks.map PyData.str)) = true
      rw [ih fun j hj => h j (List.mem_cons_of_mem _ hj), Bool.and_true]
      have hk := h k List.mem_cons_self
      unfold words at hk
      simp only [List.mem_cons, List.not_mem_nil, or_false] at hk
      rcases hk with rfl | rfl | rfl | rfl | rfl | rfl | rfl | rfl <;> decide +kernel
  · apply decide_eq_true
    have : PyData.depthAll (ks.map PyData.str) = 0 := by
      clear h
      induction ks with
      | nil => rfl
      | cons k ks ih =>
        show max 0 (PyData.depthAll (ks.map PyData.str)) = 0
        rw [ih]
        rfl
    show PyData.depthAll (ks.map PyData.str) + 1 ≤ 64
    rw [this]
    decide
theorem dpAll_strs {K : PySem.W.Frag} {H : Hp} : ∀ ks : List Str, DpAll K H (ks.map V.str) (ks.map PyData.str)
  | [] => .nil
  | k :: ks => .cons (.str k) (dpAll_strs ks)
/-- Names(pairs), pairs a list of such tuples -/
theorem make_ok {K : PySem.W.Frag} {C : Addr} {H' : Hp} {D : Addr} {xs : List V} {nds : DD} (hy : H' D = some (.lst xs)) (hp : PairsAt H' xs nds) (hl : nds.length ≤ 500) (hok : ∀ q ∈ nds, okD q.2) {x dx : Addr} (hx : H' x = none) (hdx : H' dx = none) (ne : dx ≠ x) {Q : V → Hp → Prop}
    (k : ∀ (hd1 : Addr) (k1 : List (Key × V)) (H'' : Hp), Same H' H'' → NamesAt C H'' x hd1 k1 → Held H'' k1 (mergeD [] nds) → Q .non H'') :
    spInit K C [.ref x, .ref D] (upd (upd H' dx (.own x)) x (.ins C dx [])) Q E0 := by
  have s0 : Same H' (upd (upd H' dx (.own x)) x (.ins C dx [])) := same_upd2 (same_upd hdx) (by rw [upd_ne ne.symm]; exact hx)
  exact ⟨x, dx, D, xs, nds, rfl, upd_same, .inl (SqL.of (s0 _ _ hy)), pairsAt_mono s0 hp, hl, hok, fun hd1 k1 N H'' n1 _ h1 F1 _ kp => k hd1 k1 H'' (made_same hx hdx kp) n1 (held_mono F1.sub h1)⟩
/-- held[k] -/
theorem dg_at {H H' : Hp} {h : Addr} {kvs : List (Key × V)} {ld : DD} {k : Str} (hh : H h = some (.dK kvs)) (hH : Held H kvs ld) (e : Same H H') (hk : k ∈ keysD ld) : ∃ v, DGet H' h (.str k) (some v) ∧ Dt H v (val ld k) := by
  have hv := (mem_val hk).2
  rcases held_look k hH with ⟨l1, _⟩ | ⟨d, v, l1, l2, t⟩
  · rw [l1] at hv
    cases hv
  · rw [l1] at hv
    have ed : d = val ld k := Option.some.inj hv
    have q := DGet.k (k := (Sum.inr k : Key)) (e _ _ hh)
    rw [l2] at q
    exact ⟨v, q, by rw [← ed]; exact t⟩
theorem pairs_items {H H' H0 : Hp} (e : Same H H') (k : ∀ t xs, H0 t = some (.tup xs) → H' t = some (.tup xs)) : ∀ {ts : List Addr} {kvs : List (Key × V)} {ld : DD}, PySem.Paired (fun (t : Addr) (q : Key × V) => H0 t = some (.tup [kV q.1, q.2])) ts kvs → Held H kvs ld → PairsAt H' (ts.map V.ref) ld
  | _, _, _, .nil, .nil => .nil
  | _, _, _, @PySem.Paired.cons _ _ _ t q ts kvs h1 t1, @PySem.Paired.cons _ _ _ _ nd _ ld h2 t2 => .cons ⟨t, q.2, rfl, by
      have z := k _ _ h1
      rw [h2.1] at z
      exact z, Dt.mono e _ _ h2.2⟩ (pairs_items e k t1 t2)
theorem str_at {ys : List Str} {i : Nat} {x : V} (hx : (ys.map V.str)[i]? = some x) : ∃ k, ys[i]? = some k ∧ x = V.str k := by
  rw [List.getElem?_map] at hx
  cases e : ys[i]? with
  | none =>
    rw [e] at hx
    cases hx
  | some k =>
    rw [e] at hx
    exact ⟨k, rfl, (Option.some.inj hx).symm⟩
theorem rows_at {ys : List Str} {f : Str → PyData} {i : Nat} {k : Str} (h : ys[i]? = some k) : (ys.map fun k => (k, f k))[i]? = some (k, f k) := by
  rw [List.getElem?_map, h]
  rfl
theorem eq_names {P : Program} {K : PySem.W.Frag} {mg : Str → Option Value} {C CN fI : Addr} {G : Hp} {a b hda hdb : Addr} {ka kb : List (Key × V)} {la lb : DD} {r : Bool} {Q : VK} (na : NamesAt C G a hda ka) (ha : Held G ka la) (oa : ∀ q ∈ la, okD q.2) (nb : NamesAt C G b hdb kb) (hb : Held G kb lb) (ob : ∀ q ∈ lb, okD q.2) (e : eqDD la lb = r) (q : Q (.bl r) G) :
    rOwnEq K C (spEq C) (.ref a) (.ref b) G Q := by
  obtain ⟨dx, h1, h2⟩ := id na
  obtain ⟨dy, g1, g2⟩ := id nb
  refine ⟨a, dx, _, _, rfl, h1, .ins g1, by unfold PySem.W.notFirst; simp, a, hda, ka, la, _, rfl, na, ha, fun q hq => (oa q hq).2.2, .inl ⟨b, hdb, kb, lb, rfl, nb, hb, fun q hq => (ob q hq).2.2, ?_⟩⟩
  rw [← e] at q
  exact ⟨_, rfl, q⟩
theorem eq_list {P : Program} {K : PySem.W.Frag} {mg : Str → Option Value} {C CN fI : Addr} (T : TxtN P K mg C CN fI) {G : Hp} {a b hda : Addr} {ka : List (Key × V)} {la : DD} {xs : List V} {Q : VK} (na : NamesAt C G a hda ka) (ha : Held G ka la) (oa : ∀ q ∈ la, okD q.2) (hb : G b = some (.lst xs)) (q : Q (.bl false) G) :
    rOwnEq K C (spEq C) (.ref a) (.ref b) G Q := by
  obtain ⟨dx, h1, h2⟩ := id na
  exact ⟨a, dx, _, _, rfl, h1, .lst hb, T.nfL, a, hda, ka, la, _, rfl, na, ha, fun q hq => (oa q hq).2.2, .inr ⟨b, rfl, .inl ⟨xs, hb⟩, _, rfl, q⟩⟩
theorem eq_dict {P : Program} {K : PySem.W.Frag} {mg : Str → Option Value} {C CN fI : Addr} (T : TxtN P K mg C CN fI) {G : Hp} {a b hda : Addr} {ka : List (Key × V)} {la : DD} {xs : List (Key × V)} {Q : VK} (na : NamesAt C G a hda ka) (ha : Held G ka la) (oa : ∀ q ∈ la, okD q.2) (hb : G b = some (.dK xs)) (q : Q (.bl false) G) :
    rOwnEq K C (spEq C) (.ref a) (.ref b) G Q := by
  obtain ⟨dx, h1, h2⟩ := id na
  exact ⟨a, dx, _, _, rfl, h1, .dct hb, T.nfD, a, hda, ka, la, _, rfl, na, ha, fun q hq => (oa q hq).2.2, .inr ⟨b, rfl, .inr ⟨xs, hb⟩, _, rfl, q⟩⟩
end K81

namespace K81
open PySem L2 PyProof.Rows
def spEqr (C : Addr) : Sp := fun vs H Q _ => ∃ (p hd h r : Addr) (kvs kvs2 : List (Key × V)) (ld : DD) (ys : List Str), vs = [.ref p, .ref h, .ref r] ∧ NamesAt C H p hd kvs ∧ Held H kvs ld ∧ H h = some (.dK kvs2) ∧ Held H kvs2 ld ∧
  H r = some (.lst (ys.map V.str)) ∧ ys.Perm (keysD ld) ∧ (keysD ld).Nodup ∧ ld.length ≤ 60 ∧ (∀ q ∈ ld, q.2 ∈ menu) ∧ (∀ k ∈ keysD ld, k ∈ words) ∧ ∀ (H' : Hp), Same H H' → Q (.bl true) H'
section
variable {P : Program} {w : World} {K : PySem.W.Frag} {mg : Str → Option Value} {base : Heap} {C CN fI : Addr}
abbrev nEqr : List Str := ["_law_names", "_law_held", "_law_rows", "_law_same_here", "_law_alike", "_law_more", "_law_less", "_law_name"]
theorem scEqr : FnScope nEqr ["_law_names", "_law_held", "_law_rows"] (defScope sEqr) := ⟨rfl, rfl, rfl, by decide +kernel, rfl, by decide +kernel, by decide +kernel⟩
theorem ok_eqr {f fI2 fE fQ : Addr} {fd fdI fdE fdQ : FuncData} (F : Fun K "_law_equal_right" "_law_equal_right" sEqr f fd) (B : TxtB mg) (T : TxtN P K mg C CN fI)
    (M : Mk K C fI2) (GI : FnOk P w K mg base CX0 10 fI2 fdI ["self", "pairs"] (spInit K C)) (bI : Binds K fdI ["self", "pairs"] [])
    (GE : FnOk P w K mg base CX0 10 fE fdE ["self"] (spEnt C)) (mE : Meth K C "entries" fE) (bE : Binds K fdE ["self"] [])
    (GQ : FnOk P w K mg base CX0 2 fQ fdQ ["self", "other"] (spEq C)) (hQ : PySem.W.findIn K (.ref C) "__eq__" = some (some (.ref fQ))) (fnQ : PySem.W.isFn K (.ref fQ) = true) (bQ : Binds K fdQ ["self", "other"] []) :
    FnOk P w K mg base CX0 13 f fd ["_law_names", "_law_held", "_law_rows"] (spEqr C) := by
  refine F.ok scEqr (fun vs H Q E h => ?_) (fun cdv A outer s H vs Q E hr h => ?_)
  · obtain ⟨p, hd, h, r, kvs, kvs2, ld, ys, rfl, _⟩ := h
    rfl
  · obtain ⟨p, hd, h, r, kvs, kvs2, ld, ys, rfl, hN, hH, hh, hH2, hr', hp, nd, hl, hm, hw, kQ⟩ := h
    have hu : (A.deeper (PyProof.Rows.envOfC "_law_equal_right" (defScope sEqr) s.heap.objs.size f cdv)).units + 64 < cLine := hr.units
    have hu1 := hu_of hr
    have hr11 : Room 11 (A.deeper (PyProof.Rows.envOfC "_law_equal_right" (defScope sEqr) s.heap.objs.size f cdv)) := hr.mono (by decide)
    have hr10 : Room 10 (A.deeper (PyProof.Rows.envOfC "_law_equal_right" (defScope sEqr) s.heap.objs.size f cdv)) := hr.mono (by decide)
    have hr2 : Room 2 (A.deeper (PyProof.Rows.envOfC "_law_equal_right" (defScope sEqr) s.heap.objs.size f cdv)) := hr.mono (by decide)
    refine ⟨_, (pss_mid (ps_set (i := 3) scEqr.nd rfl (Or.inl rfl) (pe_make M GI hr11 rfl T.mgC bI .nil pass0 (pa_cons (pe_lc (own := [("_law_name", 7)]) (g := gName 7) (tt := tYes) (te := tTup (tCons (tVar 7) (tCons (tDGet (tVar 1) (tVar 7)) tNil))) rfl scEqr.nd (pi_list (pe_revL (pv 2))) (blkOk_by (N := nEqr) (sc := defScope sEqr) (by decide +kernel)) (fun _ _ _ _ _ => pg_name (i := 7) scEqr.nd rfl (Or.inl rfl)) (fun _ _ _ _ _ => pts_nil) (fun _ _ _ _ _ => pe_tup (pa_cons (pv 7) (pa_cons (pe_dget (by exact hu1) (pv 1) (pv 7) (fun _ _ => rfl)) pa_nil)))) pa_nil))) (pss_mid (ps_set (i := 4) scEqr.nd rfl (Or.inl rfl) (pe_make M GI hr11 rfl T.mgC bI .nil pass0 (pa_cons (pe_lc (own := [("_law_name", 7)]) (g := gName 7) (tt := tYes) (te := tTup (tCons (tVar 7) (tCons (tIf (tTest (tOp rIsTrue (tDGet (tVar 1) (tVar 7)) (tC (.bl true)))) (tC (.int 1)) (tDGet (tVar 1) (tVar 7))) tNil))) rfl scEqr.nd (pi_list (pv 2)) (blkOk_by (N := nEqr) (sc := defScope sEqr) (by decide +kernel)) (fun _ _ _ _ _ => pg_name (i := 7) scEqr.nd rfl (Or.inl rfl)) (fun _ _ _ _ _ => pts_nil) (fun _ _ _ _ _ => pe_tup (pa_cons (pv 7) (pa_cons (pe_ifExp (pt_cmpR op_isTrue (pe_dget (by exact hu1) (pv 1) (pv 7) (fun _ _ => rfl)) pe_bl (nomark _)) pe_int (pe_dget (by exact hu1) (pv 1) (pv 7) (fun _ _ => rfl))) pa_nil)))) pa_nil))) (pss_mid (ps_par (i := 5) (j := 6) rfl scEqr.nd rfl rfl (by decide) rfl rfl (pa_cons (pe_make M GI hr11 rfl T.mgC bI .nil pass0 (pa_cons (pe_op op_cat (LiI.pe_listItems rfl (pv 1) (by rfl) B.list (by decide +kernel)) (pe_lst (pa_cons (pe_tup (pa_cons pe_str (pa_cons pe_int pa_nil))) pa_nil))) pa_nil)) (pa_cons (pe_make M GI hr11 rfl T.mgC bI .nil pass0 (pa_cons (pe_lc (own := [("_law_name", 7)]) (g := gName 7) (tt := tYes) (te := tTup (tCons (tVar 7) (tCons (tLst (tCons (tDGet (tVar 1) (tVar 7)) tNil)) tNil))) rfl scEqr.nd (pi_list (pe_slice sl_list (pv 2) po_none (po_some pe_int))) (blkOk_by (N := nEqr) (sc := defScope sEqr) (by decide +kernel)) (fun _ _ _ _ _ => pg_name (i := 7) scEqr.nd rfl (Or.inl rfl)) (fun _ _ _ _ _ => pts_nil) (fun _ _ _ _ _ => pe_tup (pa_cons (pv 7) (pa_cons (pe_lst (pa_cons (pe_dget (by exact hu1) (pv 1) (pv 7) (fun _ _ => rfl)) pa_nil)) pa_nil)))) pa_nil)) pa_nil)) (by rfl)) (pss_cons (ps_if (PW.pt (pw_or (pt_not (pt_cmpR (op_ownEq GQ hr2 hQ fnQ bQ pass0) (pv 0) (pv 3) (nomark _))) (pw_or (pt_not (pt_cmpR (op_ownEq GQ hr2 hQ fnQ bQ pass0) (pv 3) (pv 0) (nomark _))) (pw_or (pt_not (pt_cmpR (op_ownEq GQ hr2 hQ fnQ bQ pass0) (pv 0) (pv 4) (nomark _))) (pw_or1 (pt_not (pt_cmpR (op_ownEq GQ hr2 hQ fnQ bQ pass0) (pv 4) (pv 0) (nomark _)))))))) (pss_one (ps_ret pe_bl)) pss_nil) (pss_cons (ps_if (PW.pt (pw_or (pt_cmpR (op_ownEq GQ hr2 hQ fnQ bQ pass0) (pv 0) (pv 5) (nomark _)) (pw_or (pt_cmpR (op_ownEq GQ hr2 hQ fnQ bQ pass0) (pv 5) (pv 0) (nomark _)) (pw_or1 (PW.pt (pw_and (pt_cmpR (op_neD hu) (pv 2) (pe_lst pa_nil) (nomark _)) (pw_and1 (PW.pt (pw_or (pt_cmpR (op_ownEq GQ hr2 hQ fnQ bQ pass0) (pv 0) (pv 6) (nomark _)) (pw_or1 (pt_cmpR (op_ownEq GQ hr2 hQ fnQ bQ pass0) (pv 6) (pv 0) (nomark _)))))))))))) (pss_one (ps_ret pe_bl)) pss_nil) (pss_one (ps_ret (pe_and (pe_not (pe_cmpR (op_ownEq GQ hr2 hQ fnQ bQ pass0) (pv 0) (pv 1) (nomark _))) (pe_one (pe_not (pe_cmpR (op_ownEq GQ hr2 hQ fnQ bQ pass0) (pv 0) (pe_meth0 (pv 0) T.cl mE GE hr10 bE .nil pass0) (nomark _)))))))))))), ?_⟩
    have hlen : ys.length = ld.length := by
      rw [hp.length_eq]
      unfold keysD
      rw [List.length_map]
    have hval : ∀ k ∈ ys, val ld k ∈ menu := fun k hk => hm _ (mem_val (hp.mem_iff.mp hk)).1
    -- same_here
    refine ⟨fun σ' H' => ∃ (x1 hd1 : Addr) (k1 : List (Key × V)), σ' = [some (.ref p), some (.ref h), some (.ref r), some (.ref x1), none, none, none, none] ∧ Same H H' ∧ NamesAt C H' x1 hd1 k1 ∧ Held H' k1 (mergeD [] (ys.reverse.map fun k => (k, val ld k))), ?_, ?_⟩
    · refine ⟨_, rfl, r, _, rfl, SqL.of hr', fun R hR => ?_⟩
      have s1 : Same H (upd H R (.lst (ys.map V.str).reverse)) := same_upd hR
      have q1 : (upd H R (.lst (ys.map V.str).reverse)) R = some (.lst (ys.map V.str).reverse) := upd_same
      generalize upd H R (.lst (ys.map V.str).reverse) = H1 at s1 q1
      rw [← List.map_reverse] at q1
      refine ⟨R, rfl, ⟨_, SqL.of q1⟩, fun D hD => ?_⟩
      refine lc_list (K := K) (a := R) (xs := ys.reverse.map V.str) (PrI H1 D (ys.reverse.map fun k => (k, val ld k))) (prI0 hD) (fun i H' _ h => SqL.of (h.1 _ _ q1)) (fun i x H' hx h1 => ?_) (fun H' h1 => ?_)
      · obtain ⟨k, hk, rfl⟩ := str_at hx
        have hkk : k ∈ keysD ld := hp.mem_iff.mp (List.mem_reverse.mp (List.mem_of_getElem? hk))
        obtain ⟨e0, xs, M', hy, nM, e1, e2, pM⟩ := h1
        obtain ⟨v, g1, g2⟩ := dg_at hh hH2 (s1.trans e0) hkk
        refine ⟨rfl, _, rfl, _, rfl, _, rfl, h, v, rfl, g1, (by show 2 ≤ sizeLine; decide), fun U hU => ?_⟩
        obtain ⟨z1, z2, z3⟩ := prI_step hD (rows_at hk) hy pM e1 (Same.refl _) nM e2 (Dt.mono (s1.trans e1) _ _ g2) hU
        have hi := (List.getElem?_eq_some_iff.mp hk).1
        rw [List.length_reverse] at hi
        exact ⟨xs, z1, sz_lt1 z2 (by omega), z3⟩
      · obtain ⟨e0, xs, hy, hP⟩ := prI_end (by rw [List.length_map, List.length_map]) h1
        intro x dx hx hdx ne
        refine make_ok hy hP (by rw [List.length_map, List.length_reverse]; omega) (fun q hq => by
          obtain ⟨k, hk, rfl⟩ := List.mem_map.mp hq
          exact okD_menu (hval k (List.mem_reverse.mp hk))) hx hdx ne ?_
        exact fun hd1 k1 H'' e3 n1 h1 => ⟨rfl, x, hd1, k1, rfl, (s1.trans e0).trans e3, n1, h1⟩
    rintro _ H1 ⟨x1, hd1, k1, rfl, s1, n1, hl1⟩
    -- alike
    refine ⟨fun σ' H' => ∃ (x2 hd2 : Addr) (k2 : List (Key × V)), σ' = [some (.ref p), some (.ref h), some (.ref r), some (.ref x1), some (.ref x2), none, none, none] ∧ Same H1 H' ∧ NamesAt C H' x2 hd2 k2 ∧ Held H' k2 (mergeD [] (ys.map fun k => (k, al (val ld k)))), ?_, ?_⟩
    · refine ⟨_, rfl, r, rfl, ⟨_, SqL.of (s1 _ _ hr')⟩, fun D hD => ?_⟩
      refine lc_list (K := K) (a := r) (xs := ys.map V.str) (PrI H1 D (ys.map fun k => (k, al (val ld k)))) (prI0 hD) (fun i H' _ h => SqL.of (h.1 _ _ (s1 _ _ hr'))) (fun i x H' hx h1 => ?_) (fun H' h1 => ?_)
      · obtain ⟨k, hk, rfl⟩ := str_at hx
        have hkk : k ∈ keysD ld := hp.mem_iff.mp (List.mem_of_getElem? hk)
        obtain ⟨e0, xs, M', hy, nM, e1, e2, pM⟩ := h1
        obtain ⟨v, g1, g2⟩ := dg_at hh hH2 (s1.trans e0) hkk
        have hi := (List.getElem?_eq_some_iff.mp hk).1
        refine ⟨rfl, _, rfl, _, rfl, _, rfl, h, v, rfl, g1, rfl, _, rfl, ?_⟩
        by_cases hv : v = .bl true
        · subst hv
          refine iteT ⟨(by show 2 ≤ sizeLine; decide), fun U hU => ?_⟩
          have ed : val ld k = .bool true := by
            generalize val ld k = d at g2
            cases g2
            rfl
          have gal : Dt M' (.int 1) (al (val ld k)) := by
            rw [ed]
            exact .int 1
          obtain ⟨z1, z2, z3⟩ := prI_step hD (rows_at hk) hy pM e1 (Same.refl _) nM e2 gal hU
          exact ⟨xs, z1, sz_lt1 z2 (by omega), z3⟩
        · rw [decide_eq_false hv]
          refine iteF ⟨_, rfl, _, rfl, h, v, rfl, g1, (by show 2 ≤ sizeLine; decide), fun U hU => ?_⟩
          have ed : al (val ld k) = val ld k := by
            generalize val ld k = d at g2
            cases d with
            | bool b =>
              cases g2
              cases b with
              | true => exact absurd rfl hv
              | false => rfl
            | none => rfl
            | int i => rfl
            | str z => rfl
            | list z => rfl
            | tuple z => rfl
            | dict z => rfl
          have gal : Dt M' v (al (val ld k)) := by
            rw [ed]
            exact Dt.mono (s1.trans e1) _ _ g2
          obtain ⟨z1, z2, z3⟩ := prI_step hD (rows_at hk) hy pM e1 (Same.refl _) nM e2 gal hU
          exact ⟨xs, z1, sz_lt1 z2 (by omega), z3⟩
      · obtain ⟨e0, xs, hy, hP⟩ := prI_end (by rw [List.length_map, List.length_map]) h1
        intro x dx hx hdx ne
        refine make_ok hy hP (by rw [List.length_map]; omega) (fun q hq => by
          obtain ⟨k, hk, rfl⟩ := List.mem_map.mp hq
          exact okD_al (hval k hk)) hx hdx ne ?_
        exact fun hd1 k1 H'' e3 n1 h1 => ⟨rfl, x, hd1, k1, rfl, e0.trans e3, n1, h1⟩
    rintro _ H2 ⟨x2, hd2, k2, rfl, s2, n2, hl2⟩
    have t2 := s1.trans s2
    -- more, less
    refine ⟨fun σ' H' => ∃ (x3 hd3 : Addr) (k3 : List (Key × V)) (x4 hd4 : Addr) (k4 : List (Key × V)), σ' = [some (.ref p), some (.ref h), some (.ref r), some (.ref x1), some (.ref x2), some (.ref x3), some (.ref x4), none] ∧ Same H2 H' ∧ NamesAt C H' x3 hd3 k3 ∧ Held H' k3 (mergeD [] (ld ++ [(("more" : Str), PyData.int 1)])) ∧ NamesAt C H' x4 hd4 k4 ∧ Held H' k4 (mergeD [] ((ys.take 1).map fun k => (k, .list [val ld k]))), ?_, ?_⟩
    · refine ⟨_, rfl, h, kvs2, rfl, t2 _ _ hh, fun G1 I ts e1 hI hts nI hI2 hpair => ?_⟩
      refine ⟨(by show 2 ≤ sizeLine; decide), fun U hU => ⟨(by show 1 ≤ sizeLine; decide), fun L hL => ?_⟩⟩
      have eU : Same G1 (upd G1 U (.tup [.str "more", .int 1])) := same_upd hU
      have eL := same_upd (o := .lst [.ref U]) hL
      refine ⟨I, L, _, _, rfl, rfl, eL _ _ (eU _ _ hI2), upd_same, (by rw [List.length_map, PySem.Paired.length hpair, held_len hH2]; exact Nat.le_trans (Nat.add_le_add_right hl 1) (by decide)), fun D hD => ?_⟩
      have eD := same_upd (o := .lst (ts.map V.ref ++ [.ref U])) hD
      have e1' : Same H2 G1 := e1
      have g1 : Same H2 _ := ((e1'.trans eU).trans eL).trans eD
      have hP : PairsAt (upd (upd (upd G1 U (.tup [.str "more", .int 1])) L (.lst [.ref U])) D (.lst (ts.map V.ref ++ [.ref U]))) (ts.map V.ref ++ [.ref U]) (ld ++ [(("more" : Str), PyData.int 1)]) := by
        refine paired_snoc (pairs_items (t2.trans g1) (fun t xs q => eD _ _ (eL _ _ (eU _ _ q))) hpair hH2) ⟨U, _, rfl, eD _ _ (eL _ _ upd_same), .int 1⟩
      have hyD : (upd (upd (upd G1 U (.tup [.str "more", .int 1])) L (.lst [.ref U])) D (.lst (ts.map V.ref ++ [.ref U]))) D = some (.lst (ts.map V.ref ++ [.ref U])) := upd_same
      generalize upd (upd (upd G1 U (.tup [.str "more", .int 1])) L (.lst [.ref U])) D (.lst (ts.map V.ref ++ [.ref U])) = G2 at g1 hP hyD
      intro x3 dx hx hdx ne
      refine make_ok hyD hP (by rw [List.length_append]; show ld.length + 1 ≤ 500; omega) (fun q hq => by
        rcases List.mem_append.mp hq with hq | hq
        · exact okD_menu (hm q hq)
        · rw [List.mem_singleton.mp hq]
          exact okD_menu (by simp [menu])) hx hdx ne ?_
      intro hd3 k3 G3 e3 n3 h3
      refine ⟨rfl, ?_⟩
      have t3 : Same H G3 := (t2.trans g1).trans e3
      refine ⟨_, rfl, _, rfl, r, _, rfl, SqL.of (t3 _ _ hr'), fun R hR => ?_⟩
      rw [cut1]
      have eR := same_upd (o := .lst ((ys.map V.str).take 1)) hR
      have q1 : (upd G3 R (.lst ((ys.map V.str).take 1))) R = some (.lst ((ys.map V.str).take 1)) := upd_same
      generalize upd G3 R (.lst ((ys.map V.str).take 1)) = G4 at eR q1
      rw [← List.map_take] at q1
      have t4 : Same H G4 := t3.trans eR
      refine ⟨R, rfl, ⟨_, SqL.of q1⟩, fun D2 hD2 => ?_⟩
      refine lc_list (K := K) (a := R) (xs := (ys.take 1).map V.str) (PrI G4 D2 ((ys.take 1).map fun k => (k, .list [val ld k]))) (prI0 hD2) (fun i H' _ h => SqL.of (h.1 _ _ q1)) (fun i x H' hx h1 => ?_) (fun H' h1 => ?_)
      · obtain ⟨k, hk, rfl⟩ := str_at hx
        have hkk : k ∈ keysD ld := hp.mem_iff.mp (List.mem_of_mem_take (List.mem_of_getElem? hk))
        obtain ⟨e0, xs, M', hy, nM, e1', e2', pM⟩ := h1
        obtain ⟨v, g1', g2'⟩ := dg_at hh hH2 (t4.trans e0) hkk
        have hi := (List.getElem?_eq_some_iff.mp hk).1
        rw [List.length_take] at hi
        refine ⟨rfl, _, rfl, _, rfl, _, rfl, h, v, rfl, g1', (by show 1 ≤ sizeLine; decide), fun W hW => ⟨(by show 2 ≤ sizeLine; decide), fun U2 hU2 => ?_⟩⟩
        have nW : M' W = none := Same.free e2' hW
        have eW := same_upd (o := .lst [v]) nW
        have hDW : D2 ≠ W := ne_of_none hy hW
        have eW' : Same (upd M' W (.lst [v])) (upd H' W (.lst [v])) := fun b o q => by
          by_cases hb : b = W
          · rw [hb, upd_same] at q
            cases q
            rw [hb, upd_same]
          · rw [upd_ne hb] at q
            rw [upd_ne hb]
            exact e2' b o q
        obtain ⟨z1, z2, z3⟩ := prI_step (M2 := upd M' W (.lst [v])) hD2 (rows_at (f := fun k => .list [val ld k]) hk) (by rw [upd_ne hDW]; exact hy) (prM_mono (Same.refl _) (fun t ys q => same_upd (o := .lst [v]) hW _ _ q) pM) (e1'.trans eW) eW (by rw [upd_ne hDW]; exact nM) eW' (.lst upd_same (.cons (Dt.mono ((t4.trans e1').trans eW) _ _ g2') .nil)) hU2
        exact ⟨xs, z1, sz_lt1 z2 (by omega), z3⟩
      · obtain ⟨e0, xs, hy, hP4⟩ := prI_end (by rw [List.length_map, List.length_map]) h1
        intro x4 dx hx hdx ne
        refine make_ok hy hP4 (by rw [List.length_map, List.length_take]; omega) (fun q hq => by
          obtain ⟨k, hk, rfl⟩ := List.mem_map.mp hq
          exact okD_box (hval k (List.mem_of_mem_take hk))) hx hdx ne ?_
        exact fun hd4 k4 H'' e5 n4 h4 => ⟨rfl, _, _, rfl, x3, hd3, k3, x4, hd4, k4, rfl, ((g1.trans e3).trans (eR.trans e0)).trans e5, namesAt_mono ((eR.trans e0).trans e5) n3, held_mono ((eR.trans e0).trans e5) h3, n4, h4⟩
    rintro _ H3 ⟨x3, hd3, k3, x4, hd4, k4, rfl, s3, n3, hl3, n4, hl4⟩
    have t3 := t2.trans s3
    have oA : ∀ q ∈ ld, okD q.2 := fun q hq => okD_menu (hm q hq)
    have o1 : ∀ q ∈ mergeD [] (ys.reverse.map fun k => (k, val ld k)), okD q.2 := all_merge (fun q hq => nomatch hq) fun q hq => by
      obtain ⟨k, hk, rfl⟩ := List.mem_map.mp hq
      exact okD_menu (hval k (List.mem_reverse.mp hk))
    have o2 : ∀ q ∈ mergeD [] (ys.map fun k => (k, al (val ld k))), okD q.2 := all_merge (fun q hq => nomatch hq) fun q hq => by
      obtain ⟨k, hk, rfl⟩ := List.mem_map.mp hq
      exact okD_al (hval k hk)
    have o3 : ∀ q ∈ mergeD [] (ld ++ [(("more" : Str), PyData.int 1)]), okD q.2 := all_merge (fun q hq => nomatch hq) fun q hq => by
      rcases List.mem_append.mp hq with hq | hq
      · exact oA q hq
      · rw [List.mem_singleton.mp hq]
        exact okD_menu (by simp [menu])
    have o4 : ∀ q ∈ mergeD [] ((ys.take 1).map fun k => (k, .list [val ld k])), okD q.2 := all_merge (fun q hq => nomatch hq) fun q hq => by
      obtain ⟨k, hk, rfl⟩ := List.mem_map.mp hq
      exact okD_box (hval k (List.mem_of_mem_take hk))
    have b1 := eq_both (f := val ld) nd ((List.reverse_perm ys).trans hp) fun k hk => by
      have m := menu_eqv (hm _ (mem_val hk).1)
      exact ⟨m.1, m.1⟩
    have b2 := eq_both (f := fun k => al (val ld k)) nd hp fun k hk => by
      have m := menu_eqv (hm _ (mem_val hk).1)
      exact ⟨m.2.1, m.2.2.1⟩
    have b3 := eq_more (k := "more") (d := .int 1) nd (fun z => absurd (hw _ z) (by decide))
    have N0 := namesAt_mono t3 hN
    have H0 := held_mono t3 hH
    have N1 := namesAt_mono (s2.trans s3) n1
    have K1 := held_mono (s2.trans s3) hl1
    have N2 := namesAt_mono s3 n2
    have K2 := held_mono s3 hl2
    refine ⟨_, rfl, _, rfl, eq_names (P := P) (mg := mg) (CN := CN) (fI := fI) N0 H0 oA N1 K1 o1 b1.1 ⟨true, rfl, iteF ?_⟩⟩
    refine ⟨_, rfl, _, rfl, eq_names (P := P) (mg := mg) (CN := CN) (fI := fI) N1 K1 o1 N0 H0 oA b1.2 ⟨true, rfl, iteF ?_⟩⟩
    refine ⟨_, rfl, _, rfl, eq_names (P := P) (mg := mg) (CN := CN) (fI := fI) N0 H0 oA N2 K2 o2 b2.1 ⟨true, rfl, iteF ?_⟩⟩
    refine ⟨_, rfl, _, rfl, eq_names (P := P) (mg := mg) (CN := CN) (fI := fI) N2 K2 o2 N0 H0 oA b2.2 ⟨true, rfl, iteF ?_⟩⟩
    refine ⟨_, rfl, _, rfl, eq_names (P := P) (mg := mg) (CN := CN) (fI := fI) N0 H0 oA n3 hl3 o3 b3.1 ⟨false, rfl, iteF ?_⟩⟩
    refine ⟨_, rfl, _, rfl, eq_names (P := P) (mg := mg) (CN := CN) (fI := fI) n3 hl3 o3 N0 H0 oA b3.2 ⟨false, rfl, iteF ?_⟩⟩
    have fin : ∀ G : Hp, Same H3 G → tRet (tAndV (tNotV (tOp (rOwnEq K C (spEq C)) (tVar 0) (tVar 1))) (tNotV (tOp (rOwnEq K C (spEq C)) (tVar 0) (tMeth C "entries" (spEnt C) [] E0 (tVar 0) tNil)))) { nx := fun _ H' => Q .non H', rt := Q } [some (.ref p), some (.ref h), some (.ref r), some (.ref x1), some (.ref x2), some (.ref x3), some (.ref x4), none] G := by
      intro G e
      have N0 := namesAt_mono e N0
      have H0 := held_mono e H0
      refine ⟨_, rfl, _, rfl, eq_dict T N0 H0 oA (e _ _ (t3 _ _ hh)) ⟨false, rfl, true, rfl, iteT ?_⟩⟩
      obtain ⟨dx, q1, q2⟩ := id N0
      refine ⟨_, rfl, _, rfl, p, dx, _, rfl, q1, rfl, p, hd, kvs, ld, rfl, N0, H0, hl, oA, fun zs D N H' _ _ e2 F2 t => ?_⟩
      cases t with
      | lst tD _ => exact eq_list T (namesAt_mono e2 N0) (held_mono e2 H0) oA (F2.sub _ _ tD) ⟨false, rfl, kQ _ ((t3.trans e).trans e2)⟩
    refine ⟨_, rfl, (by show 0 ≤ sizeLine; decide), fun p0 hp0 => ?_⟩
    have eP := same_upd (o := .lst []) hp0
    refine ⟨_, _, .lst (SqL.of (eP _ _ (t3 _ _ hr'))) (dpAll_strs ys), .lst (SqL.of upd_same) .nil, shaped_words fun k hk => hw k (hp.mem_iff.mp hk), by decide, _, rfl, ?_⟩
    cases ys with
    | nil => exact iteF (iteF (fin _ eP))
    | cons y0 ys0 =>
      have b4 := eq_box nd hp (fun z => nomatch z) hm
      have N0 := namesAt_mono eP N0
      have H0 := held_mono eP H0
      refine iteT ?_
      refine ⟨_, rfl, _, rfl, eq_names (P := P) (mg := mg) (CN := CN) (fI := fI) N0 H0 oA (namesAt_mono eP n4) (held_mono eP hl4) o4 b4.1 ⟨false, rfl, iteF ?_⟩⟩
      refine ⟨_, rfl, _, rfl, eq_names (P := P) (mg := mg) (CN := CN) (fI := fI) (namesAt_mono eP n4) (held_mono eP hl4) o4 N0 H0 oA b4.2 ⟨false, rfl, iteF ?_⟩⟩
      exact fin _ eP
end
end K81

namespace K81
open PySem L2 PyProof.Rows
/-! ### what may be spoilt: its lists are not within B -/
inductive SpAt (B : Hp) (m : Nat) (H : Hp) : V → Prop
  | flat {v : V} (t : String) (h : TyOf [] emp v (.type t)) (h1 : kitB t "list" = some false) (h2 : kitB t "tuple" = some false) : SpAt B m H v
  | lst {a b : Addr} {xs ys : List V} (h1 : H a = some (.lst xs)) (h2 : xs[1]? = some (.ref b)) (h3 : H b = some (.lst ys)) (na : B a = none) (nb : B b = none) (ne : a ≠ b) (l1 : xs.length ≤ 2 + m) (l2 : ys.length ≤ 2 + m) : SpAt B m H (.ref a)
  | emp {a : Addr} (h : H a = some (.tup [])) : SpAt B m H (.ref a)
  | tup {a b : Addr} {ys : List Str} (h1 : H a = some (.tup [.ref b, .int 1])) (h2 : H b = some (.lst (ys.map V.str))) (nb : B b = none) (hy : ∀ y ∈ ys, y = "l" ∨ y = "later") (l1 : ys.length ≤ 2 + m) : SpAt B m H (.ref a)
theorem tyOf_flat {K K' : PySem.W.Frag} {H H' : Hp} {v : V} {t : String} (h : TyOf K emp v (.type t)) : TyOf K' H v (.type t) := by
  cases h with
  | non => exact .non
  | bl x => exact .bl x
  | int i => exact .int i
  | str x => exact .str x
  | flt x => exact .flt x
  | lst e => cases e
  | frz e => cases e
  | tup e => cases e
  | dK e => cases e
  | dT e => cases e
theorem SpAt.same {B : Hp} {m : Nat} {H H' : Hp} {v : V} (e : Same H H') (s : SpAt B m H v) : SpAt B m H' v := by
  cases s with
  | flat t h h1 h2 => exact .flat t h h1 h2
  | lst h1 h2 h3 na nb ne l1 l2 => exact .lst (e _ _ h1) h2 (e _ _ h3) na nb ne l1 l2
  | emp h => exact .emp (e _ _ h)
  | tup h1 h2 nb hy l1 => exact .tup (e _ _ h1) (e _ _ h2) nb hy l1
theorem SpAt.more {B : Hp} {m k : Nat} {H : Hp} {v : V} (hk : m ≤ k) (s : SpAt B m H v) : SpAt B k H v := by
  cases s with
  | flat t h h1 h2 => exact .flat t h h1 h2
  | lst h1 h2 h3 na nb ne l1 l2 => exact .lst h1 h2 h3 na nb ne (by omega) (by omega)
  | emp h => exact .emp h
  | tup h1 h2 nb hy l1 => exact .tup h1 h2 nb hy (by omega)
/-- "later" behind a list -/
theorem SpAt.app {B : Hp} {m : Nat} {H : Hp} {v : V} {c : Addr} {zs : List V} (hc : H c = some (.lst zs)) (s : SpAt B m H v) : SpAt B (m + 1) (upd H c (.lst (zs ++ [.str "later"]))) v := by
  have go : ∀ {a : Addr} {xs : List V}, H a = some (.lst xs) → ∃ xs', (upd H c (.lst (zs ++ [.str "later"]))) a = some (.lst xs') ∧ (xs' = xs ∨ xs' = xs ++ [.str "later"]) := fun {a xs} h => by
    by_cases e : a = c
    · subst e
      rw [hc] at h
      cases h
      exact ⟨_, upd_same, .inr rfl⟩
    · exact ⟨xs, by rw [upd_ne e]; exact h, .inl rfl⟩
  cases s with
  | flat t h h1 h2 => exact .flat t h h1 h2
  | @lst a b xs ys h1 h2 h3 na nb ne l1 l2 =>
    obtain ⟨xs', e1, f1⟩ := go h1
    obtain ⟨ys', e2, f2⟩ := go h3
    refine .lst e1 ?_ e2 na nb ne ?_ ?_
    · rcases f1 with rfl | rfl
      · exact h2
      · rw [List.getElem?_append_left ((List.getElem?_eq_some_iff.mp h2).1)]
        exact h2
    · rcases f1 with rfl | rfl
      · omega
      · rw [List.length_append]
        simp
        omega
    · rcases f2 with rfl | rfl
      · omega
      · rw [List.length_append]
        simp
        omega
  | @emp a h => exact .emp (by rw [upd_ne (ne_of h hc (by intro z; cases z))]; exact h)
  | @tup a b ys h1 h2 nb hy l1 =>
    obtain ⟨ys', e2, f2⟩ := go h2
    have e1 : (upd H c (.lst (zs ++ [.str "later"]))) a = some (.tup [.ref b, .int 1]) := by
      rw [upd_ne (ne_of h1 hc (by intro z; cases z))]
      exact h1
    rcases f2 with rfl | rfl
    · exact .tup e1 e2 nb hy (by omega)
    · refine .tup (ys := ys ++ [("later" : Str)]) e1 (by rw [e2, List.map_append]; rfl) nb (fun y hy' => ?_) (by rw [List.length_append]; simp; omega)
      rcases List.mem_append.mp hy' with q | q
      · exact hy y q
      · exact .inr (List.mem_singleton.mp q)
theorem dt_sp {B N H : Hp} {v : V} {d : PyData} (t : Dt N v d) (hm : d ∈ menu) (e : Same N H) (n : ∀ b o, N b = some o → B b = none) : SpAt B 0 H v := by
  unfold menu at hm
  simp only [List.mem_cons, List.not_mem_nil, or_false] at hm
  rcases hm with rfl | rfl | rfl | rfl | rfl | rfl | rfl | rfl | rfl
  · cases t
    exact .flat "NoneType" .non (by decide +kernel) (by decide +kernel)
  · cases t
    exact .flat "int" (.int _) (by decide +kernel) (by decide +kernel)
  · cases t
    exact .flat "str" (.str _) (by decide +kernel) (by decide +kernel)
  · cases t with
    | lst h1 q =>
      cases q with
      | cons t1 q =>
        cases t1
        cases q with
        | cons t2 q =>
          cases q
          cases t2 with
          | lst h2 q2 =>
            cases q2 with
            | cons t3 q3 =>
              cases q3
              cases t3
              exact .lst (e _ _ h1) rfl (e _ _ h2) (n _ _ h1) (n _ _ h2) (ne_of h1 h2 (by intro z; cases z)) (by show 2 ≤ 2 + 0; decide) (by show 1 ≤ 2 + 0; decide)
  · cases t
    exact .flat "bool" (.bl _) (by decide +kernel) (by decide +kernel)
  · cases t with
    | tup h1 q =>
      cases q
      exact .emp (e _ _ h1)
  · cases t
    exact .flat "int" (.int _) (by decide +kernel) (by decide +kernel)
  · cases t with
    | tup h1 q =>
      cases q with
      | cons t1 q =>
        cases q with
        | cons t2 q =>
          cases q
          cases t2
          cases t1 with
          | lst h2 q2 =>
            cases q2 with
            | cons t3 q3 =>
              cases q3
              cases t3
              exact .tup (ys := ["l"]) (e _ _ h1) (e _ _ h2) (n _ _ h2) (fun y hy => .inl (List.mem_singleton.mp hy)) (by decide)
  · cases t
    exact .flat "int" (.int _) (by decide +kernel) (by decide +kernel)
def spSpoil : Sp := fun vs H Q _ => ∃ (v : V) (B : Hp) (m : Nat), vs = [v] ∧ Same B H ∧ SpAt B m H v ∧ m ≤ 1000 ∧ ∀ (H' : Hp), Same B H' → (∀ u, SpAt B m H u → SpAt B (m + 2) H' u) → Q .non H'
theorem shaped_later {ys : List Str} (h : ∀ y ∈ ys, y = "l" ∨ y = "later") : SeqAt.shaped (.tuple [.list (ys.map PyData.str), .int 1]) = true := by
  unfold SeqAt.shaped
  rw [Bool.and_eq_true]
  constructor
  · show (PyData.canLayAll0 (ys.map PyData.str) && true) = true
    rw [Bool.and_true]
    induction ys with
    | nil => rfl
    | cons k ks ih =>
      show (PyData.strOk k && PyData.canLayAll0 (ks.map PyData.str)) = true
      rw [ih fun j hj => h j (List.mem_cons_of_mem _ hj), Bool.and_true]
      rcases h k List.mem_cons_self with rfl | rfl <;> decide +kernel
  · apply decide_eq_true
    have : PyData.depthAll (ys.map PyData.str) = 0 := by
      clear h
      induction ys with
      | nil => rfl
      | cons k ks ih =>
        show max 0 (PyData.depthAll (ks.map PyData.str)) = 0
        rw [ih]
        rfl
    show max (PyData.depthAll (ys.map PyData.str) + 1) (max 0 0) + 1 ≤ 64
    rw [this]
    decide
section
variable {P : Program} {w : World} {K : PySem.W.Frag} {mg : Str → Option Value} {base : Heap}
theorem scSpoil : FnScope ["_law_thing"] ["_law_thing"] (defScope sSpoil) := ⟨rfl, rfl, rfl, by decide +kernel, rfl, by decide +kernel, by decide +kernel⟩
theorem ok_spoil {f : Addr} {fd : FuncData} (F : Fun K "_law_spoil" "_law_spoil" sSpoil f fd) (T : TxtB mg) : FnOk P w K mg base CX0 2 f fd ["_law_thing"] spSpoil := by
  refine F.ok scSpoil (fun vs H Q E h => ?_) (fun cdv A outer s H vs Q E hr h => ?_)
  · obtain ⟨v, B, m, rfl, _⟩ := h
    rfl
  · obtain ⟨v, B, m, rfl, sB, sp, hm, k⟩ := h
    have hu : (A.deeper (PyProof.Rows.envOfC "_law_spoil" (defScope sSpoil) s.heap.objs.size f cdv)).units + 64 < cLine := hr.units
    refine ⟨_, pss_cons (ps_if (pt_val (pe_callB call_isi (by rfl) T.isinstance (by decide +kernel) (pa_cons (pv 0) (pa_cons (pe_bltn (v := .ty "list") (by rfl) T.list (by decide +kernel) rfl) pa_nil))))
        (pss_cons (ps_expr (pe_bm PySem.F.plainAttrs_list PySem.F.slot_list_append PySem.F.type_list_append mt_append (pe_ix ix_list (pv 0) pe_int (fun _ _ => rfl)) (pa_cons pe_str pa_nil)))
          (pss_one (ps_expr (pe_bm PySem.F.plainAttrs_list PySem.F.slot_list_append PySem.F.type_list_append mt_append (pv 0) (pa_cons pe_str pa_nil))))) pss_nil)
      (pss_one (ps_if (PW.pt (pw_and (pt_val (pe_callB call_isi (by rfl) T.isinstance (by decide +kernel) (pa_cons (pv 0) (pa_cons (pe_bltn (v := .ty "tuple") (by rfl) T.tuple (by decide +kernel) rfl) pa_nil)))) (pw_and1 (pt_cmpR (op_neD hu) (pv 0) (pe_tup pa_nil) (nomark _)))))
        (pss_one (ps_expr (pe_bm PySem.F.plainAttrs_list PySem.F.slot_list_append PySem.F.type_list_append mt_append (pe_ix ix_tup (pv 0) pe_int (fun _ _ => rfl)) (pa_cons pe_str pa_nil)))) pss_nil)), ?_⟩
    cases id sp with
    | flat t h h1 h2 =>
      exact ⟨_, rfl, _, .ty "list", _, _, false, rfl, .ty _, .base (tyOf_flat (K' := K) (H' := H) h), kit_ty h1, _, rfl, iteF ⟨_, rfl, _, .ty "tuple", _, _, false, rfl, .ty _, .base (tyOf_flat (K' := K) (H' := H) h), kit_ty h2, _, rfl, iteF (iteF (k H sB fun u q => q.more (by omega)))⟩⟩
    | @lst a b xs ys h1 h2 h3 na nb ne l1 l2 =>
      refine ⟨_, rfl, _, .ty "list", _, _, true, rfl, .ty _, .base (.lst h1), kit_ty (by decide +kernel), _, rfl, iteT ?_⟩
      refine ⟨_, rfl, a, xs, _, _, rfl, rfl, SqL.of h1, atI_nat (j := 1) h2, .inl ⟨rfl, _, SqL.of h3⟩, b, ys, _, rfl, rfl, h3, (by rw [PySem.sizeLine_eq]; omega), ?_⟩
      have h1' : (upd H b (.lst (ys ++ [.str "later"]))) a = some (.lst xs) := by
        rw [upd_ne ne]
        exact h1
      refine ⟨_, rfl, .inl ⟨rfl, _, SqL.of h1'⟩, a, xs, _, rfl, rfl, h1', (by rw [PySem.sizeLine_eq]; omega), ?_⟩
      have h1'' : (upd (upd H b (.lst (ys ++ [.str "later"]))) a (.lst (xs ++ [.str "later"]))) a = some (.lst (xs ++ [.str "later"])) := upd_same
      refine ⟨_, rfl, _, .ty "tuple", _, _, false, rfl, .ty _, .base (.lst h1''), kit_ty (by decide +kernel), _, rfl, iteF (iteF (k _ (same_mut (same_mut sB nb) na) fun u q => (q.app h3).app h1'))⟩
    | @emp a h =>
      refine ⟨_, rfl, _, .ty "list", _, _, false, rfl, .ty _, .base (.tup h), kit_ty (by decide +kernel), _, rfl, iteF ?_⟩
      refine ⟨_, rfl, _, .ty "tuple", _, _, true, rfl, .ty _, .base (.tup h), kit_ty (by decide +kernel), _, rfl, iteT ?_⟩
      refine ⟨_, rfl, Nat.zero_le _, fun p hp => ⟨_, _, .tup (SqT.of (same_upd hp _ _ h)) .nil, .tup (SqT.of upd_same) .nil, by decide, by decide, _, rfl, iteF (k _ (same_upd2 sB hp) fun u q => (q.same (same_upd hp)).more (by omega))⟩⟩
    | @tup a b ys h1 h2 nb hy l1 =>
      refine ⟨_, rfl, _, .ty "list", _, _, false, rfl, .ty _, .base (.tup h1), kit_ty (by decide +kernel), _, rfl, iteF ?_⟩
      refine ⟨_, rfl, _, .ty "tuple", _, _, true, rfl, .ty _, .base (.tup h1), kit_ty (by decide +kernel), _, rfl, iteT ?_⟩
      refine ⟨_, rfl, Nat.zero_le _, fun p hp => ⟨.tuple [.list (ys.map PyData.str), .int 1], .tuple [], .tup (SqT.of (same_upd hp _ _ h1)) (.cons (.lst (SqL.of (same_upd hp _ _ h2)) (dpAll_strs ys)) (.cons (.int 1) .nil)), .tup (SqT.of upd_same) .nil, shaped_later hy, by decide, _, rfl, iteT ?_⟩⟩
      have e := same_upd (o := .tup []) hp
      refine ⟨_, rfl, a, _, _, _, rfl, rfl, SqT.of (e _ _ h1), atI_nat (j := 0) rfl, .inl ⟨rfl, _, SqL.of (e _ _ h2)⟩, b, _, _, rfl, rfl, e _ _ h2, (by rw [List.length_map, PySem.sizeLine_eq]; omega), ?_⟩
      exact k _ (same_mut (sB.trans e) nb) fun u q => ((q.same e).app (e _ _ h2)).more (by omega)
end
end K81

namespace K81
open PySem L2 PyProof.Rows
def rTup (K : PySem.W.Frag) : List V → Hp → VK → Prop := fun xs H Q => ∃ p ys, xs = [V.ref p] ∧ ((SqL K H p ys ∧ ∀ l, H l = none → Q (V.ref l) (upd H l (.tup ys))) ∨ (SqT K H p ys ∧ Q (V.ref p) H))
def rDictP (K : PySem.W.Frag) : List V → Hp → VK → Prop := fun xs H Q => ∃ (a : Addr) (ps : List Addr) (kvs : List (Key × V)), xs = [V.ref a] ∧ SqL K H a (ps.map V.ref) ∧ PySem.Paired (fun p (kv : Key × V) => SqT K H p [kV kv.1, kv.2]) ps kvs ∧ ∀ p, H p = none → Q (V.ref p) (upd H p (.dK (mergeK [] kvs)))
def tPick (a b : TE) : TE := tCall spPick [] E0 (tCons a (tCons b tNil))
def tVal : TE := tCall spVal [] E0 (tCons (tVar 1) tNil)
def tDraw (n : Int) : TE := tCall spDraw [] E0 (tCons (tVar 1) (tCons (tC (.int n)) tNil))
def tPairs : TS := tAsg (tLc (iRng1 (tCons (tDraw 9) tNil)) (gName 14) tYes (tTup (tCons (tPick (tVar 1) (tVar 2)) (tCons tVal tNil))) [14]) (gName 4)
def tNames (K : PySem.W.Frag) (C : Addr) : TS := tAsg (tTup (tCons (tMake C (spInit K C) [] E0 (tCons (tPick (tVar 1) (tLst (tCons (tVar 4) (tCons (tCB (rTup K) (tCons (tVar 4) tNil)) tNil)))) tNil)) (tCons (tCB (rDictP K) (tCons (tVar 4) tNil)) tNil))) (gTup K 2 (gCons (gName 5) (gCons (gName 6) gNil)))
def tIf0 (K : PySem.W.Frag) (C a0 : Addr) : TS := tIfS (tAnd (tTest (tOp (rEqD K) (tVar 4) (tLst tNil))) (tNot (tTest (tOp (rOwnEq K C (spEq C)) (tMake C (spInit K C) [.ref a0] E0 tNil) (tVar 5))))) (tRet (tC (.bl false))) tNext
section
variable {H H' : Hp} {st cl wl : Addr} {n : Nat}
theorem wl_ne (S : Strm H st cl n) (hw : H wl = some (.lst (words.map V.str))) : wl ≠ st ∧ wl ≠ cl := by
  obtain ⟨c, a, ns, h1, h2, _⟩ := S.ex
  constructor
  · rintro rfl
    rw [h1] at hw
    cases hw
  · rintro rfl
    rw [h2] at hw
    cases ns with
    | nil => cases hw
    | cons x xs => cases hw
theorem ne_stm (S : Strm H st cl n) {b : Addr} {o : HO} (h : H b = some o) (nl : ∀ xs, o ≠ .lst xs) : b ≠ st ∧ b ≠ cl := by
  obtain ⟨c, a, ns, h1, h2, _⟩ := S.ex
  exact ⟨ne_of h h1 (nl _), ne_of h h2 (nl _)⟩
theorem Kp2.at (k : Kp2 st cl H H') (S : Strm H st cl n) {b : Addr} {o : HO} (h : H b = some o) (nl : ∀ xs, o ≠ .lst xs) : H' b = some o :=
  k b o h (ne_stm S h nl).1 (ne_stm S h nl).2
theorem free_stm (S : Strm H st cl n) {b : Addr} (h : H b = none) : b ≠ st ∧ b ≠ cl := by
  obtain ⟨o, h1⟩ := S.st
  obtain ⟨u, h2⟩ := S.cl
  exact ⟨(ne_of_none h1 h).symm, (ne_of_none h2 h).symm⟩
theorem Kp2.none (k : Kp2 st cl H H') {m : Nat} (S : Strm H' st cl m) {b : Addr} (h : H' b = none) : H b = none := by
  cases e : H b with
  | none => rfl
  | some o =>
    have f := free_stm S h
    rw [k b o e f.1 f.2] at h
    cases h
variable {σ : L2.St} {Q : VK}
theorem pick_words (h1 : σ[1]? = some (some (.ref st))) (h2 : σ[2]? = some (some (.ref wl))) (S : Strm H st cl n) (hw : H wl = some (.lst (words.map V.str))) (hn : n ≤ 5000) (q : ∀ k H', k ∈ words → Strm H' st cl (n + 1) → Kp2 st cl H H' → H' wl = some (.lst (words.map V.str)) → Q (.str k) H') :
    tPick (tVar 1) (tVar 2) σ H Q := by
  have ne := wl_ne S hw
  refine ⟨_, h1, _, h2, st, cl, n, wl, _, rfl, S, hw, ne.1, ne.2, (fun z => nomatch z), (by show 8 < 1000; decide), by omega, fun x H' hx S' kk => ?_⟩
  obtain ⟨k, hk, rfl⟩ := List.mem_map.mp hx
  exact q k H' hk S' kk (kk _ _ hw ne.1 ne.2)
theorem val_any (h1 : σ[1]? = some (some (.ref st))) (S : Strm H st cl n) (hn : n ≤ 5000) (q : ∀ v d N H', d ∈ menu → Dt N v d → Fresh H H' N → Strm H' st cl (n + 1) → Kp2 st cl H H' → Q v H') : tVal σ H Q :=
  ⟨_, h1, st, cl, n, rfl, S, by omega, q⟩
theorem draw_any {m : Int} (h1 : σ[1]? = some (some (.ref st))) (S : Strm H st cl n) (hn : n ≤ 5000) (m0 : 0 < m) (m1 : m < 100) (q : ∀ j H', 0 ≤ j → j < m → Strm H' st cl (n + 1) → Kp2 st cl H H' → Q (.int j) H') : tDraw m σ H Q :=
  ⟨_, h1, st, cl, n, m, rfl, S, m0, by omega, by omega, q⟩
end
/-! ### the pairs -/
def okP (nds : DD) : Prop := ∀ q ∈ nds, q.2 ∈ menu ∧ q.1 ∈ words
def PaI (H1 : Hp) (D st cl wl : Addr) (n0 : Nat) (i : Nat) (H' : Hp) : Prop := ∃ (n : Nat) (xs : List V) (nds : DD) (M : Hp), n ≤ n0 + 2 * i ∧ Strm H' st cl n ∧ Kp2 st cl H1 H' ∧ H' wl = some (.lst (words.map V.str)) ∧ H' D = some (.lst xs) ∧ nds.length = i ∧ Fresh H1 H' M ∧ M D = none ∧ PrM M H' xs nds ∧ okP nds
theorem t_pairs {D : Ends} {H : Hp} {sc st wl cl : Addr} {n : Nat} {r3 r4 r5 r6 r7 r8 r9 r10 r11 r12 r13 r14 : Option V} (S : Strm H st cl n) (hw : H wl = some (.lst (words.map V.str))) (hn : n ≤ 1000)
    (k : ∀ (L : Addr) (xs : List V) (nds : DD) (M H' : Hp) (m : Nat), Strm H' st cl m → m ≤ n + 17 → H' wl = some (.lst (words.map V.str)) → H' L = some (.lst xs) → Fresh H H' M → M L = none → PrM M H' xs nds → nds.length ≤ 8 → okP nds → (L ≠ st ∧ L ≠ cl) →
      D.nx [some (.ref sc), some (.ref st), some (.ref wl), r3, some (.ref L), r5, r6, r7, r8, r9, r10, r11, r12, r13, r14] H') :
    tPairs D [some (.ref sc), some (.ref st), some (.ref wl), r3, r4, r5, r6, r7, r8, r9, r10, r11, r12, r13, r14] H := by
  refine draw_any rfl S (by omega) (by decide) (by decide) fun j H1 j0 j1 S1 k1 => ?_
  have ne := wl_ne S hw
  have w1 := k1 _ _ hw ne.1 ne.2
  refine ⟨j, rfl, by omega, by omega, fun D0 hD => ?_⟩
  refine lc_range (lo := 0) (n := j.toNat) (PaI H1 D0 st cl wl (n + 1)) ⟨n + 1, [], [], emp, by omega, S1.keep (same_upd hD), Kp2.of_same (same_upd hD), same_upd hD _ _ w1, upd_same, rfl, fresh_emp, rfl, .nil, fun q hq => nomatch hq⟩ (fun i H' hi h => ?_) (fun H' h => ?_)
  · obtain ⟨m, xs, nds, M, hm, S2, k2, w2, hy, hl, F2, nD, pM, oP⟩ := h
    have hDs := free_stm S1 hD
    refine ⟨rfl, ?_⟩
    refine pick_words rfl rfl S2 w2 (by omega) fun kk H3 hk S3 k3 w3 => ?_
    refine val_any rfl S3 (by omega) fun v d N H4 hd hv F4 S4 k4 => ?_
    refine ⟨(by show 2 ≤ sizeLine; decide), fun U hU => ?_⟩
    have h3 := k3 _ _ hy hDs.1 hDs.2
    have h4 := k4 _ _ h3 hDs.1 hDs.2
    have nDU : D0 ≠ U := ne_of_none h4 hU
    have eU : Same H4 (upd H4 U (.tup [.str kk, v])) := same_upd hU
    have ne3 := wl_ne S3 w3
    have nwD : wl ≠ D0 := ne_of_none w1 hD
    have nN : N D0 = none := by
      cases z : N D0 with
      | none => rfl
      | some o =>
        have := F4.new _ _ z
        rw [h3] at this
        cases this
    have nMs : ∀ b o, M b = some o → b ≠ st ∧ b ≠ cl := fun b o e => free_stm S1 (F2.new b o e)
    have mk : ∀ b o, M b = some o → H3 b = some o := fun b o e => k3 _ _ (F2.sub b o e) (nMs b o e).1 (nMs b o e).2
    have ap : ∀ b o, N b = some o → M b = none := fun b o e => by
      cases z : M b with
      | none => rfl
      | some u =>
        have := F4.new b o e
        rw [mk b u z] at this
        cases this
    have sM : Same (uni M N) H4 := fun b o e => by
      rcases uni_or e with q | q
      · exact k4 _ _ (mk b o q) (nMs b o q).1 (nMs b o q).2
      · exact F4.sub b o q
    have nMD : uni M N D0 = none := by
      unfold uni
      rw [nD]
      exact nN
    have sD : ∀ b o, b ≠ D0 → (upd H4 U (.tup [.str kk, v])) b = some o → (upd (upd H4 U (.tup [.str kk, v])) D0 (.lst (xs ++ [.ref U]))) b = some o := fun b o nb e => by rw [upd_ne nb]; exact e
    refine ⟨xs, eU _ _ h4, sz_lt1 (PySem.Paired.length pM) (by omega), m + 2, xs ++ [.ref U], nds ++ [(kk, d)], uni M N, by omega, ?_, ?_, ?_, upd_same, by rw [List.length_append, hl]; rfl, ⟨?_, ?_⟩, nMD, ?_, ?_⟩
    · obtain ⟨c, a, ns, g1, g2, g3⟩ := S4.ex
      exact ⟨c, a, ns, sD _ _ hDs.1.symm (eU _ _ g1), sD _ _ hDs.2.symm (eU _ _ g2), g3⟩
    · intro b o e n1 n2
      exact sD _ _ (ne_of_none e hD) (eU _ _ (k4 _ _ (k3 _ _ (k2 _ _ e n1 n2) n1 n2) n1 n2))
    · exact sD _ _ nwD (eU _ _ (k4 _ _ w3 ne3.1 ne3.2))
    · exact same_mut (sM.trans eU) nMD
    · intro b o e
      rcases uni_or e with q | q
      · exact F2.new b o q
      · exact k2.none S2 (k3.none S3 (F4.new b o q))
    · refine paired_snoc (prM_mono uni_l (fun t ys q => ?_) pM) ⟨U, v, rfl, sD _ _ nDU.symm upd_same, Dt.mono (uni_r ap) _ _ hv⟩
      have q3 := k3.at S2 q (fun _ z => nomatch z)
      exact sD _ _ (ne_of q hy (by intro z; cases z)) (eU _ _ (k4.at S3 q3 (fun _ z => nomatch z)))
    · intro q hq
      rcases List.mem_append.mp hq with hq | hq
      · exact oP q hq
      · rw [List.mem_singleton.mp hq]
        exact ⟨hd, hk⟩
  · obtain ⟨m, xs, nds, M, hm, S2, k2, w2, hy, hl, F2, nD, pM, oP⟩ := h
    exact k D0 xs nds M H' m S2 (by omega) w2 hy ⟨F2.sub, fun b o e => k1.none S1 (F2.new b o e)⟩ nD pM (by omega) oP (free_stm S1 hD)
end K81

namespace K81
open PySem L2 PyProof.Rows
/-- a turn's state: names at p (their dict hd), held at h, the mirrors, the parts of both -/
structure TI (C st cl wl p hd h : Addr) (kvs kvs2 : List (Key × V)) (l1 l2 : DD) (N M H : Hp) (n : Nat) : Prop where
  S : Strm H st cl n
  w : H wl = some (.lst (words.map V.str))
  na : NamesAt C H p hd kvs
  h1 : Held N kvs l1
  s1 : Same N H
  d : H h = some (.dK kvs2)
  h2 : Held M kvs2 l2
  s2 : Same M H
  ap : ∀ b o, N b = some o → M b = none
  o1 : N st = none ∧ N cl = none ∧ N hd = none ∧ N h = none
  o2 : M st = none ∧ M cl = none ∧ M hd = none ∧ M h = none ∧ M wl = none ∧ M p = none
  hh : hd ≠ h
  nd : (keysD l2).Nodup
  mn : ∀ q ∈ l2, q.2 ∈ menu
  wd : ∀ k ∈ keysD l2, k ∈ words
theorem prM_split {M H : Hp} : ∀ {xs : List V} {nds : DD}, PrM M H xs nds → ∃ (ts : List Addr) (kvs : List (Key × V)), xs = ts.map V.ref ∧ PySem.Paired (fun (t : Addr) (kv : Key × V) => H t = some (.tup [kV kv.1, kv.2])) ts kvs ∧ Held M kvs nds
  | _, _, .nil => ⟨[], [], rfl, .nil, .nil⟩
  | _, _, @PySem.Paired.cons _ _ _ x q xs nds h t => by
    obtain ⟨ts, kvs, e, p1, p2⟩ := prM_split t
    obtain ⟨a, v, h1, h2, h3⟩ := h
    exact ⟨a :: ts, (Sum.inr q.1, v) :: kvs, by rw [h1, e]; rfl, .cons h2 p1, .cons ⟨rfl, h3⟩ p2⟩
theorem keys_merge {R : Str → Prop} : ∀ {m l : DD}, (∀ k ∈ keysD l, R k) → (∀ q ∈ m, R q.1) → ∀ k ∈ keysD (mergeD l m), R k
  | [], l, h, _ => h
  | p :: m, l, h, hm => keys_merge (m := m) (l := putD l p.1 p.2) (fun k hk => by
      rw [keys_put] at hk
      split at hk
      · exact h k hk
      · rcases List.mem_append.mp hk with z | z
        · exact h k z
        · rw [List.mem_singleton.mp z]
          exact hm p List.mem_cons_self) fun q hq => hm q (List.mem_cons_of_mem _ hq)
theorem Kp2.prM {st cl : Addr} {n : Nat} {M H H' : Hp} (k : Kp2 st cl H H') (S : Strm H st cl n) {xs : List V} {nds : DD} (p : PrM M H xs nds) : PrM M H' xs nds :=
  prM_mono (Same.refl M) (fun t ys q => k.at S q (fun _ z => nomatch z)) p
theorem t_names {K : PySem.W.Frag} {C : Addr} (cC : Cls K C) (nHC : NoAttr K C "held") {D : Ends} {H : Hp} {sc st wl cl L : Addr} {n : Nat} {xs : List V} {nds : DD} {M : Hp} {r3 r5 r6 r7 r8 r9 r10 r11 r12 r13 r14 : Option V} (S : Strm H st cl n) (hw : H wl = some (.lst (words.map V.str))) (hn : n ≤ 2000)
    (hL : H L = some (.lst xs)) (sM : Same M H) (pM : PrM M H xs nds) (hl : nds.length ≤ 8) (oP : okP nds) (nM : M st = none ∧ M cl = none ∧ M wl = none ∧ M L = none) (nL : L ≠ st ∧ L ≠ cl)
    (k : ∀ (p hd h : Addr) (kvs kvs2 : List (Key × V)) (N H' : Hp), TI C st cl wl p hd h kvs kvs2 (mergeD [] nds) (mergeD [] nds) N M H' (n + 1) → H' L = some (.lst xs) → PrM M H' xs nds →
      D.nx [some (.ref sc), some (.ref st), some (.ref wl), r3, some (.ref L), some (.ref p), some (.ref h), r7, r8, r9, r10, r11, r12, r13, r14] H') :
    tNames K C D [some (.ref sc), some (.ref st), some (.ref wl), r3, some (.ref L), r5, r6, r7, r8, r9, r10, r11, r12, r13, r14] H := by
  refine ⟨_, rfl, _, rfl, _, rfl, L, xs, rfl, .inl ⟨SqL.of hL, fun T0 hT => ⟨(by show 2 ≤ sizeLine; decide), fun L0 hL0 => ?_⟩⟩⟩
  have eT := same_upd (o := .tup xs) hT
  have eL := same_upd (o := .lst [.ref L, .ref T0]) hL0
  have tT := eL _ _ (upd_same (H := H) (a := T0) (o := .tup xs))
  have tL := upd_same (H := upd H T0 (.tup xs)) (a := L0) (o := .lst [.ref L, .ref T0])
  have e1 : Same H _ := L2.Same.trans eT eL
  have fL0 : H L0 = none := Same.free eT hL0
  generalize upd (upd H T0 (.tup xs)) L0 (.lst [.ref L, .ref T0]) = H1 at eL tT tL e1
  have S1 := S.keep e1
  have nL0 := free_stm S fL0
  refine ⟨st, cl, n, L0, _, rfl, S1, tL, nL0.1, nL0.2, (fun z => nomatch z), (by show 2 < 1000; decide), by omega, fun x H2 hx S2 k2 => ?_⟩
  have ne := wl_ne S hw
  have w2 := k2 _ _ (e1 _ _ hw) ne.1 ne.2
  have hL2 := k2 _ _ (e1 _ _ hL) nL.1 nL.2
  have hT2 := k2.at S1 tT (fun _ z => nomatch z)
  have sM2 : Same M H2 := Kp2.same (H := H1) k2 (sM.trans e1) nM.1 nM.2.1
  have p2 : PrM M H2 xs nds := k2.prM S1 (prM_mono (Same.refl M) (fun t ys q => e1 _ _ q) pM)
  have sx : ∃ a, x = .ref a ∧ (H2 a = some (.lst xs) ∨ H2 a = some (.tup xs)) := by
    rcases List.mem_cons.mp hx with rfl | hx
    · exact ⟨L, rfl, .inl hL2⟩
    rcases List.mem_cons.mp hx with rfl | hx
    · exact ⟨T0, rfl, .inr hT2⟩
    · cases hx
  obtain ⟨a, rfl, ha⟩ := sx
  intro p dx hp hdx nedx
  have e2 : Same H2 (upd (upd H2 dx (.own p)) p (.ins C dx [])) := same_upd2 (same_upd hdx) (by rw [upd_ne nedx.symm]; exact hp)
  have hp2 : (upd (upd H2 dx (.own p)) p (.ins C dx [])) p = some (.ins C dx []) := upd_same
  refine ⟨p, dx, a, xs, nds, rfl, hp2, ?_, prM_at (sM2.trans e2) (prM_mono (Same.refl M) (fun t ys q => e2 _ _ q) p2), by omega, fun q hq => okD_menu (oP q hq).1, fun hd kvs N H4 na hdn hN F4 nN kp => ⟨rfl, ?_⟩⟩
  · rcases ha with ha | ha
    · exact .inl (SqL.of (e2 _ _ ha))
    · exact .inr (SqT.of (e2 _ _ ha))
  have e4 : Same H2 H4 := fun b o e => kp b o (e2 _ _ e) (ne_of_none e hp)
  have p4 : PrM M H4 xs nds := prM_mono (Same.refl M) (fun t ys q => e4 _ _ q) p2
  obtain ⟨ts, kv, ex, q1, q2⟩ := prM_split p4
  subst ex
  refine ⟨_, rfl, L, ts, kv, rfl, SqL.of (e4 _ _ hL2), paired_map (fun t kv q => SqT.of q) q1, fun h hh => ⟨(by show 2 ≤ sizeLine; decide), fun U hU => ?_⟩⟩
  have e5 := same_upd (o := .dK (mergeK [] kv)) hh
  have e6 := same_upd (o := .tup [.ref p, .ref h]) hU
  have e7 : Same H4 _ := L2.Same.trans e5 e6
  have dh := e6 _ _ (upd_same (H := H4) (a := h) (o := .dK (mergeK [] kv)))
  refine ⟨U, _, rfl, SqT.of upd_same, rfl, _, _, rfl, _, _, rfl, rfl, ?_⟩
  obtain ⟨dx', na1, na2⟩ := id na
  have F0 : ∀ b o, N b = some o → H2 b = none := fun b o e => Same.free e2 (F4.new b o e)
  have hd2 : H2 hd = none := Same.free e2 hdn
  refine k p hd h kvs (mergeK [] kv) N _ ⟨S2.keep (e4.trans e7), e7 _ _ (e4 _ _ w2), namesAt_mono e7 na, hN, F4.sub.trans e7, dh, held_merge q2 .nil, (sM2.trans e4).trans e7, ?_, ⟨?_, ?_, nN, ?_⟩, ⟨nM.1, nM.2.1, ?_, ?_, nM.2.2.1, ?_⟩, ?_, nodup_merge (by simp [keysD]), all_merge (fun q hq => nomatch hq) (fun q hq => (oP q hq).1), keys_merge (fun k hk => nomatch hk) (fun q hq => (oP q hq).2)⟩ (e7 _ _ (e4 _ _ hL2)) (prM_mono (Same.refl M) (fun t ys q => e7 _ _ q) p4)
  · intro b o e
    cases z : M b with
    | none => rfl
    | some u =>
      have := F0 b o e
      rw [sM2 b u z] at this
      cases this
  · cases z : N st with
    | none => rfl
    | some u =>
      obtain ⟨o, ho⟩ := S2.st
      rw [F0 _ _ z] at ho
      cases ho
  · cases z : N cl with
    | none => rfl
    | some u =>
      obtain ⟨o, ho⟩ := S2.cl
      rw [F0 _ _ z] at ho
      cases ho
  · cases z : N h with
    | none => rfl
    | some u =>
      have := F4.sub _ _ z
      rw [hh] at this
      cases this
  · cases z : M hd with
    | none => rfl
    | some u =>
      have := sM2 _ _ z
      rw [hd2] at this
      cases this
  · cases z : M h with
    | none => rfl
    | some u =>
      have := e4 _ _ (sM2 _ _ z)
      rw [hh] at this
      cases this
  · cases z : M p with
    | none => rfl
    | some u =>
      have := sM2 _ _ z
      rw [hp] at this
      cases this
  · exact ne_of_none na2 hh
theorem TI.keep {C st cl wl p hd h : Addr} {kvs kvs2 : List (Key × V)} {l1 l2 : DD} {N M H H' : Hp} {n : Nat} (I : TI C st cl wl p hd h kvs kvs2 l1 l2 N M H n) (e : Same H H') : TI C st cl wl p hd h kvs kvs2 l1 l2 N M H' n :=
  ⟨I.S.keep e, e _ _ I.w, namesAt_mono e I.na, I.h1, I.s1.trans e, e _ _ I.d, I.h2, I.s2.trans e, I.ap, I.o1, I.o2, I.hh, I.nd, I.mn, I.wd⟩
theorem TI.drawn {C st cl wl p hd h : Addr} {kvs kvs2 : List (Key × V)} {l1 l2 : DD} {N M H H' : Hp} {n m : Nat} (I : TI C st cl wl p hd h kvs kvs2 l1 l2 N M H n) (S : Strm H' st cl m) (k : Kp2 st cl H H') : TI C st cl wl p hd h kvs kvs2 l1 l2 N M H' m := by
  have ne := wl_ne I.S I.w
  obtain ⟨dx, a1, a2⟩ := I.na
  exact ⟨S, k _ _ I.w ne.1 ne.2, ⟨dx, k.at I.S a1 (fun _ z => nomatch z), k.at I.S a2 (fun _ z => nomatch z)⟩, I.h1, k.same I.s1 I.o1.1 I.o1.2.1, k.at I.S I.d (fun _ z => nomatch z), I.h2, k.same I.s2 I.o2.1 I.o2.2.1, I.ap, I.o1, I.o2, I.hh, I.nd, I.mn, I.wd⟩
/-- the pairs of words and values lie well -/
theorem shaped_pairs : ∀ {nds : DD}, okP nds → SeqAt.shaped (.list (nds.map fun q => PyData.tuple [.str q.1, q.2])) = true := by
  intro nds h
  have one : ∀ q ∈ nds, PyData.canLay0 (.tuple [.str q.1, q.2]) = true ∧ PyData.depth (.tuple [.str q.1, q.2]) ≤ 10 := fun q hq => by
    obtain ⟨h1, h2⟩ := h q hq
    have hd := menu_eqv h1
    have s := hd.2.2.2.2.2.2.2.1
    unfold SeqAt.shaped at s
    rw [Bool.and_eq_true] at s
    constructor
    · show (PyData.strOk q.1 && (PyData.canLay0 q.2 && true)) = true
      rw [s.1]
      generalize q.1 = w at h2
      unfold words at h2
      simp only [List.mem_cons, List.not_mem_nil, or_false] at h2
      rcases h2 with rfl | rfl | rfl | rfl | rfl | rfl | rfl | rfl <;> decide +kernel
    · have := hd.2.2.2.2.2.1
      show max 0 (max (PyData.depth q.2) 0) + 1 ≤ 10
      omega
  unfold SeqAt.shaped
  rw [Bool.and_eq_true]
  have key : PyData.canLayAll0 (nds.map fun q => PyData.tuple [.str q.1, q.2]) = true ∧ PyData.depthAll (nds.map fun q => PyData.tuple [.str q.1, q.2]) ≤ 10 := by
    clear h
    induction nds with
    | nil => exact ⟨rfl, Nat.zero_le _⟩
    | cons q nds ih =>
      obtain ⟨i1, i2⟩ := ih fun r hr => one r (List.mem_cons_of_mem _ hr)
      obtain ⟨o1, o2⟩ := one q List.mem_cons_self
      constructor
      · show (PyData.canLay0 (.tuple [.str q.1, q.2]) && PyData.canLayAll0 (nds.map fun q => PyData.tuple [.str q.1, q.2])) = true
        rw [o1, i1]
        rfl
      · show max (PyData.depth (.tuple [.str q.1, q.2])) (PyData.depthAll (nds.map fun q => PyData.tuple [.str q.1, q.2])) ≤ 10
        omega
  refine ⟨key.1, ?_⟩
  apply decide_eq_true
  show PyData.depthAll (nds.map fun q => PyData.tuple [.str q.1, q.2]) + 1 ≤ 64
  have := key.2
  omega
theorem prM_dp {K : PySem.W.Frag} {M H : Hp} (s : Same M H) : ∀ {xs : List V} {nds : DD}, PrM M H xs nds → DpAll K H xs (nds.map fun q => PyData.tuple [.str q.1, q.2])
  | _, _, .nil => .nil
  | _, _, .cons h t => by
    obtain ⟨a, v, rfl, h2, h3⟩ := h
    exact .cons (.tup (SqT.of h2) (.cons (.str _) (.cons (Dt.dp _ _ (Dt.mono s _ _ h3)) .nil))) (prM_dp s t)
theorem t_if0 {P : Program} {K : PySem.W.Frag} {mg : Str → Option Value} {C CN fI a0 : Addr} (T : TxtN P K mg C CN fI) (hA : ∀ H : Hp, SqT K H a0 []) {D : Ends} {H : Hp} {sc st wl cl L p hd h : Addr} {n : Nat} {kvs kvs2 : List (Key × V)} {xs : List V} {nds : DD} {N M : Hp} {r3 r7 r8 r9 r10 r11 r12 r13 r14 : Option V}
    (I : TI C st cl wl p hd h kvs kvs2 (mergeD [] nds) (mergeD [] nds) N M H n) (hL : H L = some (.lst xs)) (pM : PrM M H xs nds) (oP : okP nds)
    (k : ∀ H', Same H H' → D.nx [some (.ref sc), some (.ref st), some (.ref wl), r3, some (.ref L), some (.ref p), some (.ref h), r7, r8, r9, r10, r11, r12, r13, r14] H') :
    tIf0 K C a0 D [some (.ref sc), some (.ref st), some (.ref wl), r3, some (.ref L), some (.ref p), some (.ref h), r7, r8, r9, r10, r11, r12, r13, r14] H := by
  refine ⟨_, rfl, (by show 0 ≤ sizeLine; decide), fun q hq => ?_⟩
  have e1 := same_upd (o := .lst []) hq
  have hq1 := upd_same (H := H) (a := q) (o := .lst [])
  generalize upd H q (.lst []) = H1 at e1 hq1
  refine ⟨_, _, .lst (SqL.of (e1 _ _ hL)) (prM_dp (I.s2.trans e1) (prM_mono (Same.refl M) (fun t ys q => e1 _ _ q) pM)), .lst (SqL.of hq1) .nil, shaped_pairs oP, by decide, _, rfl, ?_⟩
  cases nds with
  | cons nd nds => exact iteF (iteF (k _ e1))
  | nil =>
    refine iteT ?_
    intro x dx hx hdx ne
    refine ⟨x, dx, a0, [], [], rfl, upd_same, .inr (hA _), .nil, by decide, (fun q hq => nomatch hq), fun hd1 k1 N1 H2 n1 _ h1 F1 _ kp => ⟨rfl, ?_⟩⟩
    have e2 : Same H1 H2 := made_same hx hdx kp
    have J := I.keep (e1.trans e2)
    refine ⟨_, rfl, eq_names (P := P) (mg := mg) (CN := CN) (fI := fI) n1 (held_mono F1.sub h1) (fun q hq => nomatch hq) J.na (held_mono J.s1 J.h1) (fun q hq => nomatch hq) (show eqDD [] [] = true from rfl) ⟨true, rfl, iteF (k _ (e1.trans e2))⟩⟩
end K81

namespace K81
open PySem L2 PyProof.Rows
def tPut (C : Addr) : TS := tIfS (tB (tNotN (tMeth C "put" (spPut C) [] E0 (tVar 5) (tCons (tVar 8) (tCons (tVar 9) tNil))))) (tRet (tC (.bl false))) tNext
def tDue1 : TS := tAsg (tIf (tB (tDIn (tVar 10) (tVar 6))) (tTup (tCons (tC (.str "told")) (tCons (tDGet (tVar 6) (tVar 10)) tNil))) (tTup (tCons (tC (.str "none")) (tCons (tVar 10) tNil)))) (gName 11)
def tChk (C : Addr) : TS := tIfS (tOr (tNot (tB (tCall (spSame 7) [] E0 (tCons (tCall (spGot C) [] E0 (tCons (tVar 5) (tCons (tVar 10) tNil))) (tCons (tVar 11) tNil))))) (tTest (tOp rNe (tMeth C "has" (spHas C) [] E0 (tVar 5) (tCons (tVar 10) tNil)) (tDIn (tVar 10) (tVar 6))))) (tRet (tC (.bl false))) tNext
def tBody (C : Addr) : TS := tMid (tPar 8 9 (tCons (tPick (tVar 1) (tVar 2)) (tCons tVal tNil))) (tMid (tPut C) (tMid (sDPut (tVar 6) (tVar 8) (tVar 9)) (tMid (tAsg (tPick (tVar 1) (tVar 2)) (gName 10)) (tMid tDue1 (tChk C)))))
def tAgain (C : Addr) : TS := tFor (iRng1 (tCons (tDraw 13) tNil)) (gName 7) (tBody C)
theorem TI.big {C st cl wl p hd h : Addr} {kvs kvs2 : List (Key × V)} {l1 l2 : DD} {N M N0 H H' : Hp} {n m : Nat} (I : TI C st cl wl p hd h kvs kvs2 l1 l2 N M H n) (S : Strm H' st cl m) (k : Kp2 st cl H H') (F : Fresh H H' N0) :
    TI C st cl wl p hd h kvs kvs2 l1 l2 N (uni M N0) H' m ∧ Same N0 (uni M N0) := by
  have J := I.drawn S k
  have nn : ∀ {b : Addr} {o : HO}, H b = some o → N0 b = none := fun {b o} e => by
    cases z : N0 b with
    | none => rfl
    | some u =>
      rw [F.new _ _ z] at e
      cases e
  have un : ∀ {b : Addr}, M b = none → N0 b = none → uni M N0 b = none := fun {b} e1 e2 => by
    unfold uni
    rw [e1]
    exact e2
  obtain ⟨dx, a1, a2⟩ := id I.na
  obtain ⟨o1, s1⟩ := I.S.st
  obtain ⟨o2, s2⟩ := I.S.cl
  have ap0 : ∀ b o, N0 b = some o → M b = none := fun b o e => by
    cases z : M b with
    | none => rfl
    | some u =>
      have := F.new b o e
      rw [I.s2 b u z] at this
      cases this
  refine ⟨⟨S, J.w, J.na, J.h1, J.s1, J.d, held_mono uni_l J.h2, fun b o e => ?_, fun b o e => ?_, I.o1, ⟨un I.o2.1 (nn s1), un I.o2.2.1 (nn s2), un I.o2.2.2.1 (nn a2), un I.o2.2.2.2.1 (nn I.d), un I.o2.2.2.2.2.1 (nn I.w), un I.o2.2.2.2.2.2 (nn a1)⟩, I.hh, I.nd, I.mn, I.wd⟩, uni_r ap0⟩
  · rcases uni_or e with q | q
    · exact J.s2 b o q
    · exact F.sub b o q
  · refine un (I.ap b o e) (nn (I.s1 b o e))
theorem TI.put {C st cl wl p hd h : Addr} {kvs kvs2 : List (Key × V)} {l1 l2 : DD} {N M N0 H H' : Hp} {n : Nat} {k : Str} {v' : V} {d : PyData} (I : TI C st cl wl p hd h kvs kvs2 l1 l2 N M H n) (na : NamesAt C H' p hd (putK kvs (Sum.inr k : Key) v')) (t : Dt N0 v' d) (F : Fresh H H' N0) (kp : ∀ b o, H b = some o → b ≠ hd → H' b = some o) :
    TI C st cl wl p hd h (putK kvs (Sum.inr k : Key) v') kvs2 (putD l1 k d) l2 (uni N N0) M H' n := by
  obtain ⟨dx, a1, a2⟩ := id I.na
  have nn : ∀ {b : Addr} {o : HO}, H b = some o → N0 b = none := fun {b o} e => by
    cases z : N0 b with
    | none => rfl
    | some u =>
      rw [F.new _ _ z] at e
      cases e
  have un : ∀ {b : Addr}, N b = none → N0 b = none → uni N N0 b = none := fun {b} e1 e2 => by
    unfold uni
    rw [e1]
    exact e2
  have ap0 : ∀ b o, N0 b = some o → N b = none := fun b o e => by
    cases z : N b with
    | none => rfl
    | some u =>
      have := F.new b o e
      rw [I.s1 b u z] at this
      cases this
  obtain ⟨o1, s1⟩ := I.S.st
  obtain ⟨o2, s2⟩ := I.S.cl
  have nl : ∀ {b xs}, H b = some (.lst xs) → b ≠ hd := fun {b xs} e => ne_of e a2 (by intro z; cases z)
  refine ⟨?_, kp _ _ I.w (nl I.w), na, held_put (held_mono uni_l I.h1) (Dt.mono (uni_r ap0) _ _ t), fun b o e => ?_, kp _ _ I.d I.hh.symm, I.h2, fun b o e => kp _ _ (I.s2 b o e) (ne_of_none e I.o2.2.2.1), fun b o e => ?_, ⟨un I.o1.1 (nn s1), un I.o1.2.1 (nn s2), un I.o1.2.2.1 (nn a2), un I.o1.2.2.2 (nn I.d)⟩, I.o2, I.hh, I.nd, I.mn, I.wd⟩
  · obtain ⟨c, a, ns, g1, g2, g3⟩ := I.S.ex
    exact ⟨c, a, ns, kp _ _ g1 (nl g1), kp _ _ g2 (nl g2), g3⟩
  · rcases uni_or e with q | q
    · exact kp _ _ (I.s1 b o q) (ne_of_none q I.o1.2.2.1)
    · exact F.sub b o q
  · rcases uni_or e with q | q
    · exact I.ap b o q
    · cases z : M b with
      | none => rfl
      | some u =>
        have := F.new b o q
        rw [I.s2 b u z] at this
        cases this
theorem keys_put_all {R : Str → Prop} {l : DD} {k : Str} {d : PyData} (h : ∀ j ∈ keysD l, R j) (hk : R k) : ∀ j ∈ keysD (putD l k d), R j := by
  intro j hj
  rw [keys_put] at hj
  split at hj
  · exact h j hj
  · rcases List.mem_append.mp hj with z | z
    · exact h j z
    · rw [List.mem_singleton.mp z]
      exact hk
theorem TI.set {C st cl wl p hd h : Addr} {kvs kvs2 : List (Key × V)} {l1 l2 : DD} {N M H : Hp} {n : Nat} {k : Str} {v : V} {d : PyData} (I : TI C st cl wl p hd h kvs kvs2 l1 l2 N M H n) (t : Dt M v d) (hd' : d ∈ menu) (hk : k ∈ words) :
    TI C st cl wl p hd h kvs (putK kvs2 (Sum.inr k : Key) v) l1 (putD l2 k d) N M (upd H h (.dK (putK kvs2 (Sum.inr k : Key) v))) n := by
  obtain ⟨dx, a1, a2⟩ := id I.na
  have nl : ∀ {b xs}, H b = some (.lst xs) → b ≠ h := fun {b xs} e => ne_of e I.d (by intro z; cases z)
  have go : ∀ {b o}, H b = some o → b ≠ h → (upd H h (.dK (putK kvs2 (Sum.inr k : Key) v))) b = some o := fun {b o} e n => by rw [upd_ne n]; exact e
  refine ⟨?_, go I.w (nl I.w), ⟨dx, go a1 (ne_of a1 I.d (by intro z; cases z)), go a2 I.hh⟩, I.h1, fun b o e => go (I.s1 b o e) (ne_of_none e I.o1.2.2.2), upd_same, held_put I.h2 t, fun b o e => go (I.s2 b o e) (ne_of_none e I.o2.2.2.2.1), I.ap, I.o1, I.o2, I.hh, nodup_put I.nd, all_put I.mn hd', keys_put_all I.wd hk⟩
  obtain ⟨c, a, ns, g1, g2, g3⟩ := I.S.ex
  exact ⟨c, a, ns, go g1 (nl g1), go g2 (nl g2), g3⟩
theorem menu_got {d : PyData} (h : d ∈ menu) : PyData.depth (.tuple [.str "told", d]) ≤ 6 ∧ small (.tuple [.str "told", d]) = true := by
  unfold menu at h
  simp only [List.mem_cons, List.not_mem_nil, or_false] at h
  rcases h with rfl | rfl | rfl | rfl | rfl | rfl | rfl | rfl | rfl <;> decide +kernel
theorem got_ok {ld : DD} {k : Str} (h : ∀ q ∈ ld, q.2 ∈ menu) : PyData.depth (gotD ld k) ≤ 6 ∧ small (gotD ld k) = true := by
  unfold gotD
  cases e : lookD ld k with
  | some d => exact menu_got (h _ (look_mem e))
  | none => exact ⟨by show max 0 (max 0 0) + 1 ≤ 6; decide, rfl⟩
theorem some_look {N : Hp} {kvs : List (Key × V)} {ld : DD} (h : Held N kvs ld) (k : Str) : (valV kvs (Sum.inr k : Key)).isSome = (lookD ld k).isSome := by
  rcases held_look k h with ⟨l1, l2⟩ | ⟨d, v, l1, l2, _⟩
  · rw [l1, l2]
    rfl
  · rw [l1, l2]
    rfl
theorem t_again {K : PySem.W.Frag} {C : Addr} {D : Ends} {H : Hp} {sc st wl cl p hd h : Addr} {n : Nat} {kvs kvs2 : List (Key × V)} {ld : DD} {N M : Hp} {r3 r4 r7 r8 r9 r10 r11 r12 r13 r14 : Option V}
    (I : TI C st cl wl p hd h kvs kvs2 ld ld N M H n) (hn : n ≤ 2000) (hl : ld.length ≤ 8)
    (k : ∀ (kvs kvs2 : List (Key × V)) (ld : DD) (N M H' : Hp) (m : Nat) (r7 r8 r9 r10 r11 : Option V), TI C st cl wl p hd h kvs kvs2 ld ld N M H' m → m ≤ n + 37 → ld.length ≤ 20 →
      D.nx [some (.ref sc), some (.ref st), some (.ref wl), r3, r4, some (.ref p), some (.ref h), r7, r8, r9, r10, r11, r12, r13, r14] H') :
    tAgain C D [some (.ref sc), some (.ref st), some (.ref wl), r3, r4, some (.ref p), some (.ref h), r7, r8, r9, r10, r11, r12, r13, r14] H := by
  refine draw_any rfl I.S (by omega) (by decide) (by decide) fun j H1 j0 j1 S1 k1 => ?_
  refine ⟨j, rfl, by omega, by omega, ?_⟩
  refine for_range (lo := 0) (n := j.toNat) (fun i σ H' => ∃ (kvs kvs2 : List (Key × V)) (ld : DD) (N M : Hp) (m : Nat) (r7 r8 r9 r10 r11 : Option V), σ = [some (.ref sc), some (.ref st), some (.ref wl), r3, r4, some (.ref p), some (.ref h), r7, r8, r9, r10, r11, r12, r13, r14] ∧ TI C st cl wl p hd h kvs kvs2 ld ld N M H' m ∧ m ≤ n + 1 + 3 * i ∧ ld.length ≤ 8 + i)
    ⟨kvs, kvs2, ld, N, M, n + 1, r7, r8, r9, r10, r11, rfl, I.drawn S1 k1, by omega, by omega⟩ ?_ ?_
  · rintro i σ H2 hi ⟨kvs, kvs2, ld, N, M, m, r7, r8, r9, r10, r11, rfl, I, hm, hl⟩
    -- name, value
    refine ⟨fun σ' H' => ∃ (kk : Str) (v : V) (d : PyData) (M' : Hp), σ' = [some (.ref sc), some (.ref st), some (.ref wl), r3, r4, some (.ref p), some (.ref h), some (.int (0 + i)), some (.str kk), some v, r10, r11, r12, r13, r14] ∧ TI C st cl wl p hd h kvs kvs2 ld ld N M' H' (m + 2) ∧ Dt M' v d ∧ d ∈ menu ∧ kk ∈ words, ?_, ?_⟩
    · refine pick_words rfl rfl I.S I.w (by omega) fun kk H3 hk S3 k3 w3 => ?_
      have I3 := I.drawn S3 k3
      refine val_any rfl S3 (by omega) fun v d N0 H4 hd' hv F4 S4 k4 => ?_
      obtain ⟨I4, u4⟩ := I3.big S4 k4 F4
      exact ⟨_, _, rfl, kk, v, d, uni M N0, rfl, I4, Dt.mono u4 _ _ hv, hd', hk⟩
    rintro _ H3 ⟨kk, v, d, M3, rfl, I3, hv, hd', hk⟩
    -- put
    obtain ⟨dx, na1, na2⟩ := id I3.na
    refine ⟨fun σ' H' => ∃ (N' : Hp) (v' : V), σ' = [some (.ref sc), some (.ref st), some (.ref wl), r3, r4, some (.ref p), some (.ref h), some (.int (0 + i)), some (.str kk), some v, r10, r11, r12, r13, r14] ∧ TI C st cl wl p hd h (putK kvs (Sum.inr kk : Key) v') kvs2 (putD ld kk d) ld N' M3 H' (m + 2), ?_, ?_⟩
    · refine ⟨_, rfl, p, dx, _, rfl, na1, rfl, _, rfl, _, rfl, p, hd, kvs, kk, v, d, rfl, I3.na, (by rw [held_len I3.h1]; omega), Dt.mono I3.s2 _ _ hv, okD_menu hd', fun v' N0 H' na' t F kp => ⟨false, rfl, iteF ⟨uni N N0, v', rfl, I3.put na' t F kp⟩⟩⟩
    rintro _ H4 ⟨N4, v', rfl, I4⟩
    -- held[name] = value
    refine ⟨fun σ' H' => σ' = [some (.ref sc), some (.ref st), some (.ref wl), r3, r4, some (.ref p), some (.ref h), some (.int (0 + i)), some (.str kk), some v, r10, r11, r12, r13, r14] ∧ TI C st cl wl p hd h (putK kvs (Sum.inr kk : Key) v') (putK kvs2 (Sum.inr kk : Key) v) (putD ld kk d) (putD ld kk d) N4 M3 H' (m + 2), ?_, ?_⟩
    · refine ⟨_, rfl, _, rfl, _, rfl, h, _, rfl, DPut.k (k := Sum.inr kk) I4.d (by rw [held_len I4.h2, PySem.sizeLine_eq]; omega), rfl, I4.set hv hd' hk⟩
    rintro _ H5 ⟨rfl, I5⟩
    have hl5 : (putD ld kk d).length ≤ 8 + (i + 1) := Nat.le_trans len_put (by omega)
    generalize putD ld kk d = l5 at I5 hl5
    generalize putK kvs (Sum.inr kk : Key) v' = kv5 at I5
    generalize putK kvs2 (Sum.inr kk : Key) v = kw5 at I5
    -- other
    refine ⟨fun σ' H' => ∃ o : Str, σ' = [some (.ref sc), some (.ref st), some (.ref wl), r3, r4, some (.ref p), some (.ref h), some (.int (0 + i)), some (.str kk), some v, some (.str o), r11, r12, r13, r14] ∧ TI C st cl wl p hd h kv5 kw5 l5 l5 N4 M3 H' (m + 3), ?_, ?_⟩
    · refine pick_words rfl rfl I5.S I5.w (by omega) fun o H6 ho S6 k6 w6 => ⟨o, rfl, I5.drawn S6 k6⟩
    rintro _ H6 ⟨o, rfl, I6⟩
    -- due
    refine ⟨fun σ' H' => ∃ U : Addr, σ' = [some (.ref sc), some (.ref st), some (.ref wl), r3, r4, some (.ref p), some (.ref h), some (.int (0 + i)), some (.str kk), some v, some (.str o), some (.ref U), r12, r13, r14] ∧ TI C st cl wl p hd h kv5 kw5 l5 l5 N4 M3 H' (m + 3) ∧ Dt H' (.ref U) (gotD l5 o), ?_, ?_⟩
    · refine ⟨_, rfl, _, rfl, h, _, rfl, DGet.k (k := Sum.inr o) I6.d, _, rfl, ?_⟩
      rcases held_look o I6.h2 with ⟨q1, q2⟩ | ⟨dd, vv, q1, q2, q3⟩
      · rw [q2]
        refine iteF ⟨_, rfl, (by show 2 ≤ sizeLine; decide), fun U hU => ⟨U, rfl, I6.keep (same_upd hU), ?_⟩⟩
        unfold gotD
        rw [q1]
        exact .tup upd_same (.cons (.str _) (.cons (.str _) .nil))
      · have g := DGet.k (k := Sum.inr o) I6.d
        rw [q2] at g
        rw [q2]
        refine iteT ⟨_, rfl, _, rfl, h, vv, rfl, g, (by show 2 ≤ sizeLine; decide), fun U hU => ⟨U, rfl, I6.keep (same_upd hU), ?_⟩⟩
        unfold gotD
        rw [q1]
        exact .tup upd_same (.cons (.str _) (.cons (Dt.mono (I6.s2.trans (same_upd hU)) _ _ q3) .nil))
    rintro _ H7 ⟨U, rfl, I7, tU⟩
    obtain ⟨g1, g2⟩ := got_ok (k := o) I7.mn
    refine ⟨_, rfl, _, rfl, p, hd, kv5, l5, o, rfl, I7.na, held_mono I7.s1 I7.h1, fun q hq => okD_menu (I7.mn q hq), fun v1 H8 e8 t8 => ⟨_, rfl, v1, .ref U, gotD l5 o, rfl, t8, Dt.mono e8 _ _ tU, g1, g2, fun H9 e9 => ⟨_, rfl, iteF ?_⟩⟩⟩
    have I9 := I7.keep (e8.trans e9)
    obtain ⟨dx9, n91, n92⟩ := id I9.na
    refine ⟨_, rfl, p, dx9, _, rfl, n91, rfl, _, rfl, p, hd, kv5, o, rfl, I9.na, _, rfl, _, rfl, h, _, rfl, DGet.k (k := Sum.inr o) I9.d, rfl, ?_⟩
    rw [some_look I9.h1 o, some_look I9.h2 o]
    refine ⟨false, ?_, iteF ⟨kv5, kw5, l5, N4, M3, m + 3, _, _, _, _, _, rfl, I9, by omega, hl5⟩⟩
    rw [decide_eq_true rfl]
    rfl
  · rintro σ H2 ⟨kvs, kvs2, ld, N, M, m, r7, r8, r9, r10, r11, rfl, I, hm, hl⟩
    exact k kvs kvs2 ld N M H2 m r7 r8 r9 r10 r11 I (by omega) (by omega)
end K81

namespace K81
open PySem L2 PyProof.Rows
def tEnt (C : Addr) : TE := tMeth C "entries" (spEnt C) [] E0 (tVar 5) tNil
def tRows (K : PySem.W.Frag) : TS := tAsg (tCB (rSortedS K) (tCons (tCB rListD (tCons (tVar 6) tNil)) tNil)) (gName 12)
def tDue2 (K : PySem.W.Frag) : TS := tAsg (tLc (iList K (tVar 12)) (gName 8) tYes (tTup (tCons (tVar 8) (tCons (tCall (spCop 7) [] E0 (tCons (tDGet (tVar 6) (tVar 8)) tNil)) tNil))) [8]) (gName 11)
def tApp (K : PySem.W.Frag) (C : Addr) : TS := tDrop (tBM K "list" rAppend (tEnt C) (tCons (tTup (tCons (tC (.str "later")) (tCons (tC (.int 1)) tNil))) tNil))
def tSm (C : Addr) : TT := tNot (tB (tCall (spSame 7) [] E0 (tCons (tEnt C) (tCons (tVar 11) tNil))))
def tIf1 (C : Addr) : TS := tIfS (tOr (tSm C) (tNot (tB (tCall (spEqr C) [] E0 (tCons (tVar 5) (tCons (tVar 6) (tCons (tVar 12) tNil))))))) (tRet (tC (.bl false))) tNext
def tIf2 (C : Addr) : TS := tIfS (tSm C) (tRet (tC (.bl false))) tNext
theorem held_strs {N : Hp} {kvs : List (Key × V)} {ld : DD} (h : Held N kvs ld) : kvs.map (fun kv => kV kv.1) = (keysD ld).map V.str := by
  have e := held_keys h
  have e2 : kvs.map (fun kv => kV kv.1) = (kvs.map (·.1)).map kV := by rw [List.map_map]; rfl
  rw [e2, e, List.map_map]
  rfl
theorem t_rows {K : PySem.W.Frag} {C : Addr} {D : Ends} {H : Hp} {sc st wl cl p hd h : Addr} {n : Nat} {kvs kvs2 : List (Key × V)} {ld : DD} {N M : Hp} {r3 r4 r7 r8 r9 r10 r11 r12 r13 r14 : Option V}
    (I : TI C st cl wl p hd h kvs kvs2 ld ld N M H n) (hl : ld.length ≤ 20)
    (k : ∀ (R : Addr) (ys : List Str) (H' : Hp), Same H H' → H' R = some (.lst (ys.map V.str)) → H R = none → ys.Perm (keysD ld) → sortedS ys = true → D.nx [some (.ref sc), some (.ref st), some (.ref wl), r3, r4, some (.ref p), some (.ref h), r7, r8, r9, r10, r11, some (.ref R), r13, r14] H') :
    tRows K D [some (.ref sc), some (.ref st), some (.ref wl), r3, r4, some (.ref p), some (.ref h), r7, r8, r9, r10, r11, r12, r13, r14] H := by
  refine ⟨_, rfl, h, kvs2, rfl, I.d, fun L hL => ?_⟩
  rw [held_strs I.h2]
  refine ⟨L, keysD ld, rfl, SqL.of upd_same, (by unfold keysD; rw [List.length_map]; omega), fun ys R hp hs hR => ?_⟩
  exact k R ys _ (same_upd2 (same_upd hL) hR) upd_same (Same.free (same_upd hL) hR) hp hs
theorem ent_ok {ld : DD} (mn : ∀ q ∈ ld, q.2 ∈ menu) (hl : ld.length ≤ 60) {ys : List Str} (hp : ys.Perm (keysD ld)) : PyData.depth (.list (entD ld ys)) ≤ 6 ∧ small (.list (entD ld ys)) = true := by
  have hlen : ys.length ≤ 60 := by
    rw [hp.length_eq]
    unfold keysD
    rw [List.length_map]
    exact hl
  have key : ∀ zs : List Str, (∀ k ∈ zs, k ∈ keysD ld) → PyData.depthAll (entD ld zs) ≤ 5 ∧ smallAll (entD ld zs) = true := by
    intro zs
    induction zs with
    | nil => exact fun _ => ⟨Nat.zero_le _, rfl⟩
    | cons z zs ih =>
      intro hz
      obtain ⟨i1, i2⟩ := ih fun k hk => hz k (List.mem_cons_of_mem _ hk)
      have hm := menu_eqv (mn _ (mem_val (hz z List.mem_cons_self)).1)
      have d3 : PyData.depth (val ld z) ≤ 3 := hm.2.2.2.2.2.1
      have sm : small (val ld z) = true := hm.2.2.2.2.2.2.1
      constructor
      · show max (max 0 (max (PyData.depth (val ld z)) 0) + 1) (PyData.depthAll (entD ld zs)) ≤ 5
        omega
      · show ((decide (2 ≤ 1000) && (true && (small (val ld z) && true))) && smallAll (entD ld zs)) = true
        rw [sm, i2]
        rfl
  obtain ⟨k1, k2⟩ := key ys fun k hk => hp.mem_iff.mp hk
  constructor
  · show PyData.depthAll (entD ld ys) + 1 ≤ 6
    omega
  · show (decide ((entD ld ys).length ≤ 1000) && smallAll (entD ld ys)) = true
    rw [k2, Bool.and_true]
    apply decide_eq_true
    unfold entD
    rw [List.length_map]
    omega
theorem t_due {K : PySem.W.Frag} {C : Addr} {D : Ends} {H : Hp} {sc st wl cl p hd h R : Addr} {n : Nat} {kvs kvs2 : List (Key × V)} {ld : DD} {N M : Hp} {ys : List Str} {r3 r4 r7 r8 r9 r10 r11 r13 r14 : Option V}
    (I : TI C st cl wl p hd h kvs kvs2 ld ld N M H n) (hl : ld.length ≤ 20) (hR : H R = some (.lst (ys.map V.str))) (hp : ys.Perm (keysD ld))
    (k : ∀ (U : Addr) (N3 H' : Hp), Same H H' → Fresh H H' N3 → Dt N3 (.ref U) (.list (entD ld ys)) → D.nx [some (.ref sc), some (.ref st), some (.ref wl), r3, r4, some (.ref p), some (.ref h), r7, r8, r9, r10, some (.ref U), some (.ref R), r13, r14] H') :
    tDue2 K D [some (.ref sc), some (.ref st), some (.ref wl), r3, r4, some (.ref p), some (.ref h), r7, r8, r9, r10, r11, some (.ref R), r13, r14] H := by
  have hlen : (ys.map V.str).length = (entD ld ys).length := by
    unfold entD
    rw [List.length_map, List.length_map]
  have hyl : ys.length = ld.length := by
    rw [hp.length_eq]
    unfold keysD
    rw [List.length_map]
  refine ⟨_, rfl, R, rfl, ⟨_, SqL.of hR⟩, fun D0 hD => ?_⟩
  refine lc_list (K := K) (a := R) (xs := ys.map V.str) (CopI H D0 (entD ld ys)) (copI0 hD) (fun i H' _ h => SqL.of (h.1 _ _ hR)) (fun i x H' hx c => ?_) (fun H' c => ?_)
  · obtain ⟨kk, hk, rfl⟩ := str_at hx
    have hil : i < ys.length := (List.getElem?_eq_some_iff.mp hk).1
    have hkl : kk ∈ keysD ld := hp.mem_iff.mp (List.mem_of_getElem? hk)
    obtain ⟨v, g1, g2⟩ := dg_at I.d (held_mono I.s2 I.h2) c.1 hkl
    have hm := menu_eqv (I.mn _ (mem_val hkl).1)
    have hdx : (entD ld ys)[i]? = some (.tuple [.str kk, val ld kk]) := by
      unfold entD
      rw [List.getElem?_map, hk]
      rfl
    refine ⟨rfl, _, rfl, _, rfl, _, rfl, h, v, rfl, g1, v, val ld kk, rfl, Dt.mono c.1 _ _ g2, Nat.le_trans hm.2.2.2.2.2.1 (by decide), hm.2.2.2.2.2.2.1, fun v' N H2 e2 F2 t2 => ⟨(by show 2 ≤ sizeLine; decide), fun U hU => ?_⟩⟩
    obtain ⟨F3, nU⟩ := fresh_in (o := .tup [.str kk, v']) e2 F2 hU
    obtain ⟨acc, N0, a1, a2, a3⟩ := copI_step hD hdx c (same_upd2 e2 hU) F3 (.tup upd_same (.cons (.str kk) (.cons (Dt.mono (same_upd nU) _ _ t2) .nil)))
    exact ⟨acc, a1, sz_lt1 a2 (by omega), a3⟩
  · obtain ⟨s2, zs, N, hy, nD, F1, t1⟩ := copI_end hlen c
    exact k D0 (upd N D0 (.lst zs)) H' s2 (F1.upd hD hy) (.lst upd_same (DtAll.mono (same_upd nD) _ _ t1))
section
variable {C : Addr} {H : Hp} {st cl wl p hd h : Addr} {n : Nat} {kvs kvs2 : List (Key × V)} {ld : DD} {N M : Hp} {σ : L2.St} {Q : VK}
/-- names.entries() -/
theorem ent_any (h5 : σ[5]? = some (some (.ref p))) (na : NamesAt C H p hd kvs) (hH : Held H kvs ld) (mn : ∀ q ∈ ld, q.2 ∈ menu) (hl : ld.length ≤ 60)
    (k : ∀ (zs : List Str) (L : Addr) (N2 H' : Hp), zs.Perm (keysD ld) → sortedS zs = true → Same H H' → Fresh H H' N2 → Dt N2 (.ref L) (.list (entD ld zs)) → Q (.ref L) H') : tEnt C σ H Q := by
  obtain ⟨dx, na1, na2⟩ := id na
  exact ⟨_, h5, p, dx, _, rfl, na1, rfl, p, hd, kvs, ld, rfl, na, hH, hl, fun q hq => okD_menu (mn q hq), k⟩
/-- the rows told again are the due ones -/
theorem sm_any {R : Bool → Hp → Prop} {U : Addr} {ys : List Str} (h5 : σ[5]? = some (some (.ref p))) (h11 : σ[11]? = some (some (.ref U))) (na : NamesAt C H p hd kvs) (hH : Held H kvs ld) (mn : ∀ q ∈ ld, q.2 ∈ menu) (hl : ld.length ≤ 60)
    (hp : ys.Perm (keysD ld)) (hs : sortedS ys = true) (t : Dt H (.ref U) (.list (entD ld ys))) (k : ∀ H', Same H H' → R false H') : tSm C σ H R := by
  refine ent_any h5 na hH mn hl fun zs L N2 H' hp2 hs2 e F t2 => ?_
  have ez : zs = ys := sorted_one (hp2.trans hp.symm) hs2 hs
  subst ez
  obtain ⟨d1, d2⟩ := ent_ok mn hl hp2
  exact ⟨_, h11, .ref L, .ref U, _, rfl, Dt.mono F.sub _ _ t2, Dt.mono e _ _ t, d1, d2, fun H'' e2 => ⟨_, rfl, k _ (e.trans e2)⟩⟩
end
theorem t_app {K : PySem.W.Frag} {C : Addr} {D : Ends} {H : Hp} {st cl wl p hd h : Addr} {n : Nat} {kvs kvs2 : List (Key × V)} {ld : DD} {N M : Hp} {σ : L2.St} (h5 : σ[5]? = some (some (.ref p)))
    (I : TI C st cl wl p hd h kvs kvs2 ld ld N M H n) (hl : ld.length ≤ 20) (k : ∀ H', Same H H' → D.nx σ H') : tApp K C D σ H := by
  refine ent_any h5 I.na (held_mono I.s1 I.h1) I.mn (by omega) fun zs L N2 H' hp2 hs2 e F t2 => ?_
  cases t2 with
  | lst tL tt =>
    have hL := F.sub _ _ tL
    have nL : H L = none := F.new _ _ tL
    refine ⟨.inl ⟨rfl, _, SqL.of hL⟩, (by show 2 ≤ sizeLine; decide), fun U hU => ⟨L, _, _, rfl, rfl, same_upd hU _ _ hL, ?_, k _ (same_mut (e.trans (same_upd hU)) nL)⟩⟩
    have := tt.len
    rw [this, PySem.sizeLine_eq]
    unfold entD
    rw [List.length_map, hp2.length_eq]
    unfold keysD
    rw [List.length_map]
    omega
theorem t_if1 {C : Addr} {D : Ends} {H : Hp} {st cl wl p hd h R U : Addr} {n : Nat} {kvs kvs2 : List (Key × V)} {ld : DD} {ys : List Str} {N M : Hp} {σ : L2.St} (h5 : σ[5]? = some (some (.ref p))) (h6 : σ[6]? = some (some (.ref h))) (h11 : σ[11]? = some (some (.ref U))) (h12 : σ[12]? = some (some (.ref R)))
    (I : TI C st cl wl p hd h kvs kvs2 ld ld N M H n) (hl : ld.length ≤ 20) (hR : H R = some (.lst (ys.map V.str))) (hp : ys.Perm (keysD ld)) (hs : sortedS ys = true) (t : Dt H (.ref U) (.list (entD ld ys)))
    (k : ∀ H', Same H H' → D.nx σ H') : tIf1 C D σ H := by
  unfold tIf1 tIfS tOr
  refine sm_any h5 h11 I.na (held_mono I.s1 I.h1) I.mn (by omega) hp hs t fun H1 e1 => iteF ?_
  have J := I.keep e1
  exact ⟨_, h5, _, h6, _, h12, p, hd, h, R, kvs, kvs2, ld, ys, rfl, J.na, held_mono J.s1 J.h1, J.d, held_mono J.s2 J.h2, e1 _ _ hR, hp, J.nd, (by omega), J.mn, J.wd, fun H2 e2 => ⟨_, rfl, iteF (k _ (e1.trans e2))⟩⟩
theorem t_if2 {C : Addr} {D : Ends} {H : Hp} {p hd U : Addr} {kvs : List (Key × V)} {ld : DD} {ys : List Str} {σ : L2.St} (h5 : σ[5]? = some (some (.ref p))) (h11 : σ[11]? = some (some (.ref U)))
    (na : NamesAt C H p hd kvs) (hH : Held H kvs ld) (mn : ∀ q ∈ ld, q.2 ∈ menu) (hl : ld.length ≤ 20) (hp : ys.Perm (keysD ld)) (hs : sortedS ys = true) (t : Dt H (.ref U) (.list (entD ld ys)))
    (k : ∀ H', Same H H' → D.nx σ H') : tIf2 C D σ H := by
  unfold tIf2 tIfS
  refine sm_any h5 h11 na hH mn (by omega) hp hs t fun H1 e1 => iteF (k _ e1)
end K81

namespace K81
open PySem L2 PyProof.Rows
def tSpoil (K : PySem.W.Frag) (C CN : Addr) : TS := tFor (iList K (tVar 12)) (gName 8) (tFor (iTup K (tTup (tCons (tMeth C "get" (spGet C CN) [] E0 (tVar 5) (tCons (tVar 8) tNil)) (tCons (tDGet (tVar 6) (tVar 8)) (tCons (tDGet (tCB (rDictP K) (tCons (tEnt C) tNil)) (tVar 8)) tNil))))) (gName 13) (tDrop (tCall spSpoil [] E0 (tCons (tVar 13) tNil))))
theorem SpAt.up {B : Hp} {m : Nat} {H : Hp} {v : V} {U : Addr} {o : HO} (hU : H U = none) (s : SpAt B m H v) : SpAt (upd B U o) m (upd H U o) v := by
  have go : ∀ {a : Addr} {u : HO}, H a = some u → B a = none → (upd B U o) a = none := fun {a u} e n => by rw [upd_ne (ne_of_none e hU)]; exact n
  cases s with
  | flat t h h1 h2 => exact .flat t h h1 h2
  | lst h1 h2 h3 na nb ne l1 l2 => exact .lst (same_upd hU _ _ h1) h2 (same_upd hU _ _ h3) (go h1 na) (go h3 nb) ne l1 l2
  | emp h => exact .emp (same_upd hU _ _ h)
  | tup h1 h2 nb hy l1 => exact .tup (same_upd hU _ _ h1) (same_upd hU _ _ h2) (go h2 nb) hy l1
theorem SpAt.less {B B' : Hp} {m : Nat} {H : Hp} {v : V} (e : Same B B') (s : SpAt B' m H v) : SpAt B m H v := by
  have go : ∀ {a : Addr}, B' a = none → B a = none := fun {a} n => Same.free e n
  cases s with
  | flat t h h1 h2 => exact .flat t h h1 h2
  | lst h1 h2 h3 na nb ne l1 l2 => exact .lst h1 h2 h3 (go na) (go nb) ne l1 l2
  | emp h => exact .emp h
  | tup h1 h2 nb hy l1 => exact .tup h1 h2 (go nb) hy l1
theorem ent_split {N : Hp} {ld : DD} : ∀ {zs : List Str} {xs : List V}, DtAll N xs (entD ld zs) → ∃ (ts : List Addr) (kv : List (Key × V)), xs = ts.map V.ref ∧ PySem.Paired (fun (t : Addr) (q : Key × V) => N t = some (.tup [kV q.1, q.2])) ts kv ∧ Held N kv (zs.map fun k => (k, val ld k))
  | [], _, h => by
    cases h
    exact ⟨[], [], rfl, .nil, .nil⟩
  | z :: zs, _, h => by
    cases h with
    | cons h1 h2 =>
      obtain ⟨ts, kv, e, p1, p2⟩ := ent_split h2
      cases h1 with
      | tup t1 q =>
        cases q with
        | cons q1 q =>
          cases q1
          cases q with
          | cons q2 q =>
            cases q
            exact ⟨_ :: ts, (Sum.inr z, _) :: kv, by rw [e]; rfl, .cons t1 p1, .cons ⟨rfl, q2⟩ p2⟩
theorem t_spoil {K : PySem.W.Frag} {C CN : Addr} {D : Ends} {B M H0 : Hp} {sc st wl p hd h R : Addr} {kvs kvs2 : List (Key × V)} {ld : DD} {ys : List Str} {r3 r4 r7 r8 r9 r10 r11 r13 r14 : Option V}
    (na : NamesAt C B p hd kvs) (h1 : Held B kvs ld) (hh : B h = some (.dK kvs2)) (h2 : Held M kvs2 ld) (sM : Same M H0) (nM : ∀ b o, M b = some o → B b = none) (hR : B R = some (.lst (ys.map V.str))) (hp : ys.Perm (keysD ld)) (nd : (keysD ld).Nodup) (mn : ∀ q ∈ ld, q.2 ∈ menu) (hl : ld.length ≤ 20) (sB : Same B H0)
    (k : ∀ (H' : Hp) (r8 r13 : Option V), Same B H' → D.nx [some (.ref sc), some (.ref st), some (.ref wl), r3, r4, some (.ref p), some (.ref h), r7, r8, r9, r10, r11, some (.ref R), r13, r14] H') :
    tSpoil K C CN D [some (.ref sc), some (.ref st), some (.ref wl), r3, r4, some (.ref p), some (.ref h), r7, r8, r9, r10, r11, some (.ref R), r13, r14] H0 := by
  have hyl : ys.length ≤ 20 := by
    rw [hp.length_eq]
    unfold keysD
    rw [List.length_map]
    exact hl
  have okA : ∀ q ∈ ld, okD q.2 := fun q hq => okD_menu (mn q hq)
  refine ⟨_, rfl, R, rfl, ⟨_, SqL.of (sB _ _ hR)⟩, ?_⟩
  refine for_list (K := K) (a := R) (xs := ys.map V.str) (fun i σ H' => ∃ (r8 r13 : Option V), σ = [some (.ref sc), some (.ref st), some (.ref wl), r3, r4, some (.ref p), some (.ref h), r7, r8, r9, r10, r11, some (.ref R), r13, r14] ∧ Same B H' ∧ ∀ (kk : Str) (v : V), valV kvs2 (Sum.inr kk : Key) = some v → SpAt B (6 * i) H' v)
    ⟨r8, r13, rfl, sB, fun kk v hv => ?_⟩ (fun i σ H' _ ⟨_, _, _, s, _⟩ => SqL.of (s _ _ hR)) ?_ ?_
  · rcases held_look kk h2 with ⟨_, q2⟩ | ⟨d, v', q1, q2, q3⟩
    · rw [q2] at hv
      cases hv
    · rw [q2] at hv
      cases hv
      exact dt_sp q3 (mn _ (look_mem q1)) sM nM
  · rintro i x σ H1 hx ⟨r8, r13, rfl, s1, sp1⟩
    obtain ⟨kk, hk, rfl⟩ := str_at hx
    have hi : i < ys.length := (List.getElem?_eq_some_iff.mp hk).1
    have hkl : kk ∈ keysD ld := hp.mem_iff.mp (List.mem_of_getElem? hk)
    have hvm := mn _ (mem_val hkl).1
    have nN : ∀ {H N : Hp}, Same B H → (∀ b o, N b = some o → H b = none) → ∀ b o, N b = some o → B b = none := fun {H N} s f b o e => Same.free s (f b o e)
    obtain ⟨dx, na1, na2⟩ := id (namesAt_mono s1 na)
    -- get
    refine ⟨_, rfl, p, dx, _, rfl, na1, rfl, _, rfl, p, hd, kvs, ld, kk, rfl, namesAt_mono s1 na, held_mono s1 h1, okA, (fun z => ?_), fun dd hdd v1 N1 H2 e1 F1 t1 => ?_⟩
    · rw [(mem_val hkl).2] at z
      cases z
    rw [(mem_val hkl).2] at hdd
    cases hdd
    have s2 := s1.trans e1
    have p1 : SpAt B 0 H2 v1 := dt_sp t1 hvm F1.sub (nN s1 F1.new)
    -- held[name]
    obtain ⟨v2, g2, g3⟩ : ∃ v, DGet H2 h (.str kk) (some v) ∧ valV kvs2 (Sum.inr kk : Key) = some v := by
      rcases held_look kk h2 with ⟨q1, q2⟩ | ⟨d, v', q1, q2, q3⟩
      · rw [(mem_val hkl).2] at q1
        cases q1
      · have g := DGet.k (k := (Sum.inr kk : Key)) (s2 _ _ hh)
        rw [q2] at g
        exact ⟨v', g, q2⟩
    refine ⟨_, rfl, _, rfl, h, v2, rfl, g2, ?_⟩
    -- dict(names.entries())[name]
    refine ent_any rfl (namesAt_mono s2 na) (held_mono s2 h1) mn (by omega) fun zs L N2 H3 hp2 hs2 e2 F2 t2 => ?_
    have s3 := s2.trans e2
    cases t2 with
    | lst tL tt =>
      obtain ⟨ts, kv, rfl, q1, q2⟩ := ent_split tt
      refine ⟨L, ts, kv, rfl, SqL.of (F2.sub _ _ tL), paired_map (fun t q z => SqT.of (F2.sub _ _ z)) q1, fun q hq => ?_⟩
      have eq := same_upd (o := .dK (mergeK [] kv)) hq
      have hq1 := upd_same (H := H3) (a := q) (o := .dK (mergeK [] kv))
      have hm : Held N2 (mergeK [] kv) (mergeD [] (zs.map fun k => (k, val ld k))) := held_merge q2 .nil
      have em : mergeD [] (zs.map fun k => (k, val ld k)) = zs.map fun k => (k, val ld k) := by
        rw [merge_app]
        · rfl
        · show (keysD (zs.map fun k => (k, val ld k))).Nodup
          rw [keys_map]
          exact hp2.symm.nodup nd
      rw [em] at hm
      have lk : lookD (zs.map fun k => (k, val ld k)) kk = some (val ld kk) := look_map (hp2.mem_iff.mpr hkl)
      obtain ⟨v3, g4, g5⟩ : ∃ v, DGet (upd H3 q (.dK (mergeK [] kv))) q (.str kk) (some v) ∧ Dt N2 v (val ld kk) := by
        rcases held_look kk hm with ⟨q1, q2⟩ | ⟨d, v', q1, q2, q3⟩
        · rw [lk] at q1
          cases q1
        · rw [lk] at q1
          cases q1
          have g := DGet.k (k := (Sum.inr kk : Key)) hq1
          rw [q2] at g
          exact ⟨v', g, q3⟩
      refine ⟨_, rfl, q, v3, rfl, g4, (by show 3 ≤ sizeLine; decide), fun U hU => ?_⟩
      have p3 : SpAt B 0 H3 v3 := dt_sp g5 hvm F2.sub (nN s2 F2.new)
      have s4 : Same B (upd H3 q (.dK (mergeK [] kv))) := s3.trans eq
      have sp4 : ∀ (kk : Str) (v : V), valV kvs2 (Sum.inr kk : Key) = some v → SpAt B (6 * i) (upd H3 q (.dK (mergeK [] kv))) v := fun kk v hv => (sp1 kk v hv).same ((e1.trans e2).trans eq)
      have p14 := p1.same (e2.trans eq)
      have p34 := p3.same eq
      generalize upd H3 q (.dK (mergeK [] kv)) = H4 at hU s4 sp4 p14 p34
      have bU : B U = none := Same.free s4 hU
      have eB : Same B (upd B U (.tup [v1, v2, v3])) := same_upd bU
      have hUt : (upd B U (.tup [v1, v2, v3])) U = some (.tup [v1, v2, v3]) := upd_same
      refine ⟨U, rfl, ⟨_, SqT.of upd_same⟩, ?_⟩
      refine for_tup (K := K) (a := U) (xs := [v1, v2, v3]) (fun j σ H' => ∃ (r13 : Option V), σ = [some (.ref sc), some (.ref st), some (.ref wl), r3, r4, some (.ref p), some (.ref h), r7, some (.str kk), r9, r10, r11, some (.ref R), r13, r14] ∧ Same (upd B U (.tup [v1, v2, v3])) H' ∧ ∀ u, SpAt (upd B U (.tup [v1, v2, v3])) (6 * i) (upd H4 U (.tup [v1, v2, v3])) u → SpAt (upd B U (.tup [v1, v2, v3])) (6 * i + 2 * j) H' u)
        ⟨r13, rfl, fun b o e => ?_, fun u hu => hu⟩ (fun j σ H' _ ⟨_, _, s, _⟩ => SqT.of (s _ _ hUt)) ?_ ?_
      · by_cases hb : b = U
        · subst hb
          rw [upd_same] at e ⊢
          exact e
        · rw [upd_ne hb] at e ⊢
          exact s4 _ _ e
      · rintro j x σ H5 hx ⟨r13, rfl, s5, f5⟩
        have hj : j < 3 := (List.getElem?_eq_some_iff.mp hx).1
        have hx4 : SpAt B (6 * i) H4 x := by
          have hm := List.mem_of_getElem? hx
          rcases List.mem_cons.mp hm with rfl | hm
          · exact p14.more (Nat.zero_le _)
          rcases List.mem_cons.mp hm with rfl | hm
          · exact sp4 kk _ g3
          rcases List.mem_cons.mp hm with rfl | hm
          · exact p34.more (Nat.zero_le _)
          · cases hm
        have hx5 := f5 x (hx4.up hU)
        refine ⟨_, rfl, x, upd B U (.tup [v1, v2, v3]), 6 * i + 2 * j, rfl, s5, hx5, by omega, fun H6 s6 f6 => ?_⟩
        exact ⟨_, rfl, s6, fun u hu => (f6 u (f5 u hu)).more (by omega)⟩
      · rintro σ H5 ⟨r13, rfl, s5, f5⟩
        exact ⟨_, _, rfl, eB.trans s5, fun k' v hv => ((f5 v ((sp4 k' v hv).up hU)).less eB).more (by show 6 * i + 2 * 3 ≤ 6 * (i + 1); omega)⟩
  · rintro σ H1 ⟨r8, r13, rfl, s1, _⟩
    exact k H1 r8 r13 s1
end K81

namespace K81
open PySem L2 PyProof.Rows
def tTurn (K : PySem.W.Frag) (C CN a0 : Addr) : TS := tMid tPairs (tMid (tNames K C) (tMid (tIf0 K C a0) (tMid (tAgain C) (tMid (tRows K) (tMid (tDue2 K) (tMid (tApp K C) (tMid (tIf1 C) (tMid (tSpoil K C CN) (tIf2 C)))))))))
def tLaw (K : PySem.W.Frag) (C CN a0 : Addr) : TS := tMid (tAsg (tCall (spStart K) [] E0 (tCons (tVar 0) tNil)) (gName 1)) (tMid (tAsg (tLst (tCons (tC (.str "a")) (tCons (tC (.str "b")) (tCons (tC (.str "ab")) (tCons (tC (.str "Z")) (tCons (tC (.str "a b")) (tCons (tC (.str "")) (tCons (tC (.str "_x")) (tCons (tC (.str "0")) tNil))))))))) (gName 2))
  (tSeq (tFor (iRng1 (tCons (tC (.int 5)) tNil)) (gName 3) (tTurn K C CN a0)) (tRet (tC (.bl true)))))
def mns (M H : Hp) : Hp := fun b => match M b with
  | some _ => none
  | none => H b
theorem mns_same {M H : Hp} : Same (mns M H) H := fun b o e => by
  unfold mns at e
  cases z : M b with
  | some u =>
    rw [z] at e
    cases e
  | none =>
    rw [z] at e
    exact e
theorem mns_none {M H : Hp} {b : Addr} {o : HO} (e : M b = some o) : mns M H b = none := by
  unfold mns
  rw [e]
theorem mns_at {M H : Hp} {b : Addr} {o : HO} (n : M b = none) (e : H b = some o) : mns M H b = some o := by
  unfold mns
  rw [n]
  exact e
theorem t_turn {P : Program} {K : PySem.W.Frag} {mg : Str → Option Value} {C CN fI a0 : Addr} (T : TxtN P K mg C CN fI) (hA : ∀ H : Hp, SqT K H a0 []) {D : Ends} {H : Hp} {sc st wl cl : Addr} {n : Nat} {r3 r4 r5 r6 r7 r8 r9 r10 r11 r12 r13 r14 : Option V} (S : Strm H st cl n) (hw : H wl = some (.lst (words.map V.str))) (hn : n ≤ 300)
    (k : ∀ (H' : Hp) (m : Nat) (r4 r5 r6 r7 r8 r9 r10 r11 r12 r13 r14 : Option V), Strm H' st cl m → m ≤ n + 60 → H' wl = some (.lst (words.map V.str)) → D.nx [some (.ref sc), some (.ref st), some (.ref wl), r3, r4, r5, r6, r7, r8, r9, r10, r11, r12, r13, r14] H') :
    tTurn K C CN a0 D [some (.ref sc), some (.ref st), some (.ref wl), r3, r4, r5, r6, r7, r8, r9, r10, r11, r12, r13, r14] H := by
  unfold tTurn
  -- pairs
  refine ⟨fun σ' H' => ∃ (L : Addr) (xs : List V) (nds : DD) (M : Hp) (m : Nat), σ' = [some (.ref sc), some (.ref st), some (.ref wl), r3, some (.ref L), r5, r6, r7, r8, r9, r10, r11, r12, r13, r14] ∧ Strm H' st cl m ∧ m ≤ n + 17 ∧ H' wl = some (.lst (words.map V.str)) ∧ H' L = some (.lst xs) ∧ Same M H' ∧ PrM M H' xs nds ∧ nds.length ≤ 8 ∧ okP nds ∧ (M st = none ∧ M cl = none ∧ M wl = none ∧ M L = none) ∧ (L ≠ st ∧ L ≠ cl), ?_, ?_⟩
  · refine t_pairs S hw (by omega) fun L xs nds M H' m S1 hm w1 hL F1 nL p1 l1 o1 nLs => ⟨L, xs, nds, M, m, rfl, S1, hm, w1, hL, F1.sub, p1, l1, o1, ⟨?_, ?_, ?_, nL⟩, nLs⟩
    · cases z : M st with
      | none => rfl
      | some u =>
        obtain ⟨o, ho⟩ := S.st
        rw [F1.new _ _ z] at ho
        cases ho
    · cases z : M cl with
      | none => rfl
      | some u =>
        obtain ⟨o, ho⟩ := S.cl
        rw [F1.new _ _ z] at ho
        cases ho
    · cases z : M wl with
      | none => rfl
      | some u =>
        rw [F1.new _ _ z] at hw
        cases hw
  rintro _ H1 ⟨L, xs, nds, M, m, rfl, S1, hm, w1, hL, sM, p1, l1, o1, nM, nL⟩
  -- names, held
  refine ⟨fun σ' H' => ∃ (p hd h : Addr) (kvs kvs2 : List (Key × V)) (N : Hp), σ' = [some (.ref sc), some (.ref st), some (.ref wl), r3, some (.ref L), some (.ref p), some (.ref h), r7, r8, r9, r10, r11, r12, r13, r14] ∧ TI C st cl wl p hd h kvs kvs2 (mergeD [] nds) (mergeD [] nds) N M H' (m + 1) ∧ H' L = some (.lst xs) ∧ PrM M H' xs nds, ?_, ?_⟩
  · exact t_names T.cl T.nH S1 w1 (by omega) hL sM p1 l1 o1 nM nL fun p hd h kvs kvs2 N H' I hL' p' => ⟨p, hd, h, kvs, kvs2, N, rfl, I, hL', p'⟩
  rintro _ H2 ⟨p, hd, h, kvs, kvs2, N, rfl, I, hL2, p2⟩
  -- no pairs
  refine ⟨fun σ' H' => σ' = [some (.ref sc), some (.ref st), some (.ref wl), r3, some (.ref L), some (.ref p), some (.ref h), r7, r8, r9, r10, r11, r12, r13, r14] ∧ TI C st cl wl p hd h kvs kvs2 (mergeD [] nds) (mergeD [] nds) N M H' (m + 1), ?_, ?_⟩
  · exact t_if0 T hA I hL2 p2 o1 fun H' e => ⟨rfl, I.keep e⟩
  rintro _ H3 ⟨rfl, I3⟩
  have ll : (mergeD [] nds).length ≤ 8 := Nat.le_trans len_merge (by show 0 + nds.length ≤ 8; omega)
  generalize mergeD [] nds = ld at I3 ll
  clear I p2 hL2
  -- again
  refine ⟨fun σ' H' => ∃ (kvs kvs2 : List (Key × V)) (ld : DD) (N M : Hp) (m' : Nat) (r7 r8 r9 r10 r11 : Option V), σ' = [some (.ref sc), some (.ref st), some (.ref wl), r3, some (.ref L), some (.ref p), some (.ref h), r7, r8, r9, r10, r11, r12, r13, r14] ∧ TI C st cl wl p hd h kvs kvs2 ld ld N M H' m' ∧ m' ≤ n + 60 ∧ ld.length ≤ 20, ?_, ?_⟩
  · exact t_again (K := K) I3 (by omega) ll fun kvs kvs2 ld N M H' m' r7 r8 r9 r10 r11 I' hm' hl' => ⟨kvs, kvs2, ld, N, M, m', r7, r8, r9, r10, r11, rfl, I', by omega, hl'⟩
  clear I3 ll sM p1 nM
  rintro _ H4 ⟨kvs, kvs2, ld, N, M, m', r7, r8, r9, r10, r11, rfl, I, hm', hl⟩
  -- rows
  refine ⟨fun σ' H' => ∃ (R : Addr) (ys : List Str), σ' = [some (.ref sc), some (.ref st), some (.ref wl), r3, some (.ref L), some (.ref p), some (.ref h), r7, r8, r9, r10, r11, some (.ref R), r13, r14] ∧ TI C st cl wl p hd h kvs kvs2 ld ld N M H' m' ∧ H' R = some (.lst (ys.map V.str)) ∧ M R = none ∧ ys.Perm (keysD ld) ∧ sortedS ys = true, ?_, ?_⟩
  · refine t_rows I hl fun R ys H' e hR nR hp hs => ⟨R, ys, rfl, I.keep e, hR, ?_, hp, hs⟩
    cases z : M R with
    | none => rfl
    | some u =>
      rw [I.s2 _ _ z] at nR
      cases nR
  rintro _ H5 ⟨R, ys, rfl, I5, hR, nR, hp, hs⟩
  -- due
  refine ⟨fun σ' H' => ∃ (U : Addr) (N3 : Hp), σ' = [some (.ref sc), some (.ref st), some (.ref wl), r3, some (.ref L), some (.ref p), some (.ref h), r7, r8, r9, r10, some (.ref U), some (.ref R), r13, r14] ∧ TI C st cl wl p hd h kvs kvs2 ld ld N M H' m' ∧ H' R = some (.lst (ys.map V.str)) ∧ Same N3 H' ∧ (∀ b o, N3 b = some o → M b = none) ∧ Dt N3 (.ref U) (.list (entD ld ys)), ?_, ?_⟩
  · refine t_due I5 hl hR hp fun U N3 H' e F t => ⟨U, N3, rfl, I5.keep e, e _ _ hR, F.sub, fun b o z => ?_, t⟩
    cases y : M b with
    | none => rfl
    | some u =>
      have := F.new _ _ z
      rw [I5.s2 _ _ y] at this
      cases this
  rintro _ H6 ⟨U, N3, rfl, I6, hR6, s3, ap3, tU⟩
  -- append
  refine ⟨fun σ' H' => σ' = [some (.ref sc), some (.ref st), some (.ref wl), r3, some (.ref L), some (.ref p), some (.ref h), r7, r8, r9, r10, some (.ref U), some (.ref R), r13, r14] ∧ Same H6 H', ?_, ?_⟩
  · exact t_app rfl I6 hl fun H' e => ⟨rfl, e⟩
  rintro _ H7 ⟨rfl, e7⟩
  have I7 := I6.keep e7
  have hR7 := e7 _ _ hR6
  have s37 := s3.trans e7
  -- the same, equal
  refine ⟨fun σ' H' => σ' = [some (.ref sc), some (.ref st), some (.ref wl), r3, some (.ref L), some (.ref p), some (.ref h), r7, r8, r9, r10, some (.ref U), some (.ref R), r13, r14] ∧ Same H7 H', ?_, ?_⟩
  · exact t_if1 rfl rfl rfl rfl I7 hl hR7 hp hs (Dt.mono s37 _ _ tU) fun H' e => ⟨rfl, e⟩
  rintro _ H8 ⟨rfl, e8⟩
  have I8 := I7.keep e8
  have hR8 := e8 _ _ hR7
  have s38 := s37.trans e8
  -- spoil
  have bN : Same N (mns M H8) := fun b o e => mns_at (I8.ap b o e) (I8.s1 b o e)
  have bU : Same N3 (mns M H8) := fun b o e => mns_at (ap3 b o e) (s38 b o e)
  have bna : NamesAt C (mns M H8) p hd kvs := by
    obtain ⟨dx, a1, a2⟩ := I8.na
    exact ⟨dx, mns_at I8.o2.2.2.2.2.2 a1, mns_at I8.o2.2.2.1 a2⟩
  have bS : Strm (mns M H8) st cl m' := by
    obtain ⟨c, a, ns, g1, g2, g3⟩ := I8.S.ex
    exact ⟨c, a, ns, mns_at I8.o2.1 g1, mns_at I8.o2.2.1 g2, g3⟩
  have bw : mns M H8 wl = some (.lst (words.map V.str)) := mns_at I8.o2.2.2.2.2.1 I8.w
  have bh := mns_at I8.o2.2.2.2.1 I8.d
  have bR := mns_at nR hR8
  refine ⟨fun σ' H' => ∃ (r8 r13 : Option V), σ' = [some (.ref sc), some (.ref st), some (.ref wl), r3, some (.ref L), some (.ref p), some (.ref h), r7, r8, r9, r10, some (.ref U), some (.ref R), r13, r14] ∧ Same (mns M H8) H', ?_, ?_⟩
  · exact t_spoil bna (held_mono bN I8.h1) bh I8.h2 I8.s2 (fun b o e => mns_none e) bR hp I8.nd I8.mn hl mns_same fun H' r8 r13 e => ⟨r8, r13, rfl, e⟩
  rintro _ H9 ⟨r8, r13, rfl, e9⟩
  exact t_if2 rfl rfl (namesAt_mono e9 bna) (held_mono (bN.trans e9) I8.h1) I8.mn hl hp hs (Dt.mono (bU.trans e9) _ _ tU) fun H' e => k H' m' _ _ _ _ _ _ _ _ _ _ _ (bS.keep (e9.trans e)) hm' (e _ _ (e9 _ _ bw))
theorem t_law {P : Program} {K : PySem.W.Frag} {mg : Str → Option Value} {C CN fI a0 : Addr} (T : TxtN P K mg C CN fI) (hA : ∀ H : Hp, SqT K H a0 []) {D : Ends} {H : Hp} {a : Addr} {ns : List Int} (hS : SqL K H a (ns.map V.int)) (k : ∀ H', D.rt (.bl true) H') :
    tLaw K C CN a0 D [some (.ref a), none, none, none, none, none, none, none, none, none, none, none, none, none, none] H := by
  refine ⟨fun σ' H' => ∃ st cl : Addr, σ' = [some (.ref a), some (.ref st), none, none, none, none, none, none, none, none, none, none, none, none, none] ∧ Strm H' st cl 0, ?_, ?_⟩
  · exact ⟨_, rfl, a, ns, rfl, hS, fun st cl H' _ _ _ S => ⟨st, cl, rfl, S⟩⟩
  rintro _ H1 ⟨st, cl, rfl, S⟩
  refine ⟨fun σ' H' => ∃ wl : Addr, σ' = [some (.ref a), some (.ref st), some (.ref wl), none, none, none, none, none, none, none, none, none, none, none, none] ∧ Strm H' st cl 0 ∧ H' wl = some (.lst (words.map V.str)), ?_, ?_⟩
  · exact ⟨(by show 8 ≤ sizeLine; decide), fun wl hwl => ⟨wl, rfl, S.keep (same_upd hwl), upd_same⟩⟩
  rintro _ H2 ⟨wl, rfl, S2, hw⟩
  refine ⟨5, rfl, by decide, by decide, ?_⟩
  refine for_range (lo := 0) (n := 5) (fun i σ H' => ∃ (n : Nat) (r3 r4 r5 r6 r7 r8 r9 r10 r11 r12 r13 r14 : Option V), σ = [some (.ref a), some (.ref st), some (.ref wl), r3, r4, r5, r6, r7, r8, r9, r10, r11, r12, r13, r14] ∧ Strm H' st cl n ∧ n ≤ 60 * i ∧ H' wl = some (.lst (words.map V.str)))
    ⟨0, none, none, none, none, none, none, none, none, none, none, none, none, rfl, S2, by omega, hw⟩ ?_ ?_
  · rintro i σ H' hi ⟨n, r3, r4, r5, r6, r7, r8, r9, r10, r11, r12, r13, r14, rfl, S', hn, hw'⟩
    exact t_turn T hA (r3 := some (.int (0 + i))) S' hw' (by omega) fun H'' m r4 r5 r6 r7 r8 r9 r10 r11 r12 r13 r14 S'' hm hw'' => ⟨m, _, r4, r5, r6, r7, r8, r9, r10, r11, r12, r13, r14, rfl, S'', by omega, hw''⟩
  · rintro σ H' ⟨n, r3, r4, r5, r6, r7, r8, r9, r10, r11, r12, r13, r14, rfl, S', hn, hw'⟩
    exact k H'
end K81

namespace K81
open PySem L2 PyProof.Rows
abbrev nLaw : List Str := ["_law_script", "_law_stream", "_law_words", "_law_turn", "_law_pairs", "_law_names", "_law_held", "_law_again", "_law_name", "_law_value_here", "_law_other", "_law_due", "_law_rows", "_law_thing", "_law_k"]
theorem scLaw : FnScope nLaw ["_law_script"] (defScope sLaw) := ⟨rfl, rfl, rfl, by decide +kernel, rfl, by decide +kernel, by decide +kernel⟩
/-- a function of the top, its promise at hand -/
structure At (P : Program) (w : World) (K : PySem.W.Frag) (mg : Str → Option Value) (base : Heap) (nm : Str) (k : Nat) (ps : List Str) (sp : Sp) (f : Addr) (fd : FuncData) : Prop where
  ok : FnOk P w K mg base CX0 k f fd ps sp
  m : mg nm = some (.ref f)
  k : PySem.W.keepIn K (.ref f) = true
  b : Binds K fd ps []
section
variable {P : Program} {w : World} {K : PySem.W.Frag} {mg : Str → Option Value} {base : Heap} {C CN fI : Addr}
def spLaw (K : PySem.W.Frag) : Sp := fun vs H Q _ => ∃ (a : Addr) (ns : List Int), vs = [.ref a] ∧ SqL K H a (ns.map V.int) ∧ ∀ H', Q (.bl true) H'
theorem passE {X : Cx} : Passes (L2.CX X.prog X.w) X E0 := fun _ _ _ _ _ _ _ h => by
  obtain ⟨_, _, _, _, _, _, _, _, _, _, _, _, z⟩ := h
  exact z.elim
theorem ok_law {f fS fP fV fD fI2 fPu fH fE fG fR fQ fA fZ fX fC : Addr} {fd fdS fdP fdV fdD fdI fdPu fdH fdE fdG fdR fdQ fdZ fdX fdX2 fdC : FuncData} {a0 : Addr} (hA : ∀ H : Hp, SqT K H a0 []) (F : Fun K "law" "law" sLaw f fd) (B : TxtB mg) (T : TxtN P K mg C CN fI)
    (S : At P w K mg base "_law_start" 1 ["_law_script"] (spStart K) fS fdS) (Pk : At P w K mg base "_law_pick" 2 ["_law_stream", "_law_some"] spPick fP fdP) (Vl : At P w K mg base "_law_value" 3 ["_law_stream"] spVal fV fdV) (Dr : At P w K mg base "_law_draw" 1 ["_law_stream", "_law_many"] spDraw fD fdD)
    (M : Mk K C fI2) (GI : FnOk P w K mg base CX0 10 fI2 fdI ["self", "pairs"] (spInit K C)) (bI : Binds K fdI ["self", "pairs"] []) (bI0 : Binds K fdI ["self", "pairs"] [.ref a0])
    (GPu : FnOk P w K mg base CX0 10 fPu fdPu ["self", "name", "value"] (spPut C)) (mPu : Meth K C "put" fPu) (bPu : Binds K fdPu ["self", "name", "value"] [])
    (GH : FnOk P w K mg base CX0 2 fH fdH ["self", "name"] (spHas C)) (mH : Meth K C "has" fH) (bH : Binds K fdH ["self", "name"] [])
    (GE : FnOk P w K mg base CX0 10 fE fdE ["self"] (spEnt C)) (mE : Meth K C "entries" fE) (bE : Binds K fdE ["self"] [])
    (GG : FnOk P w K mg base (L2.CX P w) 10 fG fdG ["self", "name"] (spGet C CN)) (mG : Meth K C "get" fG) (bG : Binds K fdG ["self", "name"] [])
    (R : At P w K mg base "_law_equal_right" 13 ["_law_names", "_law_held", "_law_rows"] (spEqr C) fR fdR)
    (GQ : FnOk P w K mg base CX0 2 fQ fdQ ["self", "other"] (spEq C)) (hQ : PySem.W.findIn K (.ref C) "__eq__" = some (some (.ref fQ))) (fnQ : PySem.W.isFn K (.ref fQ) = true) (bQ : Binds K fdQ ["self", "other"] [])
    (A : At P w K mg base "_law_same" 8 ["_law_found", "_law_due"] (spSame 7) fA fdZ) (Z : At P w K mg base "_law_spoil" 2 ["_law_thing"] spSpoil fZ fdX) (X : At P w K mg base "_law_got" 12 ["_law_names", "_law_name"] (spGot C) fX fdX2) (Cp : At P w K mg base "_law_copied" 8 ["_law_value_here"] (spCop 7) fC fdC)
    : FnOk P w K mg base CX0 14 f fd ["_law_script"] (spLaw K) := by
  refine F.ok scLaw (fun vs H Q E h => ?_) (fun cdv A0 outer s H vs Q E hr h => ?_)
  · obtain ⟨a, ns, rfl, _⟩ := h
    rfl
  · obtain ⟨a, ns, rfl, hS, k⟩ := h
    have hu : (A0.deeper (PyProof.Rows.envOfC "law" (defScope sLaw) s.heap.objs.size f cdv)).units + 64 < cLine := hr.units
    have hu1 := hu_of hr
    have r13 : Room 13 (A0.deeper (PyProof.Rows.envOfC "law" (defScope sLaw) s.heap.objs.size f cdv)) := hr.mono (by decide)
    have r12 := r13.mono (show 12 ≤ 13 by decide)
    have r11 := r13.mono (show 11 ≤ 13 by decide)
    have r10 := r13.mono (show 10 ≤ 13 by decide)
    have r8 := r13.mono (show 8 ≤ 13 by decide)
    have r3 := r13.mono (show 3 ≤ 13 by decide)
    have r2 := r13.mono (show 2 ≤ 13 by decide)
    have r1 := r13.mono (show 1 ≤ 13 by decide)
    refine ⟨_, (pss_mid (ps_set (i := 1) scLaw.nd rfl (Or.inr rfl) (pe_call S.ok r1 rfl S.m S.k S.b .nil pass0 (pa_cons (pv 0) pa_nil))) (pss_mid (ps_set (i := 2) scLaw.nd rfl (Or.inr rfl) (pe_lst (pa_cons pe_str (pa_cons pe_str (pa_cons pe_str (pa_cons pe_str (pa_cons pe_str (pa_cons pe_str (pa_cons pe_str (pa_cons pe_str pa_nil)))))))))) (pss_cons (ps_for PassesOwn.never rfl (pi_range1 rfl B.range (pa_cons pe_int pa_nil)) (pg_name (i := 3) scLaw.nd rfl (Or.inl rfl)) (pss_mid (ps_setLc (i := 4) (own := [("_law_k", 14)]) (g := gName 14) (tt := tYes) (te := tTup (tCons (tPick (tVar 1) (tVar 2)) (tCons tVal tNil))) rfl scLaw.nd rfl rfl (sw_true rfl rfl rfl (by decide +kernel)) (pi_range1 rfl B.range (pa_cons (by exact (pe_call Dr.ok r1 rfl Dr.m Dr.k Dr.b .nil pass0 (pa_cons (pv 1) (pa_cons pe_int pa_nil)))) pa_nil)) (blkOk_by (N := nLaw) (sc := defScope sLaw) (by decide +kernel)) (fun _ _ _ _ _ => (pg_name (i := 14) scLaw.nd rfl (Or.inl rfl))) (fun _ _ _ _ _ => pts_nil)
  (fun _ _ _ _ _ => by exact pe_tup (pa_cons (by exact pe_call Pk.ok (by exact r2) rfl Pk.m Pk.k Pk.b .nil pass0 (pa_cons (pv 1) (pa_cons (pv 2) pa_nil))) (pa_cons (by exact pe_call Vl.ok (by exact r3) rfl Vl.m Vl.k Vl.b .nil pass0 (pa_cons (pv 1) pa_nil)) pa_nil)))) (pss_mid (ps_asg (pe_tup (pa_cons (pe_make M GI r11 rfl T.mgC bI .nil pass0 (pa_cons (pe_call Pk.ok r2 rfl Pk.m Pk.k Pk.b .nil pass0 (pa_cons (pv 1) (pa_cons (pe_lst (pa_cons (pv 4) (pa_cons (pe_callTy call_tuple_of (by rfl) B.tuple (by decide +kernel) (pa_cons (pv 4) pa_nil)) pa_nil))) pa_nil))) pa_nil)) (pa_cons (pe_callTy (call_dictP rfl) (by rfl) B.dict (by decide +kernel) (pa_cons (pv 4) pa_nil)) pa_nil))) (pg_tup rfl (pgs_cons (pg_name (i := 5) scLaw.nd rfl (Or.inl rfl)) (pgs_cons (pg_name (i := 6) scLaw.nd rfl (Or.inr rfl)) pgs_nil)))) (pss_mid (ps_if (PW.pt (pw_and (pt_cmpR (op_eqD hu) (pv 4) (pe_lst pa_nil) (nomark _)) (pw_and1 (pt_not (pt_cmpR (op_ownEq GQ r2 hQ fnQ bQ pass0) (pe_make0 (dvs := [V.ref a0]) M GI r11 rfl T.mgC bI0 (.cons rfl .nil) pass0) (pv 5) (nomark _)))))) (pss_one (ps_ret pe_bl)) pss_nil) (pss_mid (ps_for PassesOwn.never rfl (pi_range1 rfl B.range (pa_cons (by exact (pe_call Dr.ok r1 rfl Dr.m Dr.k Dr.b .nil pass0 (pa_cons (pv 1) (pa_cons pe_int pa_nil)))) pa_nil)) (pg_name (i := 7) scLaw.nd rfl (Or.inl rfl)) (pss_mid (ps_par (i := 8) (j := 9) rfl scLaw.nd rfl rfl (by decide) rfl rfl (pa_cons (pe_call Pk.ok r2 rfl Pk.m Pk.k Pk.b .nil pass0 (pa_cons (pv 1) (pa_cons (pv 2) pa_nil))) (pa_cons (pe_call Vl.ok r3 rfl Vl.m Vl.k Vl.b .nil pass0 (pa_cons (pv 1) pa_nil)) pa_nil)) (by rfl)) (pss_mid (ps_if (pt_cmp (pc_notN (pe_meth (pv 5) T.cl mPu GPu r10 bPu .nil pass0 (pa_cons (pv 8) (pa_cons (pv 9) pa_nil))))) (pss_one (ps_ret pe_bl)) pss_nil) (pss_mid (ps_dput hu1 (pv 6) (pv 8) (pv 9) rfl) (pss_mid (ps_set (i := 10) scLaw.nd rfl (Or.inl rfl) (pe_call Pk.ok r2 rfl Pk.m Pk.k Pk.b .nil pass0 (pa_cons (pv 1) (pa_cons (pv 2) pa_nil)))) (pss_mid (ps_set (i := 11) scLaw.nd rfl (Or.inl rfl) (pe_ifExp (pt_cmp (pc_din hu1 (pv 10) (pv 6))) (pe_tup (pa_cons pe_str (pa_cons (pe_dget hu1 (pv 6) (pv 10) (fun _ _ => rfl)) pa_nil))) (pe_tup (pa_cons pe_str (pa_cons (pv 10) pa_nil))))) (pss_one (ps_if (PW.pt (pw_or (pt_not (pt_val (pe_call A.ok r8 rfl A.m A.k A.b .nil pass0 (pa_cons (pe_call X.ok r12 rfl X.m X.k X.b .nil pass0 (pa_cons (pv 5) (pa_cons (pv 10) pa_nil))) (pa_cons (pv 11) pa_nil))))) (pw_or1 (pt_cmpR op_ne (pe_meth (pv 5) T.cl mH GH r2 bH .nil pass0 (pa_cons (pv 10) pa_nil)) (pe_cmp (pc_din hu1 (pv 10) (pv 6)) rfl) (nomark _))))) (pss_one (ps_ret pe_bl)) pss_nil)))))))) (pss_mid (ps_set (i := 12) scLaw.nd rfl (Or.inl rfl) (pe_callB cr_sortedS (by rfl) B.sorted (by decide +kernel) (pa_cons (pe_callTy (call_list_dK rfl) (by rfl) B.list (by decide +kernel) (pa_cons (pv 6) pa_nil)) pa_nil))) (pss_mid (ps_setLc (i := 11) (own := [("_law_name", 8)]) (g := gName 8) (tt := tYes) (te := tTup (tCons (tVar 8) (tCons (tCall (spCop 7) [] E0 (tCons (tDGet (tVar 6) (tVar 8)) tNil)) tNil))) rfl scLaw.nd rfl rfl (sw_true rfl rfl rfl (by decide +kernel)) (pi_list (pv 12)) (blkOk_by (N := nLaw) (sc := defScope sLaw) (by decide +kernel)) (fun _ _ _ _ _ => (pg_name (i := 8) scLaw.nd rfl (Or.inl rfl))) (fun _ _ _ _ _ => pts_nil)
  (fun _ _ _ _ _ => by exact pe_tup (pa_cons (pv 8) (pa_cons (by exact pe_call Cp.ok (by exact r8) rfl Cp.m Cp.k Cp.b .nil pass0 (pa_cons (pe_dget (td := tVar 6) (ty := tVar 8) (by exact hu1) (pv 6) (pv 8) (fun _ _ => rfl)) pa_nil)) pa_nil)))) (pss_mid (ps_expr (pe_bm PySem.F.plainAttrs_list PySem.F.slot_list_append PySem.F.type_list_append mt_append (pe_meth0 (pv 5) T.cl mE GE r10 bE .nil pass0) (pa_cons (pe_tup (pa_cons pe_str (pa_cons pe_int pa_nil))) pa_nil))) (pss_mid (ps_if (PW.pt (pw_or (pt_not (pt_val (pe_call A.ok r8 rfl A.m A.k A.b .nil pass0 (pa_cons (pe_meth0 (pv 5) T.cl mE GE r10 bE .nil pass0) (pa_cons (pv 11) pa_nil))))) (pw_or1 (pt_not (pt_val (pe_call R.ok r13 rfl R.m R.k R.b .nil pass0 (pa_cons (pv 5) (pa_cons (pv 6) (pa_cons (pv 12) pa_nil))))))))) (pss_one (ps_ret pe_bl)) pss_nil) (pss_mid (ps_for PassesOwn.never rfl (pi_list (pv 12)) (pg_name (i := 8) scLaw.nd rfl (Or.inl rfl)) (pss_one (ps_for PassesOwn.never rfl (pi_tup (pe_tup (pa_cons (pe_meth (pv 5) T.cl mG GG r10 bG .nil passE (pa_cons (pv 8) pa_nil)) (pa_cons (pe_dget hu1 (pv 6) (pv 8) (fun _ _ => rfl)) (pa_cons (pe_dget hu1 (pe_callTy (call_dictP rfl) (by rfl) B.dict (by decide +kernel) (pa_cons (pe_meth0 (pv 5) T.cl mE GE r10 bE .nil pass0) pa_nil)) (pv 8) (fun _ _ => rfl)) pa_nil))))) (pg_name (i := 13) scLaw.nd rfl (Or.inl rfl)) (pss_one (ps_expr (pe_call Z.ok r2 rfl Z.m Z.k Z.b .nil pass0 (pa_cons (pv 13) pa_nil))))))) (pss_one (ps_if (pt_not (pt_val (pe_call A.ok r8 rfl A.m A.k A.b .nil pass0 (pa_cons (pe_meth0 (pv 5) T.cl mE GE r10 bE .nil pass0) (pa_cons (pv 11) pa_nil))))) (pss_one (ps_ret pe_bl)) pss_nil)))))))))))) (pss_one (ps_ret pe_bl))))), ?_⟩
    exact t_law T hA hS k
end
end K81

namespace K81
open PySem L2 PyProof.Rows
theorem all_mk {l : PySem.W.OpenLaw} {w : World} {K : PySem.W.Frag} {h : Heap} {mg : Str → Option Value} {fa C CN fI fI2 T0 a0 : Addr} {f_cop : Addr} {od_cop an_cop : Option Addr} {sl_cop : Array (Option Value)} {oc_cop kV_cop dc_cop pm_cop cd_cop ct_cop : Value} {f_lcp : Addr} {od_lcp an_lcp : Option Addr} {sl_lcp : Array (Option Value)} {oc_lcp kV_lcp dc_lcp pm_lcp cd_lcp ct_lcp : Value} {f_drw : Addr} {od_drw an_drw : Option Addr} {sl_drw : Array (Option Value)} {oc_drw kV_drw dc_drw pm_drw cd_drw ct_drw : Value} {f_str : Addr} {od_str an_str : Option Addr} {sl_str : Array (Option Value)} {oc_str kV_str dc_str pm_str cd_str ct_str : Value} {f_pck : Addr} {od_pck an_pck : Option Addr} {sl_pck : Array (Option Value)} {oc_pck kV_pck dc_pck pm_pck cd_pck ct_pck : Value} {f_sam : Addr} {od_sam an_sam : Option Addr} {sl_sam : Array (Option Value)} {oc_sam kV_sam dc_sam pm_sam cd_sam ct_sam : Value} {f_got : Addr} {od_got an_got : Option Addr} {sl_got : Array (Option Value)} {oc_got kV_got dc_got pm_got cd_got ct_got : Value} {f_val : Addr} {od_val an_val : Option Addr} {sl_val : Array (Option Value)} {oc_val kV_val dc_val pm_val cd_val ct_val : Value} {f_eqr : Addr} {od_eqr an_eqr : Option Addr} {sl_eqr : Array (Option Value)} {oc_eqr kV_eqr dc_eqr pm_eqr cd_eqr ct_eqr : Value} {f_spl : Addr} {od_spl an_spl : Option Addr} {sl_spl : Array (Option Value)} {oc_spl kV_spl dc_spl pm_spl cd_spl ct_spl : Value} {f_law : Addr} {od_law an_law : Option Addr} {sl_law : Array (Option Value)} {oc_law kV_law dc_law pm_law cd_law ct_law : Value} {f_get : Addr} {od_get an_get : Option Addr} {sl_get : Array (Option Value)} {oc_get kV_get dc_get pm_get cd_get ct_get : Value} {f_put : Addr} {od_put an_put : Option Addr} {sl_put : Array (Option Value)} {oc_put kV_put dc_put pm_put cd_put ct_put : Value} {f_has : Addr} {od_has an_has : Option Addr} {sl_has : Array (Option Value)} {oc_has kV_has dc_has pm_has cd_has ct_has : Value} {f_ent : Addr} {od_ent an_ent : Option Addr} {sl_ent : Array (Option Value)} {oc_ent kV_ent dc_ent pm_ent cd_ent ct_ent : Value} {f_eq : Addr} {od_eq an_eq : Option Addr} {sl_eq : Array (Option Value)} {oc_eq kV_eq dc_eq pm_eq cd_eq ct_eq : Value} {od_ini an_ini odT odA : Option Addr} {sl_ini slT slA : Array (Option Value)} {oc_ini kV_ini dc_ini pm_ini cd_ini ct_ini : Value} {nT nA : Nat} {nm q : Str} {N : Addr} {bs : List Value} {sn : List Str} {sub : List Value} {ab : Bool} {col : Option Bool} {dd : Option Addr} {m0 m1 m2 m3 m5 : Option Value} {bm : List Value} {oc : Value} {od : Option Addr} {doc pm : Value} {an : Option Addr} {ct : Value} {osl : Array (Option Value)} {cda cc : Addr} {ccl cl : Value} {cdd cld : Option Addr} {ccs csl : Array (Option Value)} {vs : Array Value} {file : Str} {tf : Tok} (X : K.In h) (G : h.Ns mainGlobals mg) (hfa : mg "law" = some (.ref fa))
    (aC : PySem.W.nsIn K mainGlobals "Names" = some (some (.ref C)))
    (aN : PySem.W.nsIn K mainGlobals "NoName" = some (some (.ref CN)))
    (a_cop : PySem.W.nsIn K mainGlobals "copied" = some (some (.ref f_cop)))
    (l_cop : K.lookup f_cop = some ⟨oc_cop, od_cop, .func (PySem.W.fnOf "copied" "copied" (defArgs sCop) (defBody sCop) (defScope sCop) .none kV_cop dc_cop pm_cop an_cop cd_cop ct_cop), sl_cop⟩)
    (c_cop : PySem.W.codeIn K cd_cop "copied" = true)
    (k_cop : PySem.W.keepIn K (.ref f_cop) = true)
    (a_lcp : PySem.W.nsIn K mainGlobals "_law_copied" = some (some (.ref f_lcp)))
    (l_lcp : K.lookup f_lcp = some ⟨oc_lcp, od_lcp, .func (PySem.W.fnOf "_law_copied" "_law_copied" (defArgs sLcop) (defBody sLcop) (defScope sLcop) .none kV_lcp dc_lcp pm_lcp an_lcp cd_lcp ct_lcp), sl_lcp⟩)
    (c_lcp : PySem.W.codeIn K cd_lcp "_law_copied" = true)
    (k_lcp : PySem.W.keepIn K (.ref f_lcp) = true)
    (a_drw : PySem.W.nsIn K mainGlobals "_law_draw" = some (some (.ref f_drw)))
    (l_drw : K.lookup f_drw = some ⟨oc_drw, od_drw, .func (PySem.W.fnOf "_law_draw" "_law_draw" (defArgs sDraw) (defBody sDraw) (defScope sDraw) .none kV_drw dc_drw pm_drw an_drw cd_drw ct_drw), sl_drw⟩)
    (c_drw : PySem.W.codeIn K cd_drw "_law_draw" = true)
    (k_drw : PySem.W.keepIn K (.ref f_drw) = true)
    (a_str : PySem.W.nsIn K mainGlobals "_law_start" = some (some (.ref f_str)))
    (l_str : K.lookup f_str = some ⟨oc_str, od_str, .func (PySem.W.fnOf "_law_start" "_law_start" (defArgs sStart) (defBody sStart) (defScope sStart) .none kV_str dc_str pm_str an_str cd_str ct_str), sl_str⟩)
    (c_str : PySem.W.codeIn K cd_str "_law_start" = true)
    (k_str : PySem.W.keepIn K (.ref f_str) = true)
    (a_pck : PySem.W.nsIn K mainGlobals "_law_pick" = some (some (.ref f_pck)))
    (l_pck : K.lookup f_pck = some ⟨oc_pck, od_pck, .func (PySem.W.fnOf "_law_pick" "_law_pick" (defArgs sPick) (defBody sPick) (defScope sPick) .none kV_pck dc_pck pm_pck an_pck cd_pck ct_pck), sl_pck⟩)
    (c_pck : PySem.W.codeIn K cd_pck "_law_pick" = true)
    (k_pck : PySem.W.keepIn K (.ref f_pck) = true)
    (a_sam : PySem.W.nsIn K mainGlobals "_law_same" = some (some (.ref f_sam)))
    (l_sam : K.lookup f_sam = some ⟨oc_sam, od_sam, .func (PySem.W.fnOf "_law_same" "_law_same" (defArgs sSame) (defBody sSame) (defScope sSame) .none kV_sam dc_sam pm_sam an_sam cd_sam ct_sam), sl_sam⟩)
    (c_sam : PySem.W.codeIn K cd_sam "_law_same" = true)
    (k_sam : PySem.W.keepIn K (.ref f_sam) = true)
    (a_got : PySem.W.nsIn K mainGlobals "_law_got" = some (some (.ref f_got)))
    (l_got : K.lookup f_got = some ⟨oc_got, od_got, .func (PySem.W.fnOf "_law_got" "_law_got" (defArgs sGot) (defBody sGot) (defScope sGot) .none kV_got dc_got pm_got an_got cd_got ct_got), sl_got⟩)
    (c_got : PySem.W.codeIn K cd_got "_law_got" = true)
    (k_got : PySem.W.keepIn K (.ref f_got) = true)
    (a_val : PySem.W.nsIn K mainGlobals "_law_value" = some (some (.ref f_val)))
    (l_val : K.lookup f_val = some ⟨oc_val, od_val, .func (PySem.W.fnOf "_law_value" "_law_value" (defArgs sVal) (defBody sVal) (defScope sVal) .none kV_val dc_val pm_val an_val cd_val ct_val), sl_val⟩)
    (c_val : PySem.W.codeIn K cd_val "_law_value" = true)
    (k_val : PySem.W.keepIn K (.ref f_val) = true)
    (a_eqr : PySem.W.nsIn K mainGlobals "_law_equal_right" = some (some (.ref f_eqr)))
    (l_eqr : K.lookup f_eqr = some ⟨oc_eqr, od_eqr, .func (PySem.W.fnOf "_law_equal_right" "_law_equal_right" (defArgs sEqr) (defBody sEqr) (defScope sEqr) .none kV_eqr dc_eqr pm_eqr an_eqr cd_eqr ct_eqr), sl_eqr⟩)
    (c_eqr : PySem.W.codeIn K cd_eqr "_law_equal_right" = true)
    (k_eqr : PySem.W.keepIn K (.ref f_eqr) = true)
    (a_spl : PySem.W.nsIn K mainGlobals "_law_spoil" = some (some (.ref f_spl)))
    (l_spl : K.lookup f_spl = some ⟨oc_spl, od_spl, .func (PySem.W.fnOf "_law_spoil" "_law_spoil" (defArgs sSpoil) (defBody sSpoil) (defScope sSpoil) .none kV_spl dc_spl pm_spl an_spl cd_spl ct_spl), sl_spl⟩)
    (c_spl : PySem.W.codeIn K cd_spl "_law_spoil" = true)
    (k_spl : PySem.W.keepIn K (.ref f_spl) = true)
    (a_law : PySem.W.nsIn K mainGlobals "law" = some (some (.ref f_law)))
    (l_law : K.lookup f_law = some ⟨oc_law, od_law, .func (PySem.W.fnOf "law" "law" (defArgs sLaw) (defBody sLaw) (defScope sLaw) .none kV_law dc_law pm_law an_law cd_law ct_law), sl_law⟩)
    (c_law : PySem.W.codeIn K cd_law "law" = true)
    (k_law : PySem.W.keepIn K (.ref f_law) = true)
    (a_get : PySem.W.findIn K (.ref C) "get" = some (some (.ref f_get)))
    (i_get : PySem.W.isFn K (.ref f_get) = true)
    (l_get : K.lookup f_get = some ⟨oc_get, od_get, .func (PySem.W.fnOf "get" "Names.get" (defArgs sGet) (defBody sGet) (defScope sGet) .none kV_get dc_get pm_get an_get cd_get ct_get), sl_get⟩)
    (c_get : PySem.W.codeIn K cd_get "Names.get" = true)
    (k_get : PySem.W.keepIn K (.ref f_get) = true)
    (a_put : PySem.W.findIn K (.ref C) "put" = some (some (.ref f_put)))
    (i_put : PySem.W.isFn K (.ref f_put) = true)
    (l_put : K.lookup f_put = some ⟨oc_put, od_put, .func (PySem.W.fnOf "put" "Names.put" (defArgs sPut) (defBody sPut) (defScope sPut) .none kV_put dc_put pm_put an_put cd_put ct_put), sl_put⟩)
    (c_put : PySem.W.codeIn K cd_put "Names.put" = true)
    (k_put : PySem.W.keepIn K (.ref f_put) = true)
    (a_has : PySem.W.findIn K (.ref C) "has" = some (some (.ref f_has)))
    (i_has : PySem.W.isFn K (.ref f_has) = true)
    (l_has : K.lookup f_has = some ⟨oc_has, od_has, .func (PySem.W.fnOf "has" "Names.has" (defArgs sHas) (defBody sHas) (defScope sHas) .none kV_has dc_has pm_has an_has cd_has ct_has), sl_has⟩)
    (c_has : PySem.W.codeIn K cd_has "Names.has" = true)
    (k_has : PySem.W.keepIn K (.ref f_has) = true)
    (a_ent : PySem.W.findIn K (.ref C) "entries" = some (some (.ref f_ent)))
    (i_ent : PySem.W.isFn K (.ref f_ent) = true)
    (l_ent : K.lookup f_ent = some ⟨oc_ent, od_ent, .func (PySem.W.fnOf "entries" "Names.entries" (defArgs sEnt) (defBody sEnt) (defScope sEnt) .none kV_ent dc_ent pm_ent an_ent cd_ent ct_ent), sl_ent⟩)
    (c_ent : PySem.W.codeIn K cd_ent "Names.entries" = true)
    (k_ent : PySem.W.keepIn K (.ref f_ent) = true)
    (a_eq : PySem.W.findIn K (.ref C) "__eq__" = some (some (.ref f_eq)))
    (i_eq : PySem.W.isFn K (.ref f_eq) = true)
    (l_eq : K.lookup f_eq = some ⟨oc_eq, od_eq, .func (PySem.W.fnOf "__eq__" "Names.__eq__" (defArgs sEq) (defBody sEq) (defScope sEq) .none kV_eq dc_eq pm_eq an_eq cd_eq ct_eq), sl_eq⟩)
    (c_eq : PySem.W.codeIn K cd_eq "Names.__eq__" = true)
    (k_eq : PySem.W.keepIn K (.ref f_eq) = true)
    (a_ini : PySem.W.findIn K (.ref C) "__init__" = some (some (.ref fI2)))
    (i_ini : PySem.W.isFn K (.ref fI2) = true)
    (l_ini : K.lookup fI2 = some ⟨oc_ini, od_ini, .func (PySem.W.fnOf "__init__" "Names.__init__" (defArgs sInit) (defBody sInit) (defScope sInit) (.ref T0) kV_ini dc_ini pm_ini an_ini cd_ini ct_ini), sl_ini⟩)
    (c_ini : PySem.W.codeIn K cd_ini "Names.__init__" = true)
    (k_ini : PySem.W.keepIn K (.ref fI2) = true)
    (lT : K.lookup T0 = some ⟨.type "tuple", odT, .seq #[.ref a0] nT, slT⟩)
    (lA : K.lookup a0 = some ⟨.type "tuple", odA, .seq #[] nA, slA⟩)
    (pg : PySem.W.plainGet K C Str.empty = true)
    (hd : PySem.W.hasDictIn K C = true)
    (po : PySem.W.plainOver K C = true)
    (sa : PySem.W.findIn K (.ref C) "__setattr__" = some (some (.builtin "object.__setattr__")))
    (mk : PySem.W.makesIn K C = true)
    (kc : PySem.W.keepIn K (.ref C) = true)
    (nH : PySem.W.findIn K (.ref C) "held" = some none)
    (ha : PySem.W.findIn K (.ref C) "__class__" = some (some (.builtin "object.__class__")))
    (hn : PySem.W.specialIn K (.builtin "object.__class__") "__get__" = some (some (.builtin "getset_descriptor.__get__")))
    (htk : PySem.W.takesIn K (.builtin "object.__class__") = some true)
    (hm : PySem.W.mroIn K C (.type "object") = some true)
    (kC : PySem.W.kitOne K (.ref C) (.ref C) = some true)
    (kL : PySem.W.kitOne K (.type "list") (.ref C) = some false)
    (kD : PySem.W.kitOne K (.type "dict") (.ref C) = some false)
    (nfL : PySem.W.notFirst K C (.type "list") = true)
    (nfD : PySem.W.notFirst K C (.type "dict") = true)
    (xN : K.lookup CN = some (excClassObj nm q CN N bs bm true sn sub ab col dd m0 m1 m2 m3 m5 "ValueError.__new__"))
    (rN : PySem.HandSPX.refsVE bm = true)
    (nsa : PySem.W.findIn K (.ref CN) "__setattr__" = some (some (.builtin "object.__setattr__")))
    (nga : PySem.W.findIn K (.ref CN) "__getattribute__" = some (some (.builtin "BaseException.__getattribute__")))
    (ngg : PySem.W.findIn K (.ref CN) "__getattr__" = some none)
    (nnN : PySem.W.findIn K (.ref CN) "name" = some none)
    (niC : PySem.W.findIn K (.ref CN) "__init__" = some (some (.ref fI)))
    (ntC : PySem.W.typeIn K (.ref fI) = some (.type "function"))
    (nkC : PySem.W.keepIn K (.ref CN) = true)
    (nex : PySem.W.subIn K (.ref CN) (.type "BaseException") = some true)
    (nve : PySem.W.subIn K (.ref CN) (.type "ValueError") = some true)
    (nty : PySem.W.typeIn K (.ref CN) = some (.type "type"))
    (nhd : PySem.W.hasDictIn K CN = true)
    (nte : PySem.W.exmOne K (.ref CN) (.ref CN) = some true)
    (nme : PySem.W.mroIn K CN (.ref CN) = some true)
    (nup : PySem.W.ks_superIn K CN CN "__init__" = some (some (.builtin "ValueError.__init__")))
    (nno : PySem.W.nsIn K cStatics "thirdparty.any" = some none)
    (nf1 : K.lookup fI = some ⟨oc, od, .func (PySem.W.ksFn "__init__" "NoName.__init__" PySem.NoX.iA PySem.NoX.iB PySem.NoX.iS .none .none doc pm an (.ref cda) ct cc), osl⟩)
    (nf2 : PySem.W.codeIn K (.ref cda) "NoName.__init__" = true)
    (nf3 : K.lookup cda = some ⟨ccl, cdd, .fields vs, ccs⟩)
    (nf4 : vs[2]? = some (.str file tf))
    (nf5 : ((l.prog.main.file : Str) == file) = true)
    (nf6 : (l.prog.main.scope.names.lookup ("super" : Str)).isSome = false)
    (nf7 : K.lookup cc = some ⟨cl, cld, .cell (some (.ref CN)), csl⟩)
    (z_super : PySem.W.nsIn K mainGlobals "super" = some none)
    (z_int : PySem.W.nsIn K mainGlobals "int" = some none)
    (z_list : PySem.W.nsIn K mainGlobals "list" = some none)
    (z_tuple : PySem.W.nsIn K mainGlobals "tuple" = some none)
    (z_len : PySem.W.nsIn K mainGlobals "len" = some none)
    (z_isinstance : PySem.W.nsIn K mainGlobals "isinstance" = some none)
    (z_dict : PySem.W.nsIn K mainGlobals "dict" = some none)
    (z_sorted : PySem.W.nsIn K mainGlobals "sorted" = some none)
    (z_all : PySem.W.nsIn K mainGlobals "all" = some none)
    (z_zip : PySem.W.nsIn K mainGlobals "zip" = some none)
    (z_range : PySem.W.nsIn K mainGlobals "range" = some none)
    (z_bool : PySem.W.nsIn K mainGlobals "bool" = some none)
    : ∃ fd : FuncData, (∀ (s : Shared) (v : Value), BindsTo s fd ⟨[v], []⟩ [("_law_script", v)]) ∧ ∀ base : Heap, K.In base → base.Ns mainGlobals mg → FnOk l.prog w K mg base CX0 14 fa fd ["_law_script"] (spLaw K) := by
  have e := hfa.symm.trans (PySem.W.mg_of X G a_law)
  cases e
  have no : PySem.NoX.NoTxt l.prog K mg CN fI :=
    { gC := PySem.W.mg_of X G aN, gS := PySem.W.mg_none_of X G z_super, cls := ⟨nm, q, N, bs, bm, sn, sub, ab, col, dd, m0, m1, m2, m3, m5, xN, rN⟩, sa := nsa, ga := nga, gg := ngg, noN := nnN, iC := niC, tC := ntC, kC := nkC, exC := nex, veC := nve, tyC := nty, hdC := nhd, te := nte, meC := nme, up := nup, no := nno,
      fn := ⟨_, _, _, _, _, _, _, _, _, _, _, _, _, _, _, _, _, _, nf1, nf2, nf3, nf4, nf5, nf6, nf7⟩ }
  have T : TxtN l.prog K mg C CN fI := ⟨⟨pg, hd, po, sa⟩, nH, PySem.W.mg_of X G aC, ha, hn, htk, hm, kC, kL, kD, nfL, nfD, no⟩
  have B : TxtB mg := ⟨PySem.W.mg_none_of X G z_int, PySem.W.mg_none_of X G z_list, PySem.W.mg_none_of X G z_tuple, PySem.W.mg_none_of X G z_len, PySem.W.mg_none_of X G z_isinstance, PySem.W.mg_none_of X G z_dict, PySem.W.mg_none_of X G z_sorted, PySem.W.mg_none_of X G z_all, PySem.W.mg_none_of X G z_zip, PySem.W.mg_none_of X G z_range, PySem.W.mg_none_of X G z_bool⟩
  have hA : ∀ H : Hp, SqT K H a0 [] := fun H => .inr ⟨_, _, _, lA, rfl, rfl, Nat.zero_le _, .nil⟩
  have F_cop := fun_mk (st := sCop) l_cop c_cop k_cop
  have b_cop := F_cop.binds (ps := ["value"]) fun _ _ _ _ _ _ us hl => match us, hl with | [_], _ => rfl
  have m_cop := PySem.W.mg_of X G a_cop
  have F_lcp := fun_mk (st := sLcop) l_lcp c_lcp k_lcp
  have b_lcp := F_lcp.binds (ps := ["_law_value_here"]) fun _ _ _ _ _ _ us hl => match us, hl with | [_], _ => rfl
  have m_lcp := PySem.W.mg_of X G a_lcp
  have F_drw := fun_mk (st := sDraw) l_drw c_drw k_drw
  have b_drw := F_drw.binds (ps := ["_law_stream", "_law_many"]) fun _ _ _ _ _ _ us hl => match us, hl with | [_, _], _ => rfl
  have m_drw := PySem.W.mg_of X G a_drw
  have F_str := fun_mk (st := sStart) l_str c_str k_str
  have b_str := F_str.binds (ps := ["_law_script"]) fun _ _ _ _ _ _ us hl => match us, hl with | [_], _ => rfl
  have m_str := PySem.W.mg_of X G a_str
  have F_pck := fun_mk (st := sPick) l_pck c_pck k_pck
  have b_pck := F_pck.binds (ps := ["_law_stream", "_law_some"]) fun _ _ _ _ _ _ us hl => match us, hl with | [_, _], _ => rfl
  have m_pck := PySem.W.mg_of X G a_pck
  have F_sam := fun_mk (st := sSame) l_sam c_sam k_sam
  have b_sam := F_sam.binds (ps := ["_law_found", "_law_due"]) fun _ _ _ _ _ _ us hl => match us, hl with | [_, _], _ => rfl
  have m_sam := PySem.W.mg_of X G a_sam
  have F_got := fun_mk (st := sGot) l_got c_got k_got
  have b_got := F_got.binds (ps := ["_law_names", "_law_name"]) fun _ _ _ _ _ _ us hl => match us, hl with | [_, _], _ => rfl
  have m_got := PySem.W.mg_of X G a_got
  have F_val := fun_mk (st := sVal) l_val c_val k_val
  have b_val := F_val.binds (ps := ["_law_stream"]) fun _ _ _ _ _ _ us hl => match us, hl with | [_], _ => rfl
  have m_val := PySem.W.mg_of X G a_val
  have F_eqr := fun_mk (st := sEqr) l_eqr c_eqr k_eqr
  have b_eqr := F_eqr.binds (ps := ["_law_names", "_law_held", "_law_rows"]) fun _ _ _ _ _ _ us hl => match us, hl with | [_, _, _], _ => rfl
  have m_eqr := PySem.W.mg_of X G a_eqr
  have F_spl := fun_mk (st := sSpoil) l_spl c_spl k_spl
  have b_spl := F_spl.binds (ps := ["_law_thing"]) fun _ _ _ _ _ _ us hl => match us, hl with | [_], _ => rfl
  have m_spl := PySem.W.mg_of X G a_spl
  have F_law := fun_mk (st := sLaw) l_law c_law k_law
  have b_law := F_law.binds (ps := ["_law_script"]) fun _ _ _ _ _ _ us hl => match us, hl with | [_], _ => rfl
  have m_law := PySem.W.mg_of X G a_law
  have F_get := fun_mk (st := sGet) l_get c_get k_get
  have b_get := F_get.binds (ps := ["self", "name"]) fun _ _ _ _ _ _ us hl => match us, hl with | [_, _], _ => rfl
  have F_put := fun_mk (st := sPut) l_put c_put k_put
  have b_put := F_put.binds (ps := ["self", "name", "value"]) fun _ _ _ _ _ _ us hl => match us, hl with | [_, _, _], _ => rfl
  have F_has := fun_mk (st := sHas) l_has c_has k_has
  have b_has := F_has.binds (ps := ["self", "name"]) fun _ _ _ _ _ _ us hl => match us, hl with | [_, _], _ => rfl
  have F_ent := fun_mk (st := sEnt) l_ent c_ent k_ent
  have b_ent := F_ent.binds (ps := ["self"]) fun _ _ _ _ _ _ us hl => match us, hl with | [_], _ => rfl
  have F_eq := fun_mk (st := sEq) l_eq c_eq k_eq
  have b_eq := F_eq.binds (ps := ["self", "other"]) fun _ _ _ _ _ _ us hl => match us, hl with | [_, _], _ => rfl
  have F_ini : FunD K "__init__" "Names.__init__" (defArgs sInit) (defBody sInit) (defScope sInit) [.ref a0] [] fI2 _ := ⟨⟨_, _, _, _, _, _, _, _, _, _, rfl, l_ini, c_ini, .inr ⟨(fun z => nomatch z), T0, ⟨.type "tuple", odT, .seq #[.ref a0] nT, slT⟩, [Value.ref a0], nT, rfl, lT, rfl, .cons rfl .nil⟩, .inl rfl⟩, k_ini⟩
  obtain ⟨ds, v1, b1⟩ := F_ini.binds1 (ps := ["self", "pairs"]) 2 1 (fun z => nomatch z) rfl fun T kV doc pm an cdv ct us its h1 h2 => match us, its, h1, h2 with | [_, _], [_], _, _ => ⟨_, rfl, rfl⟩
  cases v1
  obtain ⟨ds, v0, b0⟩ := F_ini.binds1 (ps := ["self", "pairs"]) 1 0 (fun z => nomatch z) rfl fun T kV doc pm an cdv ct us its h1 h2 => match us, its, h1, h2 with | [_], [_], _, _ => ⟨_, rfl, rfl⟩
  cases v0 with
  | cons r0 v0 =>
    cases v0
    cases r0
    refine ⟨PySem.W.fnOf "law" "law" (defArgs sLaw) (defBody sLaw) (defScope sLaw) .none kV_law dc_law pm_law an_law cd_law ct_law, fun s v => .of_eq rfl, fun base _ _ => ?_⟩
    · have gCop : FnOk l.prog w K mg base CX0 8 f_cop _ ["value"] (spCop 7) := okCop F_cop B m_cop k_cop b_cop 7
      have gLcp : FnOk l.prog w K mg base CX0 8 f_lcp _ ["_law_value_here"] (spCop 7) := okLcop F_lcp B m_lcp k_lcp b_lcp 7
      have gDrw : FnOk l.prog w K mg base CX0 1 f_drw _ ["_law_stream", "_law_many"] spDraw := ok_draw F_drw B
      have gStr : FnOk l.prog w K mg base CX0 1 f_str _ ["_law_script"] (spStart K) := ok_start F_str B
      have gPck : FnOk l.prog w K mg base CX0 2 f_pck _ ["_law_stream", "_law_some"] spPick := ok_pick F_pck B gDrw m_drw k_drw b_drw
      have gVal : FnOk l.prog w K mg base CX0 3 f_val _ ["_law_stream"] spVal := ok_val F_val gPck m_pck k_pck b_pck
      have gSam : FnOk l.prog w K mg base CX0 8 f_sam _ ["_law_found", "_law_due"] (spSame 7) := okSame F_sam B m_sam k_sam b_sam 7
      have gGet : FnOk l.prog w K mg base (L2.CX l.prog w) 10 f_get _ ["self", "name"] (spGet C CN) := ok_get F_get T gCop m_cop k_cop b_cop
      have gPut : FnOk l.prog w K mg base CX0 10 f_put _ ["self", "name", "value"] (spPut C) := ok_put F_put T gCop m_cop k_cop b_cop
      have gHas : FnOk l.prog w K mg base CX0 2 f_has _ ["self", "name"] (spHas C) := ok_has F_has T
      have gEnt : FnOk l.prog w K mg base CX0 10 f_ent _ ["self"] (spEnt C) := ok_ent F_ent B T gCop m_cop k_cop b_cop
      have gEq : FnOk l.prog w K mg base CX0 2 f_eq _ ["self", "other"] (spEq C) := ok_eq F_eq B T
      have gIni : FnOk l.prog w K mg base CX0 10 fI2 _ ["self", "pairs"] (spInit K C) := ok_init F_ini B T gCop m_cop k_cop b_cop
      have M : Mk K C fI2 := ⟨mk, a_ini, i_ini, kc⟩
      have gGot : FnOk l.prog w K mg base CX0 12 f_got _ ["_law_names", "_law_name"] (spGot C) := ok_got F_got B T gGet ⟨a_get, i_get, k_get⟩ b_get
      have gSpl : FnOk l.prog w K mg base CX0 2 f_spl _ ["_law_thing"] spSpoil := ok_spoil F_spl B
      have gEqr : FnOk l.prog w K mg base CX0 13 f_eqr _ ["_law_names", "_law_held", "_law_rows"] (spEqr C) := ok_eqr F_eqr B T M gIni b1 gEnt ⟨a_ent, i_ent, k_ent⟩ b_ent gEq a_eq i_eq b_eq
      exact ok_law hA F_law B T ⟨gStr, m_str, k_str, b_str⟩ ⟨gPck, m_pck, k_pck, b_pck⟩ ⟨gVal, m_val, k_val, b_val⟩ ⟨gDrw, m_drw, k_drw, b_drw⟩ M gIni b1 b0 gPut ⟨a_put, i_put, k_put⟩ b_put gHas ⟨a_has, i_has, k_has⟩ b_has gEnt ⟨a_ent, i_ent, k_ent⟩ b_ent gGet ⟨a_get, i_get, k_get⟩ b_get ⟨gEqr, m_eqr, k_eqr, b_eqr⟩ gEq a_eq i_eq b_eq ⟨gSam, m_sam, k_sam, b_sam⟩ ⟨gSpl, m_spl, k_spl, b_spl⟩ ⟨gGot, m_got, k_got, b_got⟩ ⟨gLcp, m_lcp, k_lcp, b_lcp⟩
theorem walk {l : PySem.W.OpenLaw} {q : Program} {loose : List Str} {XP : (Str → Option Value) → Heap → Prop} {YP : World → Heap → Prop} {d : DefRec} {K : Params → PySem.W.Frag} (hn : l.most = some 63) (hdf : d.params.defaults = [])
    (hY : ∀ (w : World) (h : Heap), YP w h → (K w.params).In h)
    (F : ∀ (w : World) (mg : Str → Option Value) (fa : Addr) (h : Heap), (K w.params).In h → h.Ns mainGlobals mg → mg d.name = some (.ref fa) →
      ∃ fd : FuncData, (∀ (s : Shared) (u : Value), BindsTo s fd ⟨[u], []⟩ [("_law_script", u)]) ∧ ∀ base : Heap, (K w.params).In base → base.Ns mainGlobals mg → FnOk l.prog w (K w.params) mg base CX0 14 fa fd ["_law_script"] (spLaw (K w.params))) :
    PySem.W.WalkO q loose XP YP l.row.toRowW d [] (fun f vs => PySem.call f vs) :=
  L2.walk_of (n := 63) (k := 14) (x := "_law_script") (CX := fun _ => CX0) (sp := fun w => spLaw (K w.params)) hn (by decide) hdf ⟨rfl, by decide, by decide⟩ hY F (fun _ _ a ns hl _ hS => ⟨a, ns, rfl, hS, fun _ => rfl⟩) fun _ _ _ _ _ z => z
end K81

open PySem PySem.W PyProof.Rows
set_option maxRecDepth 100000 in
set_option maxHeartbeats 0 in
theorem PySem.Challenge.cw_optwright_k81_names_holds : PySem.Challenge.rw_optwright_k81_names.Holds := by
  w_on; o_law; k_head; (case hw => w_witness2)
  k_fill
  refine K81.walk (l := PySem.Challenge.rw_optwright_k81_names) rfl rfl (fun w h Y => PySem.W.kIn_of Y) ?F
  case F =>
    intro w mg fa h KX G hmg
    refine' K81.all_mk KX G hmg ?aC ?aN ?a_cop ?l_cop ?c_cop ?k_cop ?a_lcp ?l_lcp ?c_lcp ?k_lcp ?a_drw ?l_drw ?c_drw ?k_drw ?a_str ?l_str ?c_str ?k_str ?a_pck ?l_pck ?c_pck ?k_pck ?a_sam ?l_sam ?c_sam ?k_sam ?a_got ?l_got ?c_got ?k_got ?a_val ?l_val ?c_val ?k_val ?a_eqr ?l_eqr ?c_eqr ?k_eqr ?a_spl ?l_spl ?c_spl ?k_spl ?a_law ?l_law ?c_law ?k_law ?a_get ?i_get ?l_get ?c_get ?k_get ?a_put ?i_put ?l_put ?c_put ?k_put ?a_has ?i_has ?l_has ?c_has ?k_has ?a_ent ?i_ent ?l_ent ?c_ent ?k_ent ?a_eq ?i_eq ?l_eq ?c_eq ?k_eq ?a_ini ?i_ini ?l_ini ?c_ini ?k_ini ?lT ?lA ?pg ?hd ?po ?sa ?mk ?kc ?nH ?ha ?hn ?htk ?hm ?kC ?kL ?kD ?nfL ?nfD ?xN ?rN ?nsa ?nga ?ngg ?nnN ?niC ?ntC ?nkC ?nex ?nve ?nty ?nhd ?nte ?nme ?nup ?nno ?nf1 ?nf2 ?nf3 ?nf4 ?nf5 ?nf6 ?nf7 ?z_super ?z_int ?z_list ?z_tuple ?z_len ?z_isinstance ?z_dict ?z_sorted ?z_all ?z_zip ?z_range ?z_bool
    (case aC => k_is)
    (case aN => k_is)
    (case a_cop => k_is)
    (case l_cop => k_is)
    (case c_cop => k_is)
    (case k_cop => k_is)
    (case a_lcp => k_is)
    (case l_lcp => k_is)
    (case c_lcp => k_is)
    (case k_lcp => k_is)
    (case a_drw => k_is)
    (case l_drw => k_is)
    (case c_drw => k_is)
    (case k_drw => k_is)
    (case a_str => k_is)
    (case l_str => k_is)
    (case c_str => k_is)
    (case k_str => k_is)
    (case a_pck => k_is)
    (case l_pck => k_is)
    (case c_pck => k_is)
    (case k_pck => k_is)
    (case a_sam => k_is)
    (case l_sam => k_is)
    (case c_sam => k_is)
    (case k_sam => k_is)
    (case a_got => k_is)
    (case l_got => k_is)
    (case c_got => k_is)
    (case k_got => k_is)
    (case a_val => k_is)
    (case l_val => k_is)
    (case c_val => k_is)
    (case k_val => k_is)
    (case a_eqr => k_is)
    (case l_eqr => k_is)
    (case c_eqr => k_is)
    (case k_eqr => k_is)
    (case a_spl => k_is)
    (case l_spl => k_is)
    (case c_spl => k_is)
    (case k_spl => k_is)
    (case a_law => k_is)
    (case l_law => k_is)
    (case c_law => k_is)
    (case k_law => k_is)
    (case a_get => k_is)
    (case i_get => k_is)
    (case l_get => k_is)
    (case c_get => k_is)
    (case k_get => k_is)
    (case a_put => k_is)
    (case i_put => k_is)
    (case l_put => k_is)
    (case c_put => k_is)
    (case k_put => k_is)
    (case a_has => k_is)
    (case i_has => k_is)
    (case l_has => k_is)
    (case c_has => k_is)
    (case k_has => k_is)
    (case a_ent => k_is)
    (case i_ent => k_is)
    (case l_ent => k_is)
    (case c_ent => k_is)
    (case k_ent => k_is)
    (case a_eq => k_is)
    (case i_eq => k_is)
    (case l_eq => k_is)
    (case c_eq => k_is)
    (case k_eq => k_is)
    (case a_ini => k_is)
    (case i_ini => k_is)
    (case l_ini => k_is)
    (case c_ini => k_is)
    (case k_ini => k_is)
    (case lT => k_is)
    (case lA => k_is)
    (case pg => k_is)
    (case hd => k_is)
    (case po => k_is)
    (case sa => k_is)
    (case mk => k_is)
    (case kc => k_is)
    (case nH => k_is)
    (case ha => k_is)
    (case hn => k_is)
    (case htk => k_is)
    (case hm => k_is)
    (case kC => first | k_is | rfl | decide +kernel)
    (case kL => first | k_is | rfl | decide +kernel)
    (case kD => first | k_is | rfl | decide +kernel)
    (case nfL => first | k_is | rfl | decide +kernel)
    (case nfD => first | k_is | rfl | decide +kernel)
    (case xN => k_is)
    (case rN => decide +kernel)
    (case nsa => k_is)
    (case nga => k_is)
    (case ngg => k_is)
    (case nnN => k_is)
    (case niC => k_is)
    (case ntC => k_is)
    (case nkC => k_is)
    (case nex => k_is)
    (case nve => k_is)
    (case nty => k_is)
    (case nhd => k_is)
    (case nte => first | k_is | rfl | decide +kernel)
    (case nme => first | k_is | rfl | decide +kernel)
    (case nup => first | k_is | rfl | decide +kernel)
    (case nno => k_is)
    (case nf1 => k_is)
    (case nf2 => k_is)
    (case nf3 => k_is)
    (case nf4 => rfl)
    (case nf5 => rfl)
    (case nf6 => rfl)
    (case nf7 => k_is)
    (case z_super => k_is)
    (case z_int => k_is)
    (case z_list => k_is)
    (case z_tuple => k_is)
    (case z_len => k_is)
    (case z_isinstance => k_is)
    (case z_dict => k_is)
    (case z_sorted => k_is)
    (case z_all => k_is)
    (case z_zip => k_is)
    (case z_range => k_is)
    (case z_bool => k_is)
#print axioms PySem.Challenge.cw_optwright_k81_names_holds
