import PyProof.Rows.All
import Wide.All
import OpenK.AllK
import Wide.FinOn
import HandS.Base
import HandS.Call
import HandS.List
import HandS.Comp
import HandS.Dict
import HandS.Words
import KE.KEqDict
import PySem.Challenge.RW_optwright_k46_long_words_cut
import HandS.IsInst
import HandS.Zip
import HandS.Walk
import HandS.Style
import HandS.Iter
import HandS.StrMore
import HandS.Text
import HandS.More
import HandS.Conv
import HandS.ListItems
import HandS.Defaults
import HandS.WordsDict
import KE.GoesMore
import HandS.Replace
import HandS.ReplaceLit
import PyProof.ToksMono
import HandS.Deep
import HandS.MakeKwOnly
import KE.KRevSl
import HandS.Steps
import HandS.RaiseMore
import HandS.WideBits
import PyProof.StrLawsWords
import HandS.FltList
import HandS.Flt
import PyProof.StrLawsTight
import PyProof.StrCalls6
import PyProof.Rows.StrCut
import PyProof.NeKinds
import HandS.Head0
import HandS.Head1
import HandS.Head2
import HandS.HeadEnd
import HandS.HeadHook1
import HandS.HeadHook2
import HandS.HeadWalk
import HandS.HeadHook3
import HandS.HeadHook4
set_option Elab.async false
set_option linter.all false
set_option maxRecDepth 100000
set_option maxHeartbeats 0
namespace L2
open PySem PySem.Spec PyProof.Rows
/-- what == of two dicts tells, by their data -/
def eqHits (ld : List (Key × PyData)) : List (Key × PyData) → Bool
  | [] => true
  | (k, d) :: r => match (ld.find? fun kv => decide (kv.1 = k)).map (·.2) with
    | none => false
    | some e => PyData.eqv d e && eqHits ld r
/-- a dict's values by their data -/
def DPairs (K : PySem.W.Frag) (H : Hp) : List (Key × V) → List (Key × PyData) → Prop := Paired fun p q => p.1 = q.1 ∧ Dp K H p.2 q.2 ∧ SeqAt.shaped q.2 = true
theorem DPairs.val {K : PySem.W.Frag} {H : Hp} {ls : List (Key × V)} {ld : List (Key × PyData)} (r : DPairs K H ls ld) (k : Key) :
    (valV ls k = none ∧ (ld.find? fun kv => decide (kv.1 = k)).map (·.2) = none) ∨ ∃ v e, valV ls k = some v ∧ (ld.find? fun kv => decide (kv.1 = k)).map (·.2) = some e ∧ Dp K H v e ∧ SeqAt.shaped e = true := by
  unfold DPairs at r
  unfold valV
  induction r with
  | nil => exact .inl ⟨rfl, rfl⟩
  | @cons p q ps qs h t ih =>
    obtain ⟨h1, h2, h3⟩ := h
    rw [List.find?_cons, List.find?_cons, ← h1]
    by_cases e : p.1 = k
    · rw [decide_eq_true e]
      exact .inr ⟨p.2, q.2, rfl, rfl, h2, h3⟩
    · rw [decide_eq_false e]
      exact ih
section
variable {X : Cx} {pins : List (Addr × Obj)} {σ : St} {H : Hp} {s : Shared}
theorem hits_of (I : Inv X pins σ H s) {A : Around} (hu : A.in1.units + 64 < cLine) {ls : List (Key × V)} {ld : List (Key × PyData)} (rl : DPairs X.K H ls ld) {vb : List (Key × Value)} (rb : KV ls vb) {ks : List (Key × V)} {kd : List (Key × PyData)} (rk : DPairs X.K H ks kd) :
    ∀ {va : List (Key × Value)}, KV ks va → PySem.W.KeqHits A.in1 s vb va (eqHits ld kd) := by
  unfold DPairs at rk
  induction rk with
  | nil =>
    intro va ra
    cases ra
    exact .nil
  | @cons p q ps qs h t ih =>
    intro va ra
    cases ra with
    | @cons _ u _ us r1 r2 =>
      obtain ⟨key, v⟩ := u
      obtain ⟨pk, pv'⟩ := p
      obtain ⟨qk, qd⟩ := q
      obtain ⟨h1, h2, h3⟩ := h
      obtain ⟨e1, rv⟩ := r1
      dsimp only at h1 h2 h3 e1 rv
      subst h1
      subst e1
      have rr := rb.val pk
      show PySem.W.KeqHits A.in1 s vb ((pk, v) :: us) (match (ld.find? fun kv => decide (kv.1 = pk)).map (·.2) with
        | none => false
        | some e => PyData.eqv qd e && eqHits ld qs)
      rcases rl.val pk with ⟨n1, n2⟩ | ⟨y, e, s1, s2, s3, s4⟩
      · rw [n2]
        rw [n1] at rr
        refine .miss ?_
        cases hz : valueAt vb pk with
        | none => rfl
        | some z =>
          rw [hz] at rr
          exact rr.elim
      · rw [s2]
        rw [s1] at rr
        obtain ⟨yu, hy, ry⟩ := rr.some_of
        obtain ⟨as, q1⟩ := Dp.reads I qd pv' v h2 rv
        obtain ⟨bs, q2⟩ := Dp.reads I e y yu s3 ry
        exact .hit hy (PySem.W.keq_at q1 q2 h3 s4 hu) (ih r2)
end
section
variable {X : Cx}
/-- a == b of two dicts of data -/
def rEqDD (K : PySem.W.Frag) : R2 := fun x y H Q => ∃ a b ks ls kd ld, x = .ref a ∧ y = .ref b ∧ H a = some (.dK ks) ∧ H b = some (.dK ls) ∧ DPairs K H ks kd ∧ DPairs K H ls ld ∧ Q (.bl (kd.length == ld.length && eqHits ld kd)) H
theorem op_eqDD (hu : X.A.units + 70 < cLine) : OpR X (compareOp .Eq) (rEqDD X.K) := by
  intro pins s σ H x y v u Q I rx ry h
  obtain ⟨a, b, ks, ls, kd, ld, rfl, rfl, ha, hb, dk, dl, q⟩ := h
  cases rx
  cases ry
  obtain ⟨_, ya, va, ra, da⟩ := (show ObjOk X.prog X.w H s.heap a (.dK ks) from I.hok a _ ha)
  obtain ⟨_, yb, vb, rb, db⟩ := (show ObjOk X.prog X.w H s.heap b (.dK ls) from I.hok b _ hb)
  show wpAny (model X.prog X.w) X.A (richCompare .Eq (.ref a) (.ref b)) (EP X pins σ Q) X.xe s
  refine PySem.W.keq_eq (knd := mixKind X.prog X.w) (r := eqHits ld kd) ya yb da db (by omega) (fun _ => hits_of I (by show X.A.units + 1 + 64 < cLine; omega) dl rb dk ra) ?_
  have e1 : va.length = kd.length := by rw [← ra.length]; exact Paired.length dk
  have e2 : vb.length = ld.length := by rw [← rb.length]; exact Paired.length dl
  rw [e1, e2]
  exact ⟨.bl _, H, I, rfl, q⟩
/-- what stands right of an own == -/
inductive TyE (H : Hp) : V → Value → Prop where
  | ins {b C dy : Addr} {gs : List (Str × V)} (h : H b = some (.ins C dy gs)) : TyE H (.ref b) (.ref C)
  | lst {b : Addr} {xs : List V} (h : H b = some (.lst xs)) : TyE H (.ref b) (.type "list")
  | dct {b : Addr} {kvs : List (Key × V)} (h : H b = some (.dK kvs)) : TyE H (.ref b) (.type "dict")
theorem looks_obj {M : Model} {h : Heap} {a : Addr} {o : Obj} (e : h.get? a = some o) : PySem.W.Looks M h (typeOf (.ref a)) o.cls := (PySem.W.Looks.ld e).andThen .now
/-- x == y, x an instance of the class at C with its own == -/
def rOwnEq (K : PySem.W.Frag) (C : Addr) (sp : Sp) : R2 := fun x y H Q => ∃ a dx fs tb, x = .ref a ∧ H a = some (.ins C dx fs) ∧ TyE H y tb ∧ PySem.W.notFirst K C tb = true ∧ sp [x, y] H (fun v H' => ∃ b, v = .bl b ∧ Q v H') (fun _ _ _ => False)
theorem op_ownEq {CX : CXT} {n : Nat} {C f : Addr} {fd : FuncData} {ps : List Str} {sp : Sp} (F : FnOk X.prog X.w X.K X.mg X.base CX n f fd ps sp) (hr : Room n X.A)
    (hs : PySem.W.findIn X.K (.ref C) "__eq__" = some (some (.ref f))) (hf : PySem.W.isFn X.K (.ref f) = true) (hb : Binds X.K fd ps []) (hx : Passes CX X (fun _ _ _ => False)) : OpR X (compareOp .Eq) (rOwnEq X.K C sp) := by
  intro pins s σ H x y u v Q I rx ry h
  obtain ⟨a, dx, fs, tb, rfl, ha, ty, nf, hsp⟩ := h
  cases rx
  obtain ⟨mA, J, _⟩ := ins_get I.hok ha
  obtain ⟨od, J, _⟩ := J.look
  obtain ⟨m, hF⟩ := I.fr
  have hty : PySem.W.Looks (model X.prog X.w) s.heap (typeOf v) tb := by
    cases ty with
    | @ins b C dy gs hb' =>
      cases ry
      obtain ⟨mB, J', _⟩ := ins_get I.hok hb'
      obtain ⟨od', J', _⟩ := J'.look
      exact J'.type
    | @lst b xs e =>
      cases ry
      obtain ⟨_, _, n, _, h1⟩ := (show ObjOk X.prog X.w H s.heap b (.lst xs) from I.hok b _ e)
      exact looks_obj h1
    | @dct b kvs e =>
      cases ry
      obtain ⟨_, _, vs, _, o, es, ep, h1, h2, _⟩ := (show ObjOk X.prog X.w H s.heap b (.dK kvs) from I.hok b _ e)
      rw [← h2.1]
      exact looks_obj h1
  show wpAny (model X.prog X.w) X.A (richCompare .Eq (.ref a) v) (EP X pins σ Q) X.xe s
  refine PySem.W.cmp_K (op := .Eq) (tb := tb) hr.units0 hF I.ok.mod.kin J hty nf hs hf ?_
  have hl := F.len _ _ _ _ hsp
  have r2 : Vals [V.ref a, y] [Value.ref a, v] := .cons rfl (.cons ry .nil)
  refine wpAny_call (codeAny_mono (F.run X.A X.stack s H ⟨[.ref a, v], []⟩ [.ref a, v] [.ref a, y] _ _ hr I.env0 (by
    have := hb s [.ref a, v] I.kIn (by simpa using hl)
    simpa using this) r2 hsp) fun r s' hq => ?_)
  cases r with
  | error e => exact hx pins σ H s e s' I hq
  | ok fl =>
    cases fl with
    | ret w =>
      obtain ⟨z, H', I', rz, b, ez, ex⟩ := I.after hq
      subst ez
      cases rz
      exact ⟨.bl b, H', I', rfl, ex⟩
    | next => exact False.elim hq
    | brk => exact False.elim hq
    | cont => exact False.elim hq
/-- a walk over a list or a tuple -/
def iLT (wa wb : TI) : TI := fun σ H R => wa σ H R ∨ wb σ H R
theorem pi_or {tg it : Expr} {wa wb : TI} (ha : PI X tg it wa) (hb : PI X tg it wb) : PI X tg it (iLT wa wb) :=
  ⟨fun pins s σ H R I h => h.elim (ha.run pins s σ H R I) (hb.run pins s σ H R I)⟩
end
end L2

namespace K46
open PySem L2
/-! ### the text by places -/
def top (i : Nat) : Stmt := PySem.Challenge.pw_optwright_k46_long_words_cut.main.body.getD i (.Pass ⟨0, 0, 0, 0⟩)
abbrev sIsInt : Stmt := top 10
abbrev sIsRow : Stmt := top 11
abbrev sIsVal : Stmt := top 12
abbrev sCop : Stmt := top 13
abbrev sIsKind : Stmt := top 14
abbrev sKindName : Stmt := top 15
abbrev sKeys : Stmt := top 25
abbrev sIsFlag : Stmt := top 26
abbrev sHasGap : Stmt := top 27
abbrev sChkFlags : Stmt := top 28
abbrev sNamed : Stmt := top 29
abbrev sWithF : Stmt := top 30
abbrev sFits : Stmt := top 31
abbrev sChkWords : Stmt := top 32
abbrev sChkOpts : Stmt := top 33
abbrev sDflt : Stmt := top 34
abbrev sMadeArg : Stmt := top 35
abbrev sIsSigns : Stmt := top 84
abbrev sIsShown : Stmt := top 37
abbrev sChoicesOf : Stmt := top 38
abbrev sBraced : Stmt := top 39
abbrev sShownNames : Stmt := top 40
abbrev sWordsOf : Stmt := top 41
abbrev sWithWords : Stmt := top 42
abbrev sHeadOf : Stmt := top 43
abbrev sFilled : Stmt := top 45
abbrev sHasWords : Stmt := top 46
abbrev sLaidOut : Stmt := top 47
abbrev sKeptLines : Stmt := top 48
abbrev sDescribed : Stmt := top 49
abbrev sSqueezed : Stmt := top 50
abbrev sBarePart : Stmt := top 53
abbrev sPartOf : Stmt := top 54
abbrev sMarked : Stmt := top 55
abbrev sPartsOf : Stmt := top 56
abbrev sTaken : Stmt := top 57
abbrev sUsageLines : Stmt := top 58
abbrev sUsageText : Stmt := top 59
abbrev sFormatUsage : Stmt := top 60
abbrev sTellsDef : Stmt := top 64
abbrev sValuesOf : Stmt := top 65
abbrev sHelpOf : Stmt := top 66
abbrev sCmdRows : Stmt := top 67
abbrev sSecRows : Stmt := top 68
abbrev sRowText : Stmt := top 69
abbrev sSecText : Stmt := top 70
abbrev sFormatHelp : Stmt := top 71
abbrev sDraw : Stmt := top 88
abbrev sStart : Stmt := top 89
abbrev sPick : Stmt := top 90
abbrev sLaw : Stmt := top 92
abbrev sArgI : Stmt := inClass (top 24) 0
abbrev sSecI : Stmt := inClass (top 79) 0
abbrev sExcI : Stmt := inClass (top 78) 0
abbrev sParI : Stmt := inClass (top 85) 0
abbrev sAdd : Stmt := inClass (top 85) 2
abbrev sAddTo : Stmt := inClass (top 85) 3
abbrev sJoin : Stmt := inClass (top 85) 4
abbrev sTake : Stmt := inClass (top 85) 5
abbrev sAddGroup : Stmt := inClass (top 85) 6
abbrev sParFH : Stmt := inClass (top 85) 18
abbrev sParFU : Stmt := inClass (top 85) 17
/-! ### what is never reached -/
theorem pss_never {X : Cx} {ss : List Stmt} : PSs X ss (fun _ _ _ => False) := ⟨fun _ _ _ _ _ _ h => h.elim⟩
theorem ps_never {X : Cx} {st : Stmt} : PS X st (fun _ _ _ => False) := ⟨fun _ _ _ _ _ _ h => h.elim⟩
theorem pe_never {X : Cx} {e : Expr} : PE X e (fun _ _ _ => False) := ⟨fun _ _ _ _ _ _ h => h.elim⟩
/-! ### cut: a statement, then the rest, with a word between them -/
def tMid (t u : TS) : TS := fun D σ H => ∃ M : St → Hp → Prop, t { D with nx := M } σ H ∧ ∀ σ' H', M σ' H' → u D σ' H'
theorem pss_mid {X : Cx} {st : Stmt} {rest : List Stmt} {t u : TS} (h1 : PS X st t) (h2 : PSs X rest u) : PSs X (st :: rest) (tMid t u) := by
  refine ⟨fun pins s σ H D I h => ?_⟩
  rcases h with ⟨M, hm, hu⟩
  refine wpAny_execs_cons (thn (h1.run pins s σ H _ I hm) fun fl s1 q => ?_)
  cases fl <;> first
    | exact q
    | (obtain ⟨σ1, H1, I1, q1⟩ := q
       exact h2.run pins s1 σ1 H1 D I1 (hu σ1 H1 q1))
/-! ### the stream -/
/-- a stream of draws at st, its cells at cl, n draws made -/
structure Strm (H : Hp) (st cl : Addr) (n : Nat) : Prop where
  ex : ∃ (c a : Int) (ns : List Int), H st = some (.lst [.ref cl, .int c, .int (n : Int), .int a]) ∧ H cl = some (.lst (ns.map V.int)) ∧ 0 ≤ a ∧ a < 2147483647 ∧ 0 ≤ c
/-- all but what stands at two places is kept -/
def Kp2 (a b : Addr) (H H' : Hp) : Prop := ∀ q o, H q = some o → q ≠ a → q ≠ b → H' q = some o
theorem Strm.ne {H : Hp} {st cl : Addr} {n : Nat} (S : Strm H st cl n) : st ≠ cl := by
  obtain ⟨c, a, ns, h1, h2, _⟩ := S.ex
  refine ne_of h1 h2 fun e => ?_
  have e2 : [V.ref cl, .int c, .int (n : Int), .int a] = ns.map V.int := HO.lst.inj e
  cases ns with
  | nil => cases e2
  | cons x xs => cases (List.cons.inj e2).1
def SAt (H : Hp) (st cl : Addr) (c : Int) (n : Nat) (a : Int) (ns : List Int) : Prop := H st = some (.lst [.ref cl, .int c, .int (n : Int), .int a]) ∧ H cl = some (.lst (ns.map V.int)) ∧ 0 ≤ a ∧ a < 2147483647 ∧ 0 ≤ c
theorem fmod_lo {i j : Int} (h : 0 < j) : 0 ≤ i.fmod j := by
  rw [Int.fmod_eq_emod_of_nonneg _ (by omega)]
  exact Int.emod_nonneg _ (by omega)
theorem fmod_hi {i j : Int} (h : 0 < j) : i.fmod j < j := by
  rw [Int.fmod_eq_emod_of_nonneg _ (by omega)]
  exact Int.emod_lt_of_pos _ h
theorem fdiv_nn {i j : Int} (h : 0 ≤ i) (hj : 0 < j) : 0 ≤ i.fdiv j := by
  rw [Int.fdiv_eq_ediv_of_nonneg _ (by omega)]
  exact Int.ediv_nonneg h (by omega)
theorem seq0 {α : Type} (x : α) (xs : List α) : seqIndex? 0 (x :: xs).length = some 0 := by
  unfold seqIndex?
  simp
def spDraw : Sp := fun vs H Q _ => ∃ (st cl : Addr) (n : Nat) (m : Int), vs = [.ref st, .int m] ∧ Strm H st cl n ∧ 0 < m ∧ m < 1000000 ∧ n ≤ 100000 ∧
  ∀ (k : Int) (H' : Hp), 0 ≤ k → k < m → Strm H' st cl (n + 1) → Kp2 st cl H H' → Q (.int k) H'
/-- names of the top that the walk asks -/
structure TxtB (mg : Str → Option Value) : Prop where
  int : mg "int" = none
  list : mg "list" = none
  tuple : mg "tuple" = none
  len : mg "len" = none
  isinstance : mg "isinstance" = none
  dict : mg "dict" = none
  sorted : mg "sorted" = none
  all : mg "all" = none
  zip : mg "zip" = none
  range : mg "range" = none
  bool : mg "bool" = none
theorem shaped_ints (ns : List Int) : SeqAt.shaped (.list (ns.map PyData.int)) = true := PySem.W.shaped_ints ns
theorem dpAll_ints {K : PySem.W.Frag} {H : Hp} : ∀ ns : List Int, DpAll K H (ns.map V.int) (ns.map PyData.int)
  | [] => .nil
  | n :: ns => .cons (.int n) (dpAll_ints ns)
section
variable {P : Program} {w : World} {K : PySem.W.Frag} {mg : Str → Option Value} {base : Heap}
theorem scDraw : FnScope ["_law_stream", "_law_many", "_law_digit", "_law_mixed"] ["_law_stream", "_law_many"] (defScope sDraw) := ⟨rfl, rfl, rfl, by decide +kernel, rfl, by decide +kernel, by decide +kernel⟩
theorem ok_draw {f : Addr} {fd : FuncData} (F : Fun K "_law_draw" "_law_draw" sDraw f fd) (T : TxtB mg) : FnOk P w K mg base CX0 1 f fd ["_law_stream", "_law_many"] spDraw := by
  refine F.ok scDraw (fun vs H Q E h => ?_) (fun cdv A outer s H vs Q E hr h => ?_)
  · obtain ⟨st, cl, n, m, rfl, _⟩ := h
    rfl
  · obtain ⟨st, cl, n, m, rfl, S, m0, m1, hn, k⟩ := h
    have ne := S.ne
    obtain ⟨c, a, ns, h1, h2, a0, a1, c0⟩ := S.ex
    have hu : (Cx.A (cxOf CX0 P w K mg base ["_law_stream", "_law_many", "_law_digit", "_law_mixed"] "_law_draw" (defScope sDraw) f cdv A outer s H E)).units + 64 < cLine := hr.units
    refine ⟨_, pss_mid (ps_asg (pe_op op_add (pe_ix ix_list (pv 0) pe_int (fun _ _ => rfl)) pe_int) (pg_sub (pv 0) pe_int set_list))
      (pss_mid (ps_if (PW.pt (pw_and (pt_cmpR op_eq (pe_ix ix_list (pv 0) pe_int (fun _ _ => rfl)) pe_int (nomark _)) (pw_and1 (pt_cmpR (op_neD hu) (pe_ix ix_list (pv 0) pe_int (fun _ _ => rfl)) (pe_lst pa_nil) (nomark _)))))
        (pss_mid (ps_asg (pe_bm PySem.F.plainAttrs_list PySem.F.slot_list_pop PySem.F.type_list_pop mt_popAt (pe_ix ix_list (pv 0) pe_int (fun _ _ => rfl)) (pa_cons pe_int pa_nil)) (pg_sub (pv 0) pe_int set_list))
          (pss_one (ps_if (pt_cmpR op_lt (pe_ix ix_list (pv 0) pe_int (fun _ _ => rfl)) (pe_op op_pow pe_int pe_int) (nomark _))
            (pss_mid (ps_asg (pe_op op_modN (pe_callTy call_int1 (by rfl) T.int (by decide +kernel) (pa_cons (pe_op op_add (pe_op op_add (pe_op op_mul (pe_ix ix_list (pv 0) pe_int (fun _ _ => rfl)) pe_int) (pe_ix ix_list (pv 0) pe_int (fun _ _ => rfl))) pe_int) pa_nil)) pe_int) (pg_sub (pv 0) pe_int set_list))
              (pss_one (ps_asg pe_int (pg_sub (pv 0) pe_int set_list)))) pss_nil))) pss_nil)
      (pss_cons (ps_if (pt_cmpR op_gt (pe_ix ix_list (pv 0) pe_int (fun _ _ => rfl)) pe_int (nomark _))
        (pss_cons (ps_set (i := 2) scDraw.nd rfl (Or.inl rfl) (pe_op op_modN (pe_callTy call_int1 (by rfl) T.int (by decide +kernel) (pa_cons (pe_ix ix_list (pv 0) pe_int (fun _ _ => rfl)) pa_nil)) (pv 1)))
          (pss_cons (ps_asg (pe_op op_fdivN (pe_ix ix_list (pv 0) pe_int (fun _ _ => rfl)) (pv 1)) (pg_sub (pv 0) pe_int set_list)) (pss_one (ps_ret (pv 2))))) pss_nil)
      (pss_cons (ps_set (i := 3) scDraw.nd rfl (Or.inl rfl) (pe_op op_modN (pe_op op_pow (pe_op op_add (pe_op op_add (pe_ix ix_list (pv 0) pe_int (fun _ _ => rfl)) (pe_op op_mul pe_int (pe_ix ix_list (pv 0) pe_int (fun _ _ => rfl)))) pe_int) pe_int) pe_int))
      (pss_one (ps_ret (pe_op op_modN (pe_op op_modN (pe_op op_pow (pe_op op_add (pe_op op_add (pe_op op_mul (pv 3) pe_int) (pe_op op_mul (pe_op op_mul pe_int (pe_ix ix_list (pv 0) pe_int (fun _ _ => rfl))) (pe_ix ix_list (pv 0) pe_int (fun _ _ => rfl)))) pe_int) pe_int) pe_int) (pv 1))))))), ?_⟩
    -- stream[2] = stream[2] + 1
    refine ⟨fun σ' H' => σ' = [some (.ref st), some (.int m), none, none] ∧ Kp2 st cl H H' ∧ SAt H' st cl c (n + 1) a ns, ?_, ?_⟩
    · refine ⟨_, rfl, st, _, _, _, rfl, rfl, SqL.of h1, rfl, _, _, rfl, rfl, _, rfl, st, _, _, 2, rfl, rfl, h1, rfl, rfl, ?_, upd_same, ?_, a0, a1, c0⟩
      · intro q o e n1 n2
        rw [upd_ne n1]
        exact e
      · rw [upd_ne ne.symm]
        exact h2
    rintro _ G ⟨rfl, gk, g1, g2, _, _, _⟩
    -- the cell
    refine ⟨fun σ' H' => σ' = [some (.ref st), some (.int m), none, none] ∧ Kp2 st cl H H' ∧ ∃ (c a : Int) (ns : List Int), SAt H' st cl c (n + 1) a ns, ?_, ?_⟩
    · refine ⟨_, rfl, st, _, _, _, rfl, rfl, SqL.of g1, rfl, rfl, _, rfl, ?_⟩
      refine ite2 (fun hc => ?_) (fun hc => ?_)
      · have c0' : c = 0 := by simpa using hc
        refine ⟨_, rfl, st, _, _, _, rfl, rfl, SqL.of g1, rfl, Nat.zero_le _, fun p hp => ?_⟩
        have np : st ≠ p := ne_of_none g1 hp
        have np2 : cl ≠ p := ne_of_none g2 hp
        have q1 : (upd G p (.lst [])) st = some (.lst [.ref cl, .int c, .int ((n + 1 : Nat) : Int), .int a]) := by rw [upd_ne np]; exact g1
        have q2 : (upd G p (.lst [])) cl = some (.lst (ns.map V.int)) := by rw [upd_ne np2]; exact g2
        have qk : Kp2 st cl H (upd G p (.lst [])) := fun q o e n1 n2 => by
          have e1 := gk q o e n1 n2
          rw [upd_ne (ne_of_none e1 hp)]
          exact e1
        refine ⟨_, _, .lst (SqL.of q2) (dpAll_ints ns), .lst (SqL.of upd_same) .nil, shaped_ints ns, by decide, _, rfl, ?_⟩
        cases ns with
        | nil => exact iteF ⟨rfl, qk, c, a, [], q1, q2, a0, a1, c0⟩
        | cons z zs =>
          refine iteT ?_
          generalize upd G p (.lst []) = G1 at q1 q2 qk
          -- stream[1] = stream[0].pop(0)
          refine ⟨fun σ' H' => σ' = [some (.ref st), some (.int m), none, none] ∧ Kp2 st cl H H' ∧ H' st = some (.lst [.ref cl, .int z, .int ((n + 1 : Nat) : Int), .int a]) ∧ H' cl = some (.lst (zs.map V.int)), ?_, ?_⟩
          · refine ⟨_, rfl, st, _, _, _, rfl, rfl, SqL.of q1, rfl, .inl ⟨rfl, _, SqL.of q2⟩, cl, _, 0, 0, .int z, rfl, rfl, q2, by decide, by decide, seq0 _ _, rfl, _, rfl, st, _, _, 1, rfl, rfl, (by rw [upd_ne ne]; exact q1), rfl, rfl, ?_, upd_same, ?_⟩
            · intro q o e n1 n2
              rw [upd_ne n1, upd_ne n2]
              exact qk q o e n1 n2
            · rw [upd_ne ne.symm, upd_same]
              rfl
          rintro _ G2 ⟨rfl, k2, u1, u2⟩
          refine ⟨_, rfl, st, _, _, _, rfl, rfl, SqL.of u1, rfl, _, _, rfl, rfl, ⟨by decide, by decide, by decide⟩, _, _, rfl, rfl, _, rfl, ?_⟩
          refine ite2 (fun hz => ?_) (fun hz => ?_)
          · refine ⟨fun σ' H' => σ' = [some (.ref st), some (.int m), none, none] ∧ Kp2 st cl H H' ∧ H' cl = some (.lst (zs.map V.int)) ∧ ∃ b, 0 ≤ b ∧ b < 2147483647 ∧ H' st = some (.lst [.ref cl, .int z, .int ((n + 1 : Nat) : Int), .int b]), ?_, ?_⟩
            · refine ⟨_, rfl, st, _, _, _, rfl, rfl, SqL.of u1, rfl, _, _, rfl, rfl, .inr ⟨by decide, by decide⟩, _, rfl, st, _, _, _, rfl, rfl, SqL.of u1, rfl, _, _, rfl, rfl, _, _, rfl, rfl, .inl ⟨_, rfl, _, _, rfl, rfl, (by show (2147483647 : Int) ≠ 0; decide), ?_⟩⟩
              refine ⟨_, rfl, st, _, _, 3, rfl, rfl, u1, rfl, rfl, ?_, ?_, _, ?_, ?_, upd_same⟩
              · intro q o e n1 n2
                rw [upd_ne n1]
                exact k2 q o e n1 n2
              · rw [upd_ne ne.symm]
                exact u2
              · exact fmod_lo (by decide)
              · exact fmod_hi (by decide)
            · rintro _ G3 ⟨rfl, k3, v2, b, b0, b1, v1⟩
              refine ⟨_, rfl, st, _, _, 1, rfl, rfl, v1, rfl, rfl, ?_, 0, b, zs, upd_same, ?_, b0, b1, Int.le_refl 0⟩
              · intro q o e n1 n2
                rw [upd_ne n1]
                exact k3 q o e n1 n2
              · rw [upd_ne ne.symm]
                exact v2
          · refine ⟨rfl, k2, z, a, zs, u1, u2, a0, a1, ?_⟩
            have hz' : ¬ z < (10 : Int) ^ (18 : Int).toNat := by simpa using hz
            have : (0 : Int) ≤ (10 : Int) ^ (18 : Int).toNat := by decide
            omega
      · exact iteF ⟨rfl, gk, c, a, ns, g1, g2, a0, a1, c0⟩
    rintro _ G2 ⟨rfl, kk, c, a, ns, h1, h2, a0, a1, c0⟩
    -- a digit
    refine ⟨_, rfl, st, _, _, _, rfl, rfl, SqL.of h1, rfl, _, _, rfl, rfl, _, rfl, ?_⟩
    refine ite2 (fun hc => ?_) (fun hc => ?_)
    · refine ⟨_, rfl, st, _, _, _, rfl, rfl, SqL.of h1, rfl, .inl ⟨_, rfl, _, rfl, _, _, rfl, rfl, (by show m ≠ 0; omega), ?_⟩⟩
      refine ⟨_, rfl, st, _, _, _, rfl, rfl, SqL.of h1, rfl, _, rfl, _, _, rfl, rfl, ⟨(by show m ≠ 0; omega), (by show m.natAbs < 1073741824; omega)⟩, _, rfl, st, _, _, 1, rfl, rfl, h1, rfl, ?_⟩
      refine ⟨_, rfl, k _ _ (fmod_lo m0) (fmod_hi m0) ⟨Int.fdiv c m, a, ns, upd_same, ?_, a0, a1, fdiv_nn c0 m0⟩ ?_⟩
      · rw [upd_ne ne.symm]
        exact h2
      · intro q o e n1 n2
        rw [upd_ne n1]
        exact kk q o e n1 n2
    -- mixed
    have nb : ((n + 1 : Nat) : Int) ≤ 100001 := by omega
    have n0 : (0 : Int) ≤ ((n + 1 : Nat) : Int) := by omega
    refine ⟨_, rfl, st, _, _, _, rfl, rfl, SqL.of h1, rfl, _, rfl, st, _, _, _, rfl, rfl, SqL.of h1, rfl, _, _, rfl, rfl, .inl ⟨by decide, by decide⟩, _, _, rfl, rfl, _, _, rfl, rfl, _, _, rfl, rfl, ⟨by decide, by decide, ?_⟩, _, _, rfl, rfl, (by show (2147483629 : Int) ≠ 0; decide), ?_⟩
    · show (a + 104729 * ((n + 1 : Nat) : Int) + 17).natAbs < 2 ^ 64
      omega
    have y0 : (0 : Int) ≤ ((a + 104729 * ((n + 1 : Nat) : Int) + 17) ^ (5 : Int).toNat).fmod 2147483629 := fmod_lo (by decide)
    have y1 : ((a + 104729 * ((n + 1 : Nat) : Int) + 17) ^ (5 : Int).toNat).fmod 2147483629 < 2147483629 := fmod_hi (by decide)
    -- the answer
    refine ⟨_, rfl, _, _, rfl, rfl, .inl ⟨?_, ?_⟩, _, rfl, st, _, _, _, rfl, rfl, SqL.of h1, rfl, _, _, rfl, rfl, .inl ⟨by decide, by decide⟩, _, rfl, st, _, _, _, rfl, rfl, SqL.of h1, rfl, _, _, rfl, rfl, .inl ⟨?_, ?_⟩, _, _, rfl, rfl, _, _, rfl, rfl, _, _, rfl, rfl, ⟨by decide, by decide, ?_⟩, _, _, rfl, rfl, (by show (1000000007 : Int) ≠ 0; decide), _, rfl, _, _, rfl, rfl, (by show m ≠ 0; omega), ?_⟩
    · show -(2 ^ 64) < ((a + 104729 * ((n + 1 : Nat) : Int) + 17) ^ (5 : Int).toNat).fmod 2147483629
      generalize ((a + 104729 * ((n + 1 : Nat) : Int) + 17) ^ (5 : Int).toNat).fmod 2147483629 = y at y0 y1 ⊢
      omega
    · show ((a + 104729 * ((n + 1 : Nat) : Int) + 17) ^ (5 : Int).toNat).fmod 2147483629 < 2 ^ 64
      generalize ((a + 104729 * ((n + 1 : Nat) : Int) + 17) ^ (5 : Int).toNat).fmod 2147483629 = y at y0 y1 ⊢
      omega
    · show -(2 ^ 64) < 40503 * ((n + 1 : Nat) : Int)
      omega
    · show 40503 * ((n + 1 : Nat) : Int) < 2 ^ 64
      omega
    · show (((a + 104729 * ((n + 1 : Nat) : Int) + 17) ^ (5 : Int).toNat).fmod 2147483629 * 48271 + 40503 * ((n + 1 : Nat) : Int) * ((n + 1 : Nat) : Int) + 13).natAbs < 2 ^ 64
      generalize ((a + 104729 * ((n + 1 : Nat) : Int) + 17) ^ (5 : Int).toNat).fmod 2147483629 = y at y0 y1 ⊢
      have e1 : 40503 * ((n + 1 : Nat) : Int) * ((n + 1 : Nat) : Int) ≤ 40503 * 100001 * 100001 :=
        Int.mul_le_mul (by omega) nb n0 (by omega)
      have e2 : 0 ≤ 40503 * ((n + 1 : Nat) : Int) * ((n + 1 : Nat) : Int) := Int.mul_nonneg (by omega) n0
      omega
    exact k _ _ (fmod_lo m0) (fmod_hi m0) ⟨c, a, ns, h1, h2, a0, a1, c0⟩ kk
end
end K46

namespace K46
open PySem L2
/-! ### data at addresses of its own -/
mutual
/-- v bears the data d, all its lists and tuples stand in N -/
inductive Dt (N : Hp) : V → PyData → Prop
  | non : Dt N .non .none
  | bl (b : Bool) : Dt N (.bl b) (.bool b)
  | int (i : Int) : Dt N (.int i) (.int i)
  | str (x : Str) : Dt N (.str x) (.str x)
  | lst {a : Addr} {xs : List V} {ds : List PyData} : N a = some (.lst xs) → DtAll N xs ds → Dt N (.ref a) (.list ds)
  | tup {a : Addr} {xs : List V} {ds : List PyData} : N a = some (.tup xs) → DtAll N xs ds → Dt N (.ref a) (.tuple ds)
inductive DtAll (N : Hp) : List V → List PyData → Prop
  | nil : DtAll N [] []
  | cons {v : V} {vs : List V} {d : PyData} {ds : List PyData} : Dt N v d → DtAll N vs ds → DtAll N (v :: vs) (d :: ds)
end
mutual
theorem Dt.mono {N M : Hp} (e : Same N M) : ∀ (d : PyData) (v : V), Dt N v d → Dt M v d
  | .none, _, h => by cases h; exact .non
  | .bool b, _, h => by cases h; exact .bl b
  | .int i, _, h => by cases h; exact .int i
  | .str x, _, h => by cases h; exact .str x
  | .list ds, _, h => by
    cases h with
    | lst h1 h2 => exact .lst (e _ _ h1) (DtAll.mono e ds _ h2)
  | .tuple ds, _, h => by
    cases h with
    | tup h1 h2 => exact .tup (e _ _ h1) (DtAll.mono e ds _ h2)
  | .dict _, _, h => by cases h
theorem DtAll.mono {N M : Hp} (e : Same N M) : ∀ (ds : List PyData) (vs : List V), DtAll N vs ds → DtAll M vs ds
  | [], _, h => by cases h; exact .nil
  | d :: ds, _, h => by
    cases h with
    | cons h1 h2 => exact .cons (Dt.mono e d _ h1) (DtAll.mono e ds _ h2)
end
mutual
theorem Dt.dp {K : PySem.W.Frag} {N : Hp} : ∀ (d : PyData) (v : V), Dt N v d → Dp K N v d
  | .none, _, h => by cases h; exact .non
  | .bool b, _, h => by cases h; exact .bl b
  | .int i, _, h => by cases h; exact .int i
  | .str x, _, h => by cases h; exact .str x
  | .list ds, _, h => by
    cases h with
    | lst h1 h2 => exact .lst (SqL.of h1) (DtAll.dp ds _ h2)
  | .tuple ds, _, h => by
    cases h with
    | tup h1 h2 => exact .tup (SqT.of h1) (DtAll.dp ds _ h2)
  | .dict _, _, h => by cases h
theorem DtAll.dp {K : PySem.W.Frag} {N : Hp} : ∀ (ds : List PyData) (vs : List V), DtAll N vs ds → DpAll K N vs ds
  | [], _, h => by cases h; exact .nil
  | d :: ds, _, h => by
    cases h with
    | cons h1 h2 => exact .cons (Dt.dp d _ h1) (DtAll.dp ds _ h2)
end
theorem DtAll.len {N : Hp} : ∀ {ds : List PyData} {vs : List V}, DtAll N vs ds → vs.length = ds.length
  | [], _, h => by cases h; rfl
  | d :: ds, _, h => by
    cases h with
    | cons h1 h2 => rw [List.length_cons, List.length_cons, DtAll.len h2]
theorem DtAll.get {N : Hp} : ∀ {ds : List PyData} {vs : List V} {i : Nat} {v : V}, DtAll N vs ds → vs[i]? = some v → ∃ d, ds[i]? = some d ∧ Dt N v d
  | [], _, i, v, h, e => by cases h; simp at e
  | d :: ds, _, i, v, h, e => by
    cases h with
    | cons h1 h2 =>
      cases i with
      | zero =>
        simp at e
        subst e
        exact ⟨d, rfl, h1⟩
      | succ i => exact DtAll.get (i := i) h2 (by simpa using e)
theorem DtAll.snoc {N : Hp} : ∀ {ds : List PyData} {vs : List V} {d : PyData} {v : V}, DtAll N vs ds → Dt N v d → DtAll N (vs ++ [v]) (ds ++ [d])
  | [], _, d, v, h, q => by cases h; exact .cons q .nil
  | _ :: ds, _, d, v, h, q => by
    cases h with
    | cons h1 h2 => exact .cons h1 (DtAll.snoc h2 q)
/-! ### heaps apart -/
def emp : Hp := fun _ => none
/-- N stands in H', and is new beside H -/
structure Fresh (H H' N : Hp) : Prop where
  sub : Same N H'
  new : ∀ b o, N b = some o → H b = none
theorem fresh_emp {H H' : Hp} : Fresh H H' emp := ⟨fun _ _ e => (nomatch e), fun _ _ e => (nomatch e)⟩
theorem Fresh.upd {H H' N : Hp} {p : Addr} {o : HO} (F : Fresh H H' N) (hp : H p = none) (h' : H' p = some o) : Fresh H H' (upd N p o) := by
  refine ⟨fun b u e => ?_, fun b u e => ?_⟩
  · by_cases hb : b = p
    · subst hb
      rw [upd_same] at e
      cases e
      exact h'
    · rw [upd_ne hb] at e
      exact F.sub b u e
  · by_cases hb : b = p
    · subst hb
      exact hp
    · rw [upd_ne hb] at e
      exact F.new b u e
def uni (N M : Hp) : Hp := fun b => match N b with
  | some o => some o
  | none => M b
theorem uni_l {N M : Hp} : Same N (uni N M) := fun b o e => by
  unfold uni
  rw [e]
theorem uni_r {N M : Hp} (d : ∀ b o, M b = some o → N b = none) : Same M (uni N M) := fun b o e => by
  unfold uni
  rw [d b o e]
  exact e
theorem uni_or {N M : Hp} {b : Addr} {o : HO} (e : uni N M b = some o) : N b = some o ∨ M b = some o := by
  unfold uni at e
  cases h : N b with
  | some u =>
    rw [h] at e
    exact .inl e
  | none =>
    rw [h] at e
    exact .inr e
theorem same_upd {H : Hp} {p : Addr} {o : HO} (h : H p = none) : Same H (upd H p o) := fun b u e => by
  rw [upd_ne (ne_of_none e h)]
  exact e
theorem same_upd2 {H H1 : Hp} {p : Addr} {o : HO} (x : Same H H1) (h : H1 p = none) : Same H (upd H1 p o) := L2.Same.trans x (same_upd h)
/-- what H does not track may change -/
theorem same_mut {H H1 : Hp} {p : Addr} {o : HO} (x : Same H H1) (h : H p = none) : Same H (upd H1 p o) := fun b u e => by
  rw [upd_ne (ne_of_none e h)]
  exact x b u e
theorem Kp2.same {a b : Addr} {H H' B : Hp} (k : Kp2 a b H H') (s : Same B H) (ha : B a = none) (hb : B b = none) : Same B H' := fun q o e =>
  k q o (s q o e) (ne_of_none e ha) (ne_of_none e hb)
theorem Strm.keep {H H' : Hp} {st cl : Addr} {n : Nat} (S : Strm H st cl n) (e : Same H H') : Strm H' st cl n := by
  obtain ⟨c, a, ns, h1, h2, h3⟩ := S.ex
  exact ⟨c, a, ns, e _ _ h1, e _ _ h2, h3⟩
theorem Kp2.of_same {a b : Addr} {H H' : Hp} (e : Same H H') : Kp2 a b H H' := fun q o h _ _ => e q o h
theorem Kp2.trans {a b : Addr} {H H1 H2 : Hp} (x : Kp2 a b H H1) (y : Kp2 a b H1 H2) : Kp2 a b H H2 := fun q o e n1 n2 => y q o (x q o e n1 n2) n1 n2
theorem Strm.st {H : Hp} {st cl : Addr} {n : Nat} (S : Strm H st cl n) : ∃ o, H st = some o := by
  obtain ⟨c, a, ns, h1, _⟩ := S.ex
  exact ⟨_, h1⟩
theorem Strm.cl {H : Hp} {st cl : Addr} {n : Nat} (S : Strm H st cl n) : ∃ o, H cl = some o := by
  obtain ⟨c, a, ns, _, h2, _⟩ := S.ex
  exact ⟨_, h2⟩
/-! ### start, pick -/
def spStart (K : PySem.W.Frag) : Sp := fun vs H Q _ => ∃ (a : Addr) (ns : List Int), vs = [.ref a] ∧ SqL K H a (ns.map V.int) ∧ ∀ (st cl : Addr) (H' : Hp), H st = none → H cl = none → Same H H' → Strm H' st cl 0 → Q (.ref st) H'
def spPick : Sp := fun vs H Q _ => ∃ (st cl : Addr) (n : Nat) (a : Addr) (xs : List V), vs = [.ref st, .ref a] ∧ Strm H st cl n ∧ H a = some (.lst xs) ∧ a ≠ st ∧ a ≠ cl ∧ xs ≠ [] ∧ xs.length < 1000 ∧ n ≤ 100000 ∧
  ∀ (x : V) (H' : Hp), x ∈ xs → Strm H' st cl (n + 1) → Kp2 st cl H H' → Q x H'
section
variable {P : Program} {w : World} {K : PySem.W.Frag} {mg : Str → Option Value} {base : Heap}
theorem scStart : FnScope ["_law_script"] ["_law_script"] (defScope sStart) := ⟨rfl, rfl, rfl, by decide +kernel, rfl, by decide +kernel, by decide +kernel⟩
theorem ok_start {f : Addr} {fd : FuncData} (F : Fun K "_law_start" "_law_start" sStart f fd) (T : TxtB mg) : FnOk P w K mg base CX0 1 f fd ["_law_script"] (spStart K) := by
  refine F.ok scStart (fun vs H Q E h => ?_) (fun cdv A outer s H vs Q E hr h => ?_)
  · obtain ⟨a, ns, rfl, _⟩ := h
    rfl
  · obtain ⟨a, ns, rfl, hS, k⟩ := h
    refine ⟨_, pss_one (ps_ret (pe_lst (pa_cons (pe_callTy call_list_of (by rfl) T.list (by decide +kernel) (pa_cons (pv 0) pa_nil)) (pa_cons pe_int (pa_cons pe_int (pa_cons pe_int pa_nil)))))), ?_⟩
    refine ⟨_, rfl, a, _, rfl, .inl hS, fun cl hc => ⟨(by show 4 ≤ sizeLine; decide), fun st hs => ?_⟩⟩
    have nc : cl ≠ st := ne_of_none upd_same hs
    have hs0 : H st = none := by
      rw [upd_ne nc.symm] at hs
      exact hs
    exact k st cl _ hs0 hc (same_upd2 (same_upd hc) hs) ⟨0, 0, ns, upd_same, by rw [upd_ne nc, upd_same], by decide, by decide, by decide⟩
theorem scPick : FnScope ["_law_stream", "_law_some"] ["_law_stream", "_law_some"] (defScope sPick) := ⟨rfl, rfl, rfl, by decide +kernel, rfl, by decide +kernel, by decide +kernel⟩
theorem ok_pick {f fD : Addr} {fd fdD : FuncData} (F : Fun K "_law_pick" "_law_pick" sPick f fd) (T : TxtB mg) (G : FnOk P w K mg base CX0 1 fD fdD ["_law_stream", "_law_many"] spDraw) (mD : mg "_law_draw" = some (.ref fD)) (kD : PySem.W.keepIn K (.ref fD) = true) (bD : Binds K fdD ["_law_stream", "_law_many"] []) :
    FnOk P w K mg base CX0 2 f fd ["_law_stream", "_law_some"] spPick := by
  refine F.ok scPick (fun vs H Q E h => ?_) (fun cdv A outer s H vs Q E hr h => ?_)
  · obtain ⟨st, cl, n, a, xs, rfl, _⟩ := h
    rfl
  · obtain ⟨st, cl, n, a, xs, rfl, S, ha, n1, n2, x0, xl, hn, k⟩ := h
    refine ⟨_, pss_one (ps_ret (pe_ix ix_list (pv 1) (pe_call G hr rfl mD kD bD .nil pass0 (pa_cons (pv 0) (pa_cons (pe_callB call_len_seq (by rfl) T.len PySem.boot_len (pa_cons (pv 1) pa_nil)) pa_nil))) (fun _ _ => rfl))), ?_⟩
    have hx : 0 < xs.length := List.length_pos_iff.mpr x0
    refine ⟨_, rfl, _, rfl, _, rfl, a, xs, rfl, .inl (SqL.of ha), st, cl, n, (xs.length : Int), rfl, S, by omega, by omega, hn, fun j H' j0 j1 S' kk => ?_⟩
    have hj : j.toNat < xs.length := by omega
    have ej : ((j.toNat : Nat) : Int) = j := by omega
    refine ⟨a, xs, j, xs[j.toNat], rfl, rfl, SqL.of (kk _ _ ha n1 n2), ?_, k _ _ (List.getElem_mem hj) S' kk⟩
    have q := atI_nat (xs := xs) (j := j.toNat) (List.getElem?_eq_getElem hj)
    rw [ej] at q
    exact q
end
end K46

namespace K46
open PySem L2
/-! ### copied -/
mutual
def small : PyData → Bool
  | .list xs => decide (xs.length ≤ 1000) && smallAll xs
  | .tuple xs => decide (xs.length ≤ 1000) && smallAll xs
  | _ => true
def smallAll : List PyData → Bool
  | [] => true
  | x :: xs => small x && smallAll xs
end
theorem smallAll_get : ∀ {ds : List PyData} {i : Nat} {d : PyData}, smallAll ds = true → ds[i]? = some d → small d = true
  | [], i, d, _, e => by simp at e
  | x :: xs, i, d, h, e => by
    simp only [smallAll, Bool.and_eq_true] at h
    cases i with
    | zero =>
      simp at e
      subst e
      exact h.1
    | succ i => exact smallAll_get h.2 (by simpa using e)
theorem depthAll_get : ∀ {ds : List PyData} {i : Nat} {d : PyData}, ds[i]? = some d → PyData.depth d ≤ PyData.depthAll ds
  | [], i, d, e => by simp at e
  | x :: xs, i, d, e => by
    simp only [PyData.depthAll]
    cases i with
    | zero =>
      simp at e
      subst e
      omega
    | succ i =>
      have := depthAll_get (ds := xs) (i := i) (d := d) (by simpa using e)
      omega
/-- copied(v), v of nesting below m -/
def spCop : Nat → Sp
  | 0 => fun _ _ _ _ => False
  | m + 1 => fun vs H Q _ => ∃ (v : V) (d : PyData), vs = [v] ∧ Dt H v d ∧ PyData.depth d ≤ m ∧ small d = true ∧ ∀ (v' : V) (N H' : Hp), Same H H' → Fresh H H' N → Dt N v' d → Q v' H'
theorem cop_child {m : Nat} {ds : List PyData} {i : Nat} {d : PyData} (dep : PyData.depth (.list ds) ≤ m) (sz : small (.list ds) = true) (e : ds[i]? = some d) : PyData.depth d + 1 ≤ m ∧ small d = true := by
  simp only [small, Bool.and_eq_true] at sz
  have := depthAll_get e
  simp only [PyData.depth] at dep
  exact ⟨by omega, smallAll_get sz.2 e⟩
theorem cop_child' {m : Nat} {ds : List PyData} {i : Nat} {d : PyData} (dep : PyData.depth (.tuple ds) ≤ m) (sz : small (.tuple ds) = true) (e : ds[i]? = some d) : PyData.depth d + 1 ≤ m ∧ small d = true := by
  simp only [small, Bool.and_eq_true] at sz
  have := depthAll_get e
  simp only [PyData.depth] at dep
  exact ⟨by omega, smallAll_get sz.2 e⟩
theorem cop_size {ds : List PyData} (sz : small (.list ds) = true) : ds.length ≤ 1000 := by
  simp only [small, Bool.and_eq_true] at sz
  simpa using sz.1
theorem cop_size' {ds : List PyData} (sz : small (.tuple ds) = true) : ds.length ≤ 1000 := by
  simp only [small, Bool.and_eq_true] at sz
  simpa using sz.1
theorem sz_lt1 {n i : Nat} (e : n = i) (h : i < 1001) : n < sizeLine := by
  rw [e, PySem.sizeLine_eq]
  omega
/-- behind i items of a copying comprehension: at D the copies, whose parts stand in N -/
def CopI (H : Hp) (D : Addr) (ds : List PyData) (i : Nat) (H' : Hp) : Prop := Same H H' ∧ ∃ (ys : List V) (N : Hp), H' D = some (.lst ys) ∧ N D = none ∧ Fresh H H' N ∧ DtAll N ys (ds.take i)
theorem copI0 {H : Hp} {D : Addr} {ds : List PyData} (hD : H D = none) : CopI H D ds 0 (upd H D (.lst [])) := ⟨same_upd hD, [], emp, upd_same, rfl, fresh_emp, .nil⟩
theorem take_more' {α : Type} : ∀ {l : List α} {i : Nat} {x : α}, l[i]? = some x → l.take (i + 1) = l.take i ++ [x]
  | [], i, x, h => by simp at h
  | a :: l, 0, x, h => by
    have e : a = x := Option.some.inj h
    subst e
    rfl
  | a :: l, i + 1, x, h => by
    have ih := take_more' (l := l) (i := i) (x := x) h
    show a :: l.take (i + 1) = a :: l.take i ++ [x]
    rw [ih]
    rfl
theorem copI_step {H H' H2 N : Hp} {D : Addr} {ds : List PyData} {i : Nat} {dx : PyData} {v' : V} (hD : H D = none) (hdx : ds[i]? = some dx) (h : CopI H D ds i H') (e2 : Same H' H2) (F2 : Fresh H' H2 N) (t2 : Dt N v' dx) :
    ∃ (ys : List V) (N0 : Hp), H2 D = some (.lst ys) ∧ ys.length = i ∧ CopI H D ds (i + 1) (upd H2 D (.lst (ys ++ [v']))) := by
  obtain ⟨s1, ys, N0, hy, nD, F1, t1⟩ := h
  have hlen : i < ds.length := (List.getElem?_eq_some_iff.mp hdx).1
  have hl : ys.length = i := by
    rw [t1.len, List.length_take]
    omega
  have ap : ∀ b o, N b = some o → N0 b = none := fun b o e => by
    have z := F2.new b o e
    cases q : N0 b with
    | none => rfl
    | some u =>
      rw [F1.sub b u q] at z
      cases z
  have nND : N D = none := by
    cases q : N D with
    | none => rfl
    | some u =>
      have z := F2.new D u q
      rw [hy] at z
      cases z
  refine ⟨ys, N0, e2 _ _ hy, hl, same_mut (s1.trans e2) hD, ys ++ [v'], uni N0 N, upd_same, ?_, ⟨fun b o e => ?_, fun b o e => ?_⟩, ?_⟩
  · unfold uni
    rw [nD]
    exact nND
  · have hb : b ≠ D := fun z => by
      rw [z] at e
      rcases uni_or e with q | q
      · rw [nD] at q
        cases q
      · rw [nND] at q
        cases q
    rw [upd_ne hb]
    rcases uni_or e with q | q
    · exact e2 _ _ (F1.sub b o q)
    · exact F2.sub b o q
  · rcases uni_or e with q | q
    · exact F1.new b o q
    · exact Same.free s1 (F2.new b o q)
  · rw [take_more' hdx]
    exact (DtAll.mono uni_l _ _ t1).snoc (Dt.mono (uni_r ap) _ _ t2)
theorem copI_end {H H' : Hp} {D : Addr} {ds : List PyData} {n : Nat} (hn : n = ds.length) (h : CopI H D ds n H') : Same H H' ∧ ∃ (ys : List V) (N : Hp), H' D = some (.lst ys) ∧ N D = none ∧ Fresh H H' N ∧ DtAll N ys ds := by
  obtain ⟨s1, ys, N0, hy, nD, F1, t1⟩ := h
  rw [hn, List.take_length] at t1
  exact ⟨s1, ys, N0, hy, nD, F1, t1⟩
section
variable {P : Program} {w : World} {K : PySem.W.Frag} {mg : Str → Option Value} {base : Heap}

theorem scCop : FnScope ["value", "part"] ["value"] (defScope sCop) := ⟨rfl, rfl, rfl, by decide +kernel, rfl, by decide +kernel, by decide +kernel⟩
theorem stepCop {f : Addr} {fd : FuncData} {m : Nat} (F : Fun K "copied" "copied" sCop f fd) (T : TxtB mg) (G : FnOk P w K mg base CX0 (m + 1) f fd ["value"] (spCop m)) (mC : mg "copied" = some (.ref f)) (kC : PySem.W.keepIn K (.ref f) = true) (bC : Binds K fd ["value"] []) :
    FnOk P w K mg base CX0 (m + 2) f fd ["value"] (spCop (m + 1)) := by
  refine F.ok scCop (fun vs H Q E h => ?_) (fun cdv A outer s H vs Q E hr h => ?_)
  · obtain ⟨v, d, rfl, _⟩ := h
    rfl
  · obtain ⟨v, d, rfl, hd, dep, sz, k⟩ := h
    refine ⟨_, pss_cons (ps_if (pt_val (pe_callB call_isi (by rfl) T.isinstance (by decide +kernel) (pa_cons (pv 0) (pa_cons (pe_bltn (v := .ty "list") (by rfl) T.list (by decide +kernel) rfl) pa_nil))))
        (pss_one (ps_ret (pe_lc (own := [("part", 1)]) (g := gName 1) (tt := tYes) rfl scCop.nd (pi_list (pv 0)) (blkOk_by (N := ["value", "part"]) (sc := defScope sCop) (by decide +kernel)) (fun _ _ _ _ _ => pg_name (i := 1) scCop.nd rfl (Or.inl rfl)) (fun _ _ _ _ _ => pts_nil) (fun _ _ _ _ _ => pe_call G hr rfl mC kC bC .nil pass0 (pa_cons (pv 1) pa_nil))))) pss_nil)
      (pss_one (ps_ret (pe_ifExp (pt_val (pe_callB call_isi (by rfl) T.isinstance (by decide +kernel) (pa_cons (pv 0) (pa_cons (pe_bltn (v := .ty "tuple") (by rfl) T.tuple (by decide +kernel) rfl) pa_nil))))
        (pe_callTy call_tuple_of (by rfl) T.tuple (by decide +kernel) (pa_cons (pe_lc (own := [("part", 1)]) (g := gName 1) (tt := tYes) rfl scCop.nd (pi_tup (pv 0)) (blkOk_by (N := ["value", "part"]) (sc := defScope sCop) (by decide +kernel)) (fun _ _ _ _ _ => pg_name (i := 1) scCop.nd rfl (Or.inl rfl)) (fun _ _ _ _ _ => pts_nil) (fun _ _ _ _ _ => pe_call G hr rfl mC kC bC .nil pass0 (pa_cons (pv 1) pa_nil))) pa_nil))
        (pv 0)))), ?_⟩
    -- isinstance(value, list)
    cases hd with
    | non => exact ⟨_, rfl, _, .ty "list", _, _, false, rfl, .ty _, .base (.non), kit_ty (by decide +kernel), _, rfl, iteF ⟨_, rfl, _, .ty "tuple", _, _, false, rfl, .ty _, .base (.non), kit_ty (by decide +kernel), _, rfl, iteF ⟨_, rfl, k _ emp H (Same.refl H) fresh_emp (.non)⟩⟩⟩
    | bl b => exact ⟨_, rfl, _, .ty "list", _, _, false, rfl, .ty _, .base (.bl b), kit_ty (by decide +kernel), _, rfl, iteF ⟨_, rfl, _, .ty "tuple", _, _, false, rfl, .ty _, .base (.bl b), kit_ty (by decide +kernel), _, rfl, iteF ⟨_, rfl, k _ emp H (Same.refl H) fresh_emp (.bl b)⟩⟩⟩
    | int i => exact ⟨_, rfl, _, .ty "list", _, _, false, rfl, .ty _, .base (.int i), kit_ty (by decide +kernel), _, rfl, iteF ⟨_, rfl, _, .ty "tuple", _, _, false, rfl, .ty _, .base (.int i), kit_ty (by decide +kernel), _, rfl, iteF ⟨_, rfl, k _ emp H (Same.refl H) fresh_emp (.int i)⟩⟩⟩
    | str x => exact ⟨_, rfl, _, .ty "list", _, _, false, rfl, .ty _, .base (.str x), kit_ty (by decide +kernel), _, rfl, iteF ⟨_, rfl, _, .ty "tuple", _, _, false, rfl, .ty _, .base (.str x), kit_ty (by decide +kernel), _, rfl, iteF ⟨_, rfl, k _ emp H (Same.refl H) fresh_emp (.str x)⟩⟩⟩
    | @lst a xs ds ha hds =>
      refine ⟨_, rfl, .ref a, .ty "list", _, _, true, rfl, .ty _, .base (.lst ha), kit_ty (by decide +kernel), _, rfl, iteT ?_⟩
      refine ⟨_, rfl, a, rfl, ⟨_, SqL.of ha⟩, fun D hD => ?_⟩
      refine lc_list (K := K) (a := a) (xs := xs) (CopI H D ds) (copI0 hD) (fun i H' _ h => SqL.of (h.1 _ _ ha)) (fun i x H' hx h => ?_) (fun H' h => ?_)
      · obtain ⟨dx, hdx, hx'⟩ := hds.get hx
        obtain ⟨d0, s0⟩ := cop_child dep sz hdx
        obtain ⟨m', rfl⟩ : ∃ m', m = m' + 1 := ⟨m - 1, by omega⟩
        refine ⟨rfl, _, rfl, x, dx, rfl, Dt.mono h.1 _ _ hx', by omega, s0, fun v' N H2 e2 F2 t2 => ?_⟩
        obtain ⟨ys, N0, h1, h2⟩ := copI_step hD hdx h e2 F2 t2
        exact ⟨ys, h1, by have := (List.getElem?_eq_some_iff.mp hx).1; have := hds.len; have := cop_size sz; exact sz_lt1 h2.1 (by omega), h2.2⟩
      · obtain ⟨s1, ys, N, hy, hl, F1, t1⟩ := copI_end hds.len h
        exact k (.ref D) (upd N D (.lst ys)) H' s1 (F1.upd hD hy) (.lst upd_same (DtAll.mono (same_upd hl) _ _ t1))
    | @tup a xs ds ha hds =>
      refine ⟨_, rfl, .ref a, .ty "list", _, _, false, rfl, .ty _, .base (.tup ha), kit_ty (by decide +kernel), _, rfl, iteF ?_⟩
      refine ⟨_, rfl, .ref a, .ty "tuple", _, _, true, rfl, .ty _, .base (.tup ha), kit_ty (by decide +kernel), _, rfl, iteT ?_⟩
      refine ⟨_, rfl, a, rfl, ⟨_, SqT.of ha⟩, fun D hD => ?_⟩
      refine lc_tup (K := K) (a := a) (xs := xs) (CopI H D ds) (copI0 hD) (fun i H' _ h => SqT.of (h.1 _ _ ha)) (fun i x H' hx h => ?_) (fun H' h => ?_)
      · obtain ⟨dx, hdx, hx'⟩ := hds.get hx
        obtain ⟨d0, s0⟩ := cop_child' dep sz hdx
        obtain ⟨m', rfl⟩ : ∃ m', m = m' + 1 := ⟨m - 1, by omega⟩
        refine ⟨rfl, _, rfl, x, dx, rfl, Dt.mono h.1 _ _ hx', by omega, s0, fun v' N H2 e2 F2 t2 => ?_⟩
        obtain ⟨ys, N0, h1, h2⟩ := copI_step hD hdx h e2 F2 t2
        exact ⟨ys, h1, by have := (List.getElem?_eq_some_iff.mp hx).1; have := hds.len; have := cop_size' sz; exact sz_lt1 h2.1 (by omega), h2.2⟩
      · obtain ⟨s1, ys, N, hy, hl, F1, t1⟩ := copI_end hds.len h
        refine ⟨D, ys, rfl, .inl ⟨SqL.of hy, fun l hl2 => ?_⟩⟩
        have nDl : N l = none := by
          cases e : N l with
          | none => rfl
          | some o =>
            rw [F1.sub _ _ e] at hl2
            cases hl2
        exact k (.ref l) (upd N l (.tup ys)) _ (same_upd2 s1 hl2) (Fresh.upd ⟨F1.sub.trans (same_upd hl2), F1.new⟩ (Same.free s1 hl2) upd_same) (.tup upd_same (DtAll.mono (same_upd nDl) _ _ t1))
theorem okCop {f : Addr} {fd : FuncData} (F : Fun K "copied" "copied" sCop f fd) (T : TxtB mg) (mC : mg "copied" = some (.ref f)) (kC : PySem.W.keepIn K (.ref f) = true) (bC : Binds K fd ["value"] []) :
    ∀ m, FnOk P w K mg base CX0 (m + 1) f fd ["value"] (spCop m)
  | 0 => ⟨fun _ _ _ _ h => h.elim, fun _ _ _ _ _ _ _ _ _ _ _ _ _ h => h.elim⟩
  | m + 1 => stepCop F T (okCop F T mC kC bC m) mC kC bC

end
end K46

namespace K46
open PySem L2
/-- the same data read twice, of nesting below m -/
def spSame : Nat → Sp
  | 0 => fun _ _ _ _ => False
  | m + 1 => fun vs H Q _ => ∃ (x y : V) (d : PyData), vs = [x, y] ∧ Dt H x d ∧ Dt H y d ∧ PyData.depth d ≤ m ∧ small d = true ∧ ∀ (H' : Hp), Same H H' → Q (.bl true) H'
theorem walk_zipT {K : PySem.W.Frag} {a b : Addr} {xs ys : List V} {n : Nat} (hn : n = min xs.length ys.length) : Walk (RZ.ItzT K a b) n (fun H => SqT K H a xs ∧ SqT K H b ys) (YPair (fun i => xs[i]?) (fun i => ys[i]?)) := by
  subst hn
  refine ⟨fun i _ hi q => ?_, fun _ q => ⟨xs, ys, q.1, q.2, by omega⟩, fun i H v H' _ q y => ?_⟩
  · exact ⟨xs, ys, xs[i], ys[i], q.1, q.2, by rw [List.getElem?_eq_getElem], by rw [List.getElem?_eq_getElem]⟩
  · obtain ⟨T, x, z, h1, h2, h3, h4, h5⟩ := y
    exact ⟨T, x, z, h1, h2, h3, h4 xs q.1, h5 ys q.2⟩
theorem all_true (n : Nat) : (List.replicate n true).all id = true := by
  rw [List.all_eq_true]
  intro x hx
  exact (List.mem_replicate.mp hx).2
theorem DtAll.at {N : Hp} : ∀ {ds : List PyData} {vs : List V} {i : Nat} {d : PyData}, DtAll N vs ds → ds[i]? = some d → ∃ v, vs[i]? = some v ∧ Dt N v d
  | [], _, i, v, h, e => by simp at e
  | d :: ds, _, i, v, h, e => by
    cases h with
    | cons h1 h2 =>
      cases i with
      | zero =>
        simp at e
        subst e
        exact ⟨_, rfl, h1⟩
      | succ i => exact DtAll.at (i := i) h2 (by simpa using e)
def kitsB (a : String) : List String → Option Bool
  | [] => some false
  | c :: cs => match kitB a c with
    | some true => some true
    | some false => kitsB a cs
    | none => none
theorem kits {K : PySem.W.Frag} {a : String} : ∀ {cs : List String} {r : Bool}, kitsB a cs = some r → PySem.W.kitAny K (.type a) (cs.map Value.type) = some r
  | [], r, h => by
    cases h
    exact kitAny_nil
  | c :: cs, r, h => by
    unfold kitsB at h
    cases e : kitB a c with
    | none =>
      rw [e] at h
      cases h
    | some b =>
      rw [e] at h
      cases b with
      | true =>
        cases h
        exact kitAny_cons (kit_ty e) (fun z => by cases z) (fun _ => rfl)
      | false => exact kitAny_cons (kit_ty e) (fun _ => kits h) (fun z => by cases z)
/-- at D so many True -/
def AllT (H : Hp) (D : Addr) (i : Nat) (H' : Hp) : Prop := Same H H' ∧ H' D = some (.lst ((List.replicate i true).map V.bl))
end K46

namespace K46
open PySem L2 PyProof.Rows
/-! ### a store into a field as a target -/
def gFld (K : PySem.W.Frag) (to : TE) (f : Str) : TG := fun v σ H Q => to σ H fun x H1 => ∃ a C dx fs, x = .ref a ∧ H1 a = some (.ins C dx fs) ∧ Cls K C ∧ NoAttr K C f ∧ fs.length < 1000 ∧ Q σ (upd H1 a (.ins C dx (putF f v fs)))
theorem pg_fld {X : Cx} {o : Expr} {to : TE} {f : Str} {pos : Pos} (ho : PE X o to) : PG X (.Attribute o f pos) (gFld X.K to f) := by
  refine ⟨fun pins s σ H v u Q I r h => PySem.W.kas_attr (thn (ho.run pins s σ H _ I h) fun ov s1 hh => ?_)⟩
  obtain ⟨x, H1, I1, rx, a, C, dx, fs, ex, ea, c, n, l, q⟩ := hh
  subst ex
  obtain rfl : ov = Value.ref a := rx
  exact setattr_ok I1 ea c n l r fun s3 I3 => ⟨σ, _, I3, q⟩
/-! ### comprehensions of bools -/
def BlI {α : Type} (f : α → Bool) (H1 : Hp) (D : Addr) (xs : List α) (i : Nat) (H' : Hp) : Prop := Same H1 H' ∧ H' D = some (.lst ((xs.take i).map fun x => V.bl (f x)))
theorem blI0 {α : Type} {f : α → Bool} {H1 : Hp} {D : Addr} {xs : List α} (hD : H1 D = none) : BlI f H1 D xs 0 (upd H1 D (.lst [])) := ⟨same_upd hD, upd_same⟩
theorem blI_step {α : Type} {f : α → Bool} {H1 H' H2 : Hp} {D : Addr} {xs : List α} {i : Nat} {x : α} {b : Bool} (hD : H1 D = none) (hx : xs[i]? = some x) (h : BlI f H1 D xs i H') (e : Same H' H2) (hb : b = f x) (hs : xs.length ≤ 1000) :
    ∃ acc, H2 D = some (.lst acc) ∧ acc.length < sizeLine ∧ BlI f H1 D xs (i + 1) (upd H2 D (.lst (acc ++ [.bl b]))) := by
  have hi : i < xs.length := (List.getElem?_eq_some_iff.mp hx).1
  refine ⟨_, e _ _ h.2, sz_lt1 (by rw [List.length_map, List.length_take]; omega) (show i < 1001 by omega), same_mut (h.1.trans e) hD, ?_⟩
  rw [upd_same, take_more' hx, List.map_append, hb]
  rfl
theorem blI_end {α : Type} {f : α → Bool} {H1 H' : Hp} {D : Addr} {xs : List α} {n : Nat} (hn : n = xs.length) (h : BlI f H1 D xs n H') : Same H1 H' ∧ H' D = some (.lst ((xs.map f).map V.bl)) := by
  have h2 := h.2
  rw [hn, List.take_length] at h2
  refine ⟨h.1, ?_⟩
  rw [h2, List.map_map]
  rfl
/-! ### is_row, is_integer -/
def spIsRow (K : PySem.W.Frag) : Sp := fun vs H Q _ => ∃ (x : V) (t : String) (b : Bool), vs = [x] ∧ TyX K H x (.type t) ∧ kitsB t ["list", "tuple"] = some b ∧ ∀ H', Same H H' → Q (.bl b) H'
def spIsInt (K : PySem.W.Frag) : Sp := fun vs H Q _ => ∃ (x : V) (t : String) (b c : Bool), vs = [x] ∧ TyX K H x (.type t) ∧ kitB t "int" = some b ∧ kitB t "bool" = some c ∧ Q (.bl (b && !c)) H
theorem TyX.keep {K : PySem.W.Frag} {H H' : Hp} {x : V} {t : String} (e : Same H H') (h : TyX K H x (.type t)) : TyX K H' x (.type t) := by
  cases h with
  | base h =>
    cases h with
    | non => exact .base .non
    | bl x => exact .base (.bl x)
    | int i => exact .base (.int i)
    | str x => exact .base (.str x)
    | flt x => exact .base (.flt x)
    | lst h => exact .base (.lst (e _ _ h))
    | frz h => exact .base (.frz (e _ _ h))
    | tup h => exact .base (.tup (e _ _ h))
    | dK h => exact .base (.dK (e _ _ h))
    | dT h => exact .base (.dT (e _ _ h))
  | byt b => exact .byt b
  | set h => exact .set (e _ _ h)
  | kList h c => exact .kList h c
  | kTuple h c => exact .kTuple h c
  | kDict h c => exact .kDict h c
  | fTuple h => exact .fTuple (e _ _ h)
  | fDict h => exact .fDict (e _ _ h)
section
variable {P : Program} {w : World} {K : PySem.W.Frag} {mg : Str → Option Value} {base : Heap}
theorem scIsRow : FnScope ["thing"] ["thing"] (defScope sIsRow) := ⟨rfl, rfl, rfl, by decide +kernel, rfl, by decide +kernel, by decide +kernel⟩
theorem ok_isRow {f : Addr} {fd : FuncData} (F : Fun K "is_row" "is_row" sIsRow f fd) (T : TxtB mg) : FnOk P w K mg base CX0 1 f fd ["thing"] (spIsRow K) := by
  refine F.ok scIsRow (fun vs H Q E h => ?_) (fun cdv A outer s H vs Q E hr h => ?_)
  · obtain ⟨x, t, b, rfl, _⟩ := h
    rfl
  · obtain ⟨x, t, b, rfl, tx, hb, k⟩ := h
    refine ⟨_, pss_one (ps_ret (pe_callB call_isiT (by rfl) T.isinstance (by decide +kernel) (pa_cons (pv 0) (pa_cons (pe_tup (pa_cons (pe_bltn (v := .ty "list") (by rfl) T.list (by decide +kernel) rfl) (pa_cons (pe_bltn (v := .ty "tuple") (by rfl) T.tuple (by decide +kernel) rfl) pa_nil))) pa_nil)))), ?_⟩
    exact ⟨_, rfl, (by show 2 ≤ sizeLine; decide), fun p hp => ⟨_, p, _, _, _, b, rfl, upd_same, .cons (.ty _) (.cons (.ty _) .nil), TyX.keep (same_upd hp) tx, kits hb, k _ (same_upd hp)⟩⟩
theorem scIsInt : FnScope ["thing"] ["thing"] (defScope sIsInt) := ⟨rfl, rfl, rfl, by decide +kernel, rfl, by decide +kernel, by decide +kernel⟩
theorem ok_isInt {f : Addr} {fd : FuncData} (F : Fun K "is_integer" "is_integer" sIsInt f fd) (T : TxtB mg) : FnOk P w K mg base CX0 1 f fd ["thing"] (spIsInt K) := by
  refine F.ok scIsInt (fun vs H Q E h => ?_) (fun cdv A outer s H vs Q E hr h => ?_)
  · obtain ⟨x, t, b, c, rfl, _⟩ := h
    rfl
  · obtain ⟨x, t, b, c, rfl, tx, hb, hc, k⟩ := h
    refine ⟨_, pss_one (ps_ret (pe_and (pe_callB call_isi (by rfl) T.isinstance (by decide +kernel) (pa_cons (pv 0) (pa_cons (pe_bltn (v := .ty "int") (by rfl) T.int (by decide +kernel) rfl) pa_nil))) (pe_one (pe_not (pe_callB call_isi (by rfl) T.isinstance (by decide +kernel) (pa_cons (pv 0) (pa_cons (pe_bltn (v := .ty "bool") (by rfl) T.bool (by decide +kernel) rfl) pa_nil))))))), ?_⟩
    refine ⟨_, rfl, _, .ty "int", _, _, b, rfl, .ty _, tx, kit_ty hb, b, rfl, ?_⟩
    cases b with
    | true => exact iteT ⟨_, rfl, _, .ty "bool", _, _, c, rfl, .ty _, tx, kit_ty hc, c, rfl, k⟩
    | false => exact iteF k
end
end K46

namespace K46
open PySem L2 PyProof.Rows
/-! ### sorted texts are one list -/
theorem sortedS_pw : ∀ (l : List Str), sortedS l = true → l.Pairwise fun a b => a.cps.toList ≤ b.cps.toList
  | [], _ => .nil
  | [x], _ => .cons (fun _ h => nomatch h) .nil
  | x :: y :: r, h => by
    have h' : (!PySem.Spec.ltCps y.cps.toList x.cps.toList && risingS y r) = true := h
    rw [Bool.and_eq_true] at h'
    have ih := sortedS_pw (y :: r) h'.2
    have xy : x.cps.toList ≤ y.cps.toList := by
      have q := h'.1
      rw [PyProof.Rows.ltCps_eq] at q
      simpa using q
    refine .cons (fun z hz => ?_) ih
    rcases List.mem_cons.mp hz with rfl | hz
    · exact xy
    · exact List.le_trans xy (List.rel_of_pairwise_cons ih hz)
theorem cps_inj {a b : Str} (h : a.cps.toList = b.cps.toList) : a = b := by
  cases a
  cases b
  simp at h
  rw [h]
theorem sorted_one {a b : List Str} (p : a.Perm b) (ha : sortedS a = true) (hb : sortedS b = true) : a = b :=
  p.eq_of_pairwise (fun x y _ _ h1 h2 => cps_inj (List.le_antisymm h1 h2)) (sortedS_pw a ha) (sortedS_pw b hb)
/-! ### the mirror of a dict of data -/
abbrev DD := List (Str × PyData)
def putD (l : DD) (k : Str) (d : PyData) : DD := if (l.any fun p => decide (p.1 = k)) = true then l.map (fun p => if p.1 = k then (p.1, d) else p) else l ++ [(k, d)]
def lookD (l : DD) (k : Str) : Option PyData := (l.find? fun p => decide (p.1 = k)).map (·.2)
def mergeD (l more : DD) : DD := more.foldl (fun a p => putD a p.1 p.2) l
def keysD (l : DD) : List Str := l.map (·.1)
/-- a dict's pairs bear the mirror, their parts stand in N -/
def Held (N : Hp) : List (Key × V) → DD → Prop := PySem.Paired fun p q => p.1 = Sum.inr q.1 ∧ Dt N p.2 q.2
theorem held_mono {N M : Hp} (e : Same N M) : ∀ {kvs : List (Key × V)} {ld : DD}, Held N kvs ld → Held M kvs ld
  | _, _, .nil => .nil
  | _, _, .cons h t => .cons ⟨h.1, Dt.mono e _ _ h.2⟩ (held_mono e t)
theorem held_len {N : Hp} {kvs : List (Key × V)} {ld : DD} (h : Held N kvs ld) : kvs.length = ld.length := PySem.Paired.length h
theorem held_keys {N : Hp} : ∀ {kvs : List (Key × V)} {ld : DD}, Held N kvs ld → kvs.map (·.1) = (keysD ld).map Sum.inr
  | _, _, .nil => rfl
  | _, _, .cons h t => by
    have e := held_keys t
    unfold keysD at e ⊢
    rw [List.map_cons, List.map_cons, List.map_cons, ← e]
    exact congrArg (· :: _) h.1
theorem held_any {N : Hp} (k : Str) : ∀ {kvs : List (Key × V)} {ld : DD}, Held N kvs ld → (kvs.any fun kv => decide (kv.1 = (Sum.inr k : Key))) = ld.any fun p => decide (p.1 = k)
  | _, _, .nil => rfl
  | _, _, .cons h t => by
    rw [List.any_cons, List.any_cons, held_any k t, h.1, key_rr]
theorem held_map {N : Hp} (k : Str) {v : V} {d : PyData} (hv : Dt N v d) : ∀ {kvs : List (Key × V)} {ld : DD}, Held N kvs ld →
    Held N (kvs.map fun kv => if kv.1 = (Sum.inr k : Key) then (kv.1, v) else kv) (ld.map fun p => if p.1 = k then (p.1, d) else p)
  | _, _, .nil => .nil
  | _, _, @PySem.Paired.cons _ _ _ p q ps qs h t => by
    refine .cons ?_ (held_map k hv t)
    dsimp only at h ⊢
    by_cases e : q.1 = k
    · have e2 : p.1 = (Sum.inr k : Key) := by rw [h.1, e]
      rw [if_pos e, if_pos e2]
      exact ⟨h.1, hv⟩
    · have e2 : ¬ p.1 = (Sum.inr k : Key) := fun z => e (Sum.inr.inj (h.1.symm.trans z))
      rw [if_neg e, if_neg e2]
      exact h
theorem held_app {N : Hp} {v : V} {d : PyData} {k : Str} (hv : Dt N v d) : ∀ {kvs : List (Key × V)} {ld : DD}, Held N kvs ld → Held N (kvs ++ [(Sum.inr k, v)]) (ld ++ [(k, d)])
  | _, _, .nil => .cons ⟨rfl, hv⟩ .nil
  | _, _, .cons h t => .cons h (held_app hv t)
theorem held_put {N : Hp} {kvs : List (Key × V)} {ld : DD} {v : V} {d : PyData} {k : Str} (h : Held N kvs ld) (hv : Dt N v d) : Held N (putK kvs (Sum.inr k : Key) v) (putD ld k d) := by
  unfold putK putD
  rw [held_any k h]
  by_cases e : (ld.any fun p => decide (p.1 = k)) = true
  · rw [if_pos e, if_pos e]
    exact held_map k hv h
  · rw [if_neg e, if_neg e]
    exact held_app hv h
theorem held_merge {N : Hp} : ∀ {more : List (Key × V)} {md : DD} {kvs : List (Key × V)} {ld : DD}, Held N more md → Held N kvs ld → Held N (mergeK kvs more) (mergeD ld md)
  | _, _, _, _, .nil, h => h
  | _, _, _, _, @PySem.Paired.cons _ _ _ p q ps qs m t, h => by
    have e := held_put (k := q.1) h m.2
    rw [← m.1] at e
    exact held_merge (more := ps) (md := qs) t e
theorem held_look {N : Hp} (k : Str) : ∀ {kvs : List (Key × V)} {ld : DD}, Held N kvs ld → (lookD ld k = none ∧ valV kvs (Sum.inr k : Key) = none) ∨ ∃ d v, lookD ld k = some d ∧ valV kvs (Sum.inr k : Key) = some v ∧ Dt N v d
  | _, _, .nil => .inl ⟨rfl, rfl⟩
  | _, _, @PySem.Paired.cons _ _ _ p q ps qs h t => by
    unfold lookD valV
    rw [List.find?_cons, List.find?_cons]
    by_cases e : q.1 = k
    · have e2 : p.1 = (Sum.inr k : Key) := by rw [h.1, e]
      rw [decide_eq_true e, decide_eq_true e2]
      exact .inr ⟨q.2, p.2, rfl, rfl, h.2⟩
    · have e2 : ¬ p.1 = (Sum.inr k : Key) := fun z => e (Sum.inr.inj (h.1.symm.trans z))
      rw [decide_eq_false e, decide_eq_false e2]
      exact held_look k t
/-! ### the mirror's own laws -/
theorem any_key {l : DD} {k : Str} : (l.any fun p => decide (p.1 = k)) = true ↔ k ∈ keysD l := by
  unfold keysD
  rw [List.any_eq_true, List.mem_map]
  constructor
  · rintro ⟨p, hp, e⟩
    exact ⟨p, hp, by simpa using e⟩
  · rintro ⟨p, hp, e⟩
    exact ⟨p, hp, by simpa using e⟩
theorem keys_put {l : DD} {k : Str} {d : PyData} : keysD (putD l k d) = if k ∈ keysD l then keysD l else keysD l ++ [k] := by
  unfold putD
  by_cases e : (l.any fun p => decide (p.1 = k)) = true
  · rw [if_pos e, if_pos (any_key.mp e)]
    unfold keysD
    rw [List.map_map]
    apply List.map_congr_left
    intro p _
    show (if p.1 = k then (p.1, d) else p).1 = p.1
    split <;> rfl
  · rw [if_neg e, if_neg (fun z => e (any_key.mpr z))]
    unfold keysD
    rw [List.map_append]
    rfl
theorem nodup_put {l : DD} {k : Str} {d : PyData} (h : (keysD l).Nodup) : (keysD (putD l k d)).Nodup := by
  rw [keys_put]
  split
  · exact h
  · rename_i hk
    rw [List.nodup_append]
    exact ⟨h, by simp, fun a ha b hb e => hk (by rw [List.mem_singleton.mp hb] at e; rw [← e]; exact ha)⟩
theorem len_put {l : DD} {k : Str} {d : PyData} : (putD l k d).length ≤ l.length + 1 := by
  unfold putD
  split
  · rw [List.length_map]
    omega
  · rw [List.length_append]
    simp
theorem all_put {R : PyData → Prop} {l : DD} {k : Str} {d : PyData} (h : ∀ p ∈ l, R p.2) (hd : R d) : ∀ p ∈ putD l k d, R p.2 := by
  intro p hp
  unfold putD at hp
  split at hp
  · obtain ⟨q, hq, e⟩ := List.mem_map.mp hp
    by_cases z : q.1 = k
    · rw [if_pos z] at e
      rw [← e]
      exact hd
    · rw [if_neg z] at e
      rw [← e]
      exact h q hq
  · rcases List.mem_append.mp hp with hp | hp
    · exact h p hp
    · rw [List.mem_singleton.mp hp]
      exact hd
theorem nodup_merge : ∀ {m l : DD}, (keysD l).Nodup → (keysD (mergeD l m)).Nodup
  | [], l, h => h
  | p :: m, l, h => nodup_merge (m := m) (l := putD l p.1 p.2) (nodup_put h)
theorem len_merge : ∀ {m l : DD}, (mergeD l m).length ≤ l.length + m.length
  | [], l => Nat.le_refl _
  | p :: m, l => by
    have h1 := len_merge (m := m) (l := putD l p.1 p.2)
    have h2 := len_put (l := l) (k := p.1) (d := p.2)
    show (mergeD (putD l p.1 p.2) m).length ≤ l.length + (m.length + 1)
    omega
theorem all_merge {R : PyData → Prop} : ∀ {m l : DD}, (∀ p ∈ l, R p.2) → (∀ p ∈ m, R p.2) → ∀ p ∈ mergeD l m, R p.2
  | [], l, h, _ => h
  | p :: m, l, h, hm => all_merge (m := m) (l := putD l p.1 p.2) (all_put h (hm p List.mem_cons_self)) fun q hq => hm q (List.mem_cons_of_mem _ hq)
theorem look_put {l : DD} {k j : Str} {d : PyData} : lookD (putD l k d) j = if j = k then some d else lookD l j := by
  have e1 : ∀ l : DD, lookD (l.map fun p => if p.1 = k then (p.1, d) else p) j = if j = k then (if (l.any fun p => decide (p.1 = k)) = true then some d else none) else lookD l j := by
    intro l
    induction l with
    | nil =>
      show (none : Option PyData) = _
      split
      · rw [if_neg (by simp)]
      · rfl
    | cons p l ih =>
      unfold lookD at ih ⊢
      rw [List.map_cons, List.find?_cons]
      by_cases pk : p.1 = k
      · rw [if_pos pk]
        by_cases jk : j = k
        · rw [if_pos jk, jk, decide_eq_true pk, List.any_cons, decide_eq_true pk]
          rfl
        · have pj : ¬ p.1 = j := fun z => jk (z.symm.trans pk)
          rw [decide_eq_false pj]
          rw [if_neg jk] at ih ⊢
          rw [List.find?_cons, decide_eq_false pj]
          exact ih
      · rw [if_neg pk]
        by_cases pj : p.1 = j
        · have jk : ¬ j = k := fun z => pk (pj.trans z)
          rw [if_neg jk, decide_eq_true pj, List.find?_cons, decide_eq_true pj]
        · rw [decide_eq_false pj, ih, List.any_cons, decide_eq_false pk, Bool.false_or]
          split
          · rfl
          · rw [List.find?_cons, decide_eq_false pj]
  unfold putD
  by_cases e : (l.any fun p => decide (p.1 = k)) = true
  · rw [if_pos e, e1, if_pos e]
  · rw [if_neg e]
    unfold lookD
    rw [List.find?_append]
    by_cases jk : j = k
    · rw [if_pos jk, jk]
      have n : l.find? (fun p => decide (p.1 = k)) = none := by
        rw [List.find?_eq_none]
        intro p hp z
        exact e (List.any_eq_true.mpr ⟨p, hp, z⟩)
      rw [n]
      show ((none : Option (Str × PyData)).or ([(k, d)].find? fun p => decide (p.1 = k))).map (·.2) = some d
      rw [List.find?_cons, decide_eq_true rfl]
      rfl
    · rw [if_neg jk, List.find?_cons, decide_eq_false (fun z : k = j => jk z.symm)]
      show ((l.find? fun p => decide (p.1 = j)).or (List.find? _ [])).map (·.2) = _
      rw [List.find?_nil, Option.or_none]
theorem look_mem {l : DD} {k : Str} {d : PyData} (h : lookD l k = some d) : (k, d) ∈ l := by
  unfold lookD at h
  obtain ⟨p, hp, e⟩ := Option.map_eq_some_iff.mp h
  have h1 := List.mem_of_find?_eq_some hp
  have h2 := List.find?_some (p := fun p : Str × PyData => decide (p.1 = k)) hp
  have h3 : p.1 = k := by simpa using h2
  rw [← h3, ← e]
  exact h1
theorem look_nodup : ∀ {l : DD} {k : Str} {d : PyData}, (keysD l).Nodup → (k, d) ∈ l → lookD l k = some d
  | [], k, d, _, h => nomatch h
  | p :: l, k, d, n, h => by
    have n' : p.1 ∉ keysD l ∧ (keysD l).Nodup := List.nodup_cons.mp n
    unfold lookD
    rw [List.find?_cons]
    rcases List.mem_cons.mp h with rfl | h
    · rw [decide_eq_true rfl]
      rfl
    · have pk : ¬ p.1 = k := fun z => n'.1 (by rw [z]; exact List.mem_map.mpr ⟨_, h, rfl⟩)
      rw [decide_eq_false pk]
      exact look_nodup n'.2 h
theorem look_key {l : DD} {k : Str} (h : k ∈ keysD l) : ∃ d, lookD l k = some d := by
  unfold keysD at h
  obtain ⟨p, hp, e⟩ := List.mem_map.mp h
  unfold lookD
  cases q : l.find? (fun p => decide (p.1 = k)) with
  | some r => exact ⟨r.2, rfl⟩
  | none =>
    rw [List.find?_eq_none] at q
    exact absurd (decide_eq_true e) (q p hp)
theorem key_look {l : DD} {k : Str} {d : PyData} (h : lookD l k = some d) : k ∈ keysD l := List.mem_map.mpr ⟨_, look_mem h, rfl⟩
end K46

/-! enumerate over a tuple -/
namespace PySem
theorem enumT_new {v : Value} {o : Obj} {H : Heap → Prop} (B : Begins v o H) :
    Meets (Builtin.«enumerate.__new__» ⟨[.type "enumerate", v], []⟩) (fun _ R s => H s.heap ∧ R (.ok (.ret (.ref (s.heap.push o).objs.size))) { s with heap := (s.heap.push o).push { cls := .type "enumerate", data := .fields #[.none, .bool false, .ref s.heap.objs.size, rawInt 0, .none, .none] } }) :=
  .of_wp fun prog w A R s h => by
    obtain ⟨hp, g, d, tk, os⟩ := s
    obtain ⟨h1, h⟩ := h
    have hsub := sub_enumerate
    have go : ∀ {A' : Around} {E : Value → Shared → Prop} {Q : Value → Shared → Prop}, Q (.ref hp.objs.size) ⟨hp.push o, g, d, tk, os⟩ → wpAny (model prog w) A' (pyIter v) Q E ⟨hp, g, d, tk, os⟩ := fun q => B.iter prog w _ _ ⟨hp, g, d, tk, os⟩ _ h1 q
    wp_walk using go
    refine wpAny_stack_any fun st => wpAny_pure ?_
    split
    · rename_i c _ _ _ _ _
      cases (c == Value.type "enumerate") <;> (wp_walk using go; exact ⟨_, rfl, h⟩)
    · wp_walk using go
      exact ⟨_, rfl, h⟩
theorem enumT_call {prog : Program} {w : World} {A : Around} {E : Value → Shared → Prop} {s : Shared} {v : Value} {o : Obj} {H : Heap → Prop} {Q : Value → Shared → Prop} (B : Begins v o H) (h1 : H s.heap)
    (h : ∀ h', IsEnum h' (s.heap.objs.size + 1) s.heap.objs.size 0 .none → h'.get? s.heap.objs.size = some o → (∀ b o, s.heap.get? b = some o → h'.get? b = some o) → Q (.ref (s.heap.objs.size + 1)) { s with heap := h' }) :
    wpAny (model prog w) A (call (.type "enumerate") [v]) Q E s := by
  refine callType_new F.called_enumerate (by decide) (F.typeCall_enumerate_1 _) (F.newCall_enumerate_1 _) (fun obj => F.args_object_init_2 obj _) F.entry_enumerate_new (enumT_new B) ⟨h1, ?_⟩
  have hz : (s.heap.push o).objs.size = s.heap.objs.size + 1 := Heap.size_push ..
  show _ ∧ _
  rw [hz]
  have he : IsEnum ((s.heap.push o).push { cls := .type "enumerate", data := .fields #[.none, .bool false, .ref s.heap.objs.size, rawInt 0, .none, .none] }) (s.heap.objs.size + 1) s.heap.objs.size 0 .none := by
    have q := Heap.get?_push_size (s.heap.push o) (o := { cls := .type "enumerate", data := .fields #[.none, .bool false, .ref s.heap.objs.size, rawInt 0, .none, .none] }) rfl
    rw [hz] at q
    exact q
  exact ⟨⟨_, he, rfl⟩, h _ he (Heap.get?_push_of_some _ (Heap.get?_push_size _ B.free)) fun b o x => Heap.get?_push_of_some _ (Heap.get?_push_of_some _ x)⟩
end PySem
namespace L2
open PySem PySem.Spec PyProof.Rows
/-- the tuple at a, each item in a new pair -/
def ItET (K : PySem.W.Frag) (a : Addr) : It :=
  ⟨fun i H => ∃ (xs : List V) (x : V), SqT K H a xs ∧ xs[i]? = some x, fun i H v H' => ∃ T x, v = .ref T ∧ H T = none ∧ H' = upd H T (.tup [.int (i : Nat), x]) ∧ ∀ xs, SqT K H a xs → xs[i]? = some x, fun i H => ∃ xs : List V, SqT K H a xs ∧ xs.length = i⟩
theorem turn_enumT {P : Program} {w : World} {K : PySem.W.Frag} {elts : List Expr} {kk : Nat} {tpos : Pos} (a e it : Addr) :
    Turn P w K (.Tuple elts kk tpos) (ItET K a) [e, it] e (fun i h => (∃ old, IsEnum h e it ((i : Nat) : Int) old) ∧ h.IsTupleIter it a i ∧ e ≠ it) where
  mem := by simp
  obj := fun i h st b hb => by
    obtain ⟨⟨old, he⟩, ⟨o, ho, hc, hd⟩, _⟩ := st
    have z : b = e ∨ b = it := by simpa using hb
    rcases z with rfl | rfl
    · exact ⟨_, he, fun v q => nomatch q⟩
    · exact ⟨o, ho, fun v q => by rw [hd] at q; cases q⟩
  keep := fun i h h' st k => by
    obtain ⟨⟨old, he⟩, hi, hne⟩ := st
    exact ⟨⟨old, k e (by simp) _ he⟩, hi.at fun o q => k it (by simp) o q, hne⟩
  item := by
    intro X hP hw hK hc i pins s σ H E I hf st hg
    subst hP hw hK
    obtain ⟨⟨old, he⟩, hit, hne⟩ := st
    obtain ⟨xs, x, hq, hx⟩ := hg
    obtain ⟨its, rv, p, hz⟩ := I.tuple hq
    have p : s.heap.IsTuple a its.toArray := p
    obtain ⟨u, hu, ru⟩ := rv.get hx
    have hel : e < s.heap.objs.size := Heap.lt_size he
    have hil : it < s.heap.objs.size := by obtain ⟨_, q, _⟩ := hit; exact Heap.lt_size q
    have nai : a ≠ it := fun z => by
      obtain ⟨o, e1, e2, _⟩ := id hit
      obtain ⟨o', f1, f2, _⟩ := id p
      rw [← z, f1] at e1
      cases e1
      rw [e2] at f2
      exact absurd (Value.type.inj f2) (by decide)
    have nae : a ≠ e := fun z => by
      obtain ⟨o', f1, f2, _⟩ := id p
      rw [z] at f1
      have f3 := he.symm.trans f1
      cases f3
      exact absurd (Value.type.inj f2) (by decide)
    have hiu : its.toArray[i]? = some u := by simpa using hu
    refine wpAny_pyNext_enum_itemD (Draws.tuple (prog := X.prog) (w := X.w) (A := X.A.in1) (show X.A.in1.handled = none from I.ok.hd hc) it a nai its.toArray) he ⟨hit, p⟩ (by have := (Array.getElem?_eq_some_iff.mp hiu).1; exact this) hne (fun z => by
      rcases List.mem_cons.mp z with z | z
      · exact hne z
      · exact nae (List.mem_singleton.mp z).symm) fun x' h' tk hP ho hst hT hsz hk => ?_
    have ex : x' = u := by
      rw [hiu] at hP
      exact (Option.some.inj hP).symm
    subst ex
    refine ⟨_, rfl, wpAny_letOwnedTupleGo_enum (s := { s with heap := h', toks := tk + 1 }) ho fun h'' he' sb => ?_⟩
    have hT2 : h''.get? s.heap.objs.size = some { cls := .type "tuple", data := .seq #[.int i tk, x'] } := (sb.2 _ (Nat.ne_of_gt hel)).trans hT
    have new : ObjOk X.prog X.w (upd H s.heap.objs.size (.tup [.int (i : Nat), x])) h'' s.heap.objs.size (.tup [.int (i : Nat), x]) :=
      ⟨by show 2 ≤ sizeLine; decide, [.int i tk, x'], .cons ⟨_, rfl⟩ (.cons ru .nil), ⟨_, hT2, rfl, _, rfl⟩⟩
    have I1 : Inv X pins σ (upd H s.heap.objs.size (.tup [.int (i : Nat), x])) { s with heap := h'', toks := tk + 1 } :=
      I.turnedNew (ch := [e, it]) (fun b ob hb q => (sb.2 b (fun z => hb (by simp [z]))).trans (hk b ob (fun z => hb (by simp [z])) (fun z => hb (by simp [z])) q)) hf (Nat.le_refl _) new
    refine ⟨.ref s.heap.objs.size, _, I1, rfl, ⟨_, x, rfl, I.hok.fresh (Nat.le_refl _), rfl, fun ys hy => by rw [I.tuple_inj hy hq]; exact hx⟩, ⟨⟨x', ?_⟩, hst.1.at fun o q => (sb.2 it (Ne.symm hne)).trans q, hne⟩, fun b hb => ?_⟩
    · have e1 : ((i + 1 : Nat) : Int) = (i : Int) + 1 := by omega
      rw [e1]
      exact he'
    · have hb' : b < s.heap.objs.size := by
        have z : b = e ∨ b = it := by simpa using hb
        rcases z with rfl | rfl
        · exact hel
        · exact hil
      rw [upd_ne (Nat.ne_of_lt hb')]
      exact (hf b hb).1
  done := by
    intro X hP hw hK hc i pins s σ H E I hf st hg
    subst hP hw hK
    obtain ⟨⟨old, he⟩, hit, hne⟩ := st
    obtain ⟨xs, hq, hx⟩ := hg
    obtain ⟨its, rv, p, hz⟩ := I.tuple hq
    have p : s.heap.IsTuple a its.toArray := p
    obtain ⟨f0, f1, f2, f3, f4, f5⟩ := hf it (by simp)
    have hl := rv.length
    have nai : a ≠ it := fun z => by
      obtain ⟨o, e1, e2, _⟩ := id hit
      obtain ⟨o', g1, g2, _⟩ := id p
      rw [← z, g1] at e1
      cases e1
      rw [e2] at g2
      exact absurd (Value.type.inj g2) (by decide)
    have hn : i = its.toArray.size := by simp; omega
    subst hn
    exact wpAny_pyNext_enum_endD (Draws.tuple (prog := X.prog) (w := X.w) (A := X.A.in1) (show X.A.in1.handled = none from I.ok.hd hc) it a nai its.toArray) he ⟨hit, p⟩ fun h' eb => ⟨rfl, I.turned (t' := s.toks) (fun b o hb q => eb b o hb q) f0 f1 f3 f4 f5⟩
  self := fun A i s Q E st h => by
    obtain ⟨⟨_, he⟩, _⟩ := st
    exact wpAny_pyIter_enum he h
def iEnumT (K : PySem.W.Frag) (ta : TA) : TI := fun σ H R => ta σ H fun vs H1 => ∃ a xs, vs = [.ref a] ∧ SqT K H1 a xs ∧ R (ItET K a) H1
theorem pi_enumT {X : Cx} {e : Expr} {ta : TA} {p pos tpos : Pos} {elts : List Expr} {kk : Nat} (hg : Gl X "enumerate") (hm : X.mg "enumerate" = none) (ha : PA X [e] ta) (hs : starEach [e] X.env = [(false, eval e X.env)] := by rfl) :
    PI X (.Tuple elts kk tpos) (.Call (.Name "enumerate" p) [e] [] pos) (iEnumT X.K ta) := by
  refine ⟨fun pins s σ H R I h => ?_⟩
  refine Call_ (ld_blt I hg hm boot_enumerate (PyProof.Rows.callWith_type1 (thn (ha.run pos pins s σ H _ I h) fun us s1 ⟨vs, H1, I1, r1, q1⟩ => ?_) hs rfl))
  obtain ⟨a, xs, ex, hq, q⟩ := q1
  subst ex
  cases r1 with
  | cons r rr =>
    cases rr
    cases r
    obtain ⟨its, rv, p', hz⟩ := I1.tuple hq
    refine enumT_call (begins_tuple a its.toArray) (show s1.heap.IsTuple a its.toArray from p') fun h' he hit hk => wpAny_pyIter_enum he ?_
    have I2 : Inv X pins σ H1 { s1 with heap := h' } := I1.kept (t' := s1.toks) hk
    refine ⟨s1.heap.objs.size + 1, [s1.heap.objs.size + 1, s1.heap.objs.size], _, _, H1, rfl, I2, turn_enumT a (s1.heap.objs.size + 1) s1.heap.objs.size, ⟨⟨.none, he⟩, ⟨_, hit, rfl, rfl⟩, Nat.succ_ne_self _⟩, fun b hb => ?_, q⟩
    have z : b = s1.heap.objs.size + 1 ∨ b = s1.heap.objs.size := by simpa using hb
    have hle : s1.heap.objs.size ≤ b := by
      rcases z with z | z
      · rw [z]; exact Nat.le_add_right _ _
      · rw [z]; exact Nat.le_refl _
    exact I1.fpOk hle (I1.hok.fresh hle)
theorem walk_enumT {K : PySem.W.Frag} {a : Addr} {xs : List V} : Walk (ItET K a) xs.length (fun H => SqT K H a xs) (YPair (fun i => some (.int (i : Nat))) (fun i => xs[i]?)) := by
  refine ⟨fun i H hi hq => ⟨xs, xs[i], hq, by simp [hi]⟩, fun H hq => ⟨xs, hq, rfl⟩, fun i H v H' hi hq y => ?_⟩
  obtain ⟨T, x, e1, e2, e3, e4⟩ := y
  exact ⟨T, _, x, e1, e2, e3, rfl, e4 xs hq⟩
end L2

/-! a written text opens a statement: behind it a token is out -/
namespace XTok
open PySem PySem.Spec PyProof.Rows L2 CwR
section
variable {X : Cx} {st : Stmt} {rest : List Stmt} {t u : TS}
/-- x = 'text' + e, then statements that want a token -/
theorem pss_catT {i j : Nat} {x c : Str} {e : Expr} {te : TE} {op : Operator} {r : R2} {cpos bpos pos' pos : Pos} (hN : X.N.Nodup) (hi : X.N[i]? = some x) (hx : Loc X.env.scope x) (ho : OpR X (binaryOp op) r) (he : PE X e te) (h2 : PSsT X rest u)
    (hs : swapsWith (.BinOp (.Constant (.str c) j cpos) op e bpos) (some (.Name x pos')) pos.line X.env = pure false := by rfl) (hf : X.fn x = true ∨ X.env.scope.names.lookup x = some .local := by first | exact .inl rfl | exact .inr rfl | assumption) :
    PSs X (.Assign [.Name x pos'] (.BinOp (.Constant (.str c) j cpos) op e bpos) pos :: rest) (tSeq (tAsg (tOp r (tC (.str c)) te) (gName i)) u) := by
  refine ⟨fun pins s σ H D I h => ?_⟩
  refine wpAny_execs_cons (wpAny_Assign_Name (wpAny_BinOp (Calls.Constant_str ?_)) hs)
  refine wpAny_mono (PySem.wpAny_toks_of (n := 1) (by show 1 ≤ s.toks + 1; omega) (he.run pins _ σ H _ (I.tok (s.toks + 1)) h)) (fun w s2 q => ?_) fun _ _ z => z.2
  obtain ⟨hk, y, H2, I2, r2, q2⟩ := q
  refine wpAny_mono (PySem.wpAny_toks_of hk (ho pins s2 σ H2 (V.str c) y (Value.str c s.toks) w _ I2 ⟨s.toks, rfl⟩ r2 q2)) (fun v s3 q => ?_) fun _ _ z => z.2
  obtain ⟨hk3, z, H3, I3, r3, q3⟩ := q
  refine wpAny_mono (PySem.wpAny_toks_of hk3 (store_ok (Q := fun _ s2 => Inv X pins (σ.set i (some z)) H3 s2) I3 hN hi hx r3 (fun _ I => I) hf)) (fun _ s4 q => ?_) fun _ _ z => z.2
  exact h2 pins s4 _ H3 D q.1 q.2 q3
/-- x = e, e wants a token -/
theorem pst_set {i : Nat} {x : Str} {e : Expr} {te : TE} {pos' pos : Pos} (hN : X.N.Nodup) (hi : X.N[i]? = some x) (hx : Loc X.env.scope x) (he : PET X e te) (hs : swapsWith e (some (.Name x pos')) pos.line X.env = pure false := by rfl) (hf : X.fn x = true ∨ X.env.scope.names.lookup x = some .local := by first | exact .inl rfl | exact .inr rfl | assumption) :
    PST X (.Assign [.Name x pos'] e pos) (tAsg te (gName i)) := by
  intro pins s σ H D h0 I h
  refine wpAny_Assign_Name (thn (he pins s σ H _ h0 I h) fun v s1 ⟨y, H1, I1, r1, q1⟩ => ?_) hs
  exact store_ok I1 hN hi hx r1 (fun s2 I2 => ⟨_, H1, I2, q1⟩) hf
end
end XTok

/-! x = 'text' in d: behind it a token is out -/
namespace XTokIn
open PySem PySem.Spec PyProof.Rows L2 CwR
section
variable {X : Cx} {rest : List Stmt} {u : TS}
theorem pss_dinT {i j : Nat} {x c : Str} {o : Expr} {td : TE} {cpos bpos pos' pos : Pos} (hN : X.N.Nodup) (hi : X.N[i]? = some x) (hx : Loc X.env.scope x) (hu : X.A.units + 1 < cLine) (ho : PE X o td) (h2 : PSsT X rest u) (h1 : behindInMarks .In o = false)
    (hs : swapsWith (.Compare (.Constant (.str c) j cpos) [.In] [o] bpos) (some (.Name x pos')) pos.line X.env = pure false := by rfl) (hf : X.fn x = true ∨ X.env.scope.names.lookup x = some .local := by first | exact .inl rfl | exact .inr rfl | assumption) :
    PSs X (.Assign [.Name x pos'] (.Compare (.Constant (.str c) j cpos) [.In] [o] bpos) pos :: rest) (tSeq (tAsg (tDIn (tC (.str c)) td) (gName i)) u) := by
  refine ⟨fun pins s σ H D I h => ?_⟩
  refine wpAny_execs_cons (wpAny_Assign_Name (wpAny_Compare1 (Calls.Constant_str ?_) h1) hs)
  refine wpAny_mono (PySem.wpAny_toks_of (n := 1) (by show 1 ≤ s.toks + 1; omega) (ho.run pins _ σ H _ (I.tok (s.toks + 1)) h)) (fun w s2 q => ?_) fun _ _ z => z.2
  obtain ⟨hk, y, H2, I2, r2, a, ov, ex, g, q2⟩ := q
  subst ex
  obtain rfl : w = Value.ref a := r2
  refine wpAny_mono (PySem.wpAny_toks_of hk (d_in hu I2 g (show RelV (V.str c) (Value.str c s.toks) from ⟨s.toks, rfl⟩) (Q := fun v s3 => v = .bool ov.isSome ∧ Inv X pins σ H2 s3) fun s3 I3 => ⟨rfl, I3⟩)) (fun v s3 q => ?_) fun _ _ z => z.2
  obtain ⟨hk3, rfl, I3⟩ := q
  refine wpAny_mono (PySem.wpAny_toks_of hk3 (store_ok (v := V.bl ov.isSome) (Q := fun _ s2 => Inv X pins (σ.set i (some (V.bl ov.isSome))) H2 s2) I3 hN hi hx rfl (fun _ I => I) hf)) (fun _ s4 q => ?_) fun _ _ z => z.2
  exact h2 pins s4 _ H2 D q.1 q.2 q2
/-- if 'text' in d: .. ; behind it a token is out -/
theorem pss_ifInT {j : Nat} {c : Str} {o : Expr} {td : TE} {cpos bpos pos : Pos} {a b : List Stmt} {t t2 : TS} (hu : X.A.units + 1 < cLine) (ho : PE X o td) (ha : PSs X a t) (hb : PSs X b t2) (h2 : PSsT X rest u) (h1 : behindInMarks .In o = false) :
    PSs X (.If (.Compare (.Constant (.str c) j cpos) [.In] [o] bpos) a b pos :: rest) (tSeq (tIfS (tB (tDIn (tC (.str c)) td)) t t2) u) := by
  refine ⟨fun pins s σ H D I h => ?_⟩
  refine wpAny_execs_cons (wpAny_If (wpAny_isTrue_Compare1 (Calls.Constant_str ?_) h1))
  refine wpAny_mono (PySem.wpAny_toks_of (n := 1) (by show 1 ≤ s.toks + 1; omega) (ho.run pins _ σ H _ (I.tok (s.toks + 1)) h)) (fun w s2 q => ?_) fun _ _ z => z.2
  obtain ⟨hk, y, H2, I2, r2, a', ov, ex, g, q2⟩ := q
  subst ex
  obtain rfl : w = Value.ref a' := r2
  refine wpAny_mono (PySem.wpAny_toks_of hk (d_in hu I2 g (show RelV (V.str c) (Value.str c s.toks) from ⟨s.toks, rfl⟩) (Q := fun v s3 => v = .bool ov.isSome ∧ Inv X pins σ H2 s3) fun s3 I3 => ⟨rfl, I3⟩)) (fun v s3 q => ?_) fun _ _ z => z.2
  obtain ⟨hk3, rfl, I3⟩ := q
  refine wpAny_truthy_bool ?_
  obtain ⟨d, hd, q3⟩ := q2
  obtain rfl : ov.isSome = d := V.bl.inj hd
  have fin : ∀ (fl : Flow) (s4 : Shared), 1 ≤ s4.toks ∧ SP X pins { D with nx := u D } fl s4 → (match fl with | .next => wpAny (model X.prog X.w) X.A (execs rest X.env) (SP X pins D) X.xe s4 | f => SP X pins D f s4) := by
    rintro fl s4 ⟨hk4, q4⟩
    cases fl with
    | next =>
      obtain ⟨σ', H', I', q⟩ := q4
      exact h2 pins s4 σ' H' D hk4 I' q
    | ret v => exact q4
    | brk => exact q4
    | cont => exact q4
  cases hov : ov.isSome with
  | true =>
    rw [hov] at q3
    exact wpAny_mono (PySem.wpAny_toks_of hk3 (ha.run pins s3 σ H2 { D with nx := u D } I3 q3)) (fun fl s4 q4 => by cases fl <;> exact fin _ s4 q4) fun _ _ z => z.2
  | false =>
    rw [hov] at q3
    exact wpAny_mono (PySem.wpAny_toks_of hk3 (hb.run pins s3 σ H2 { D with nx := u D } I3 q3)) (fun fl s4 q4 => by cases fl <;> exact fin _ s4 q4) fun _ _ z => z.2
end
end XTokIn

namespace K46
open PySem L2 PyProof.Rows
theorem pt_never {X : Cx} {e : Expr} : PT X e (fun _ _ _ => False) := ⟨fun _ _ _ _ _ _ h => h.elim⟩
theorem pw_never {X : Cx} {e : Expr} : PW X e (fun _ _ _ => False) := ⟨fun _ _ _ _ _ _ _ h => h.elim⟩
/-- a function of the top, its promise at hand -/
structure At (P : Program) (w : World) (K : PySem.W.Frag) (mg : Str → Option Value) (base : Heap) (nm : Str) (k : Nat) (ps : List Str) (sp : Sp) (f : Addr) (fd : FuncData) : Prop where
  ok : FnOk P w K mg base CX0 k f fd ps sp
  m : mg nm = some (.ref f)
  k : PySem.W.keepIn K (.ref f) = true
  b : Binds K fd ps []
structure ClsN (K : PySem.W.Frag) (C : Addr) (fs : List Str) : Prop where
  cl : Cls K C
  no : ∀ f ∈ fs, NoAttr K C f
/-- a constant tuple of the top -/
structure KT (K : PySem.W.Frag) (mg : Str → Option Value) (nm : Str) (a : Addr) (xs : List V) : Prop where
  m : mg nm = some (.ref a)
  q : ∀ H : Hp, SqT K H a xs
theorem dpAll_strs {K : PySem.W.Frag} {H : Hp} : ∀ ks : List Str, DpAll K H (ks.map V.str) (ks.map PyData.str)
  | [] => .nil
  | k :: ks => .cons (.str k) (dpAll_strs ks)
theorem dts_strs {N : Hp} : ∀ (ws : List Str), DtAll N (ws.map V.str) (ws.map PyData.str)
  | [] => .nil
  | w :: ws => .cons (.str w) (dts_strs ws)
theorem str_at {ys : List Str} {i : Nat} {x : V} (hx : (ys.map V.str)[i]? = some x) : ∃ k, ys[i]? = some k ∧ x = V.str k := by
  rw [List.getElem?_map] at hx
  cases e : ys[i]? with
  | none =>
    rw [e] at hx
    cases hx
  | some k =>
    rw [e] at hx
    exact ⟨k, rfl, (Option.some.inj hx).symm⟩
theorem all_tt {α : Type} (xs : List α) : (xs.map fun _ => true).all id = true := by
  induction xs with
  | nil => rfl
  | cons x xs ih => exact ih
theorem strs_shaped {fl : List Str} (h : ∀ x ∈ fl, PyData.strOk x = true) : SeqAt.shaped (.tuple (fl.map PyData.str)) = true := by
  have key : PyData.canLayAll0 (fl.map PyData.str) = true ∧ PyData.depthAll (fl.map PyData.str) = 0 := by
    induction fl with
    | nil => exact ⟨rfl, rfl⟩
    | cons k ks ih =>
      obtain ⟨i1, i2⟩ := ih fun j hj => h j (List.mem_cons_of_mem _ hj)
      constructor
      · show (PyData.strOk k && PyData.canLayAll0 (ks.map PyData.str)) = true
        rw [i1, Bool.and_true]
        exact h k List.mem_cons_self
      · show max 0 (PyData.depthAll (ks.map PyData.str)) = 0
        rw [i2]
        rfl
  unfold SeqAt.shaped
  rw [Bool.and_eq_true]
  refine ⟨key.1, ?_⟩
  apply decide_eq_true
  show PyData.depthAll (fl.map PyData.str) + 1 ≤ 64
  rw [key.2]
  decide
/-! ### flags by any signs -/
def wAt (w : Str) (i : Nat) : Nat := w.cps.toList.getD i 0
theorem wAt_at {x : Str} {i : Nat} (h : i < x.length) : atI x.cps.toList (i : Nat) = some (wAt x i) := by
  have h' : i < x.cps.toList.length := by simpa [PySem.Str.length] using h
  have : x.cps.toList[i]? = some (wAt x i) := by
    unfold wAt
    rw [List.getD_eq_getElem?_getD, List.getElem?_eq_getElem h']
    rfl
  exact atI_nat this
def inP (pf : Str) (c : Nat) : Bool := !(Builtin.Str.occurrences pf (⟨#[c]⟩ : Str) 0 pf.length 1).isEmpty
def gapB (c : Nat) : Bool := !(Builtin.Str.occurrences (" \n=" : Str) (⟨#[c]⟩ : Str) 0 (" \n=" : Str).length 1).isEmpty
def noF (x : Str) : Str := cutS x none (some 2) ++ "no-" ++ cutS x (some 2) none
def flB (pf x : Str) : Bool := decide (x ≠ "") && decide (2 ≤ x.length) && decide (x.length ≤ 40) && inP pf (wAt x 0) && decide (Txt.lstripChars x pf ≠ "") && !((x.cps.toList.map gapB).any id) && PyData.strOk x && decide ((Txt.lstripChars x pf).length ≤ 40) && PyData.strOk (noF x) && decide (Txt.lstripChars x pf = ⟨(x.cps.toList.dropWhile (inP pf)).toArray⟩)
structure FlOk (pf x : Str) : Prop where
  ne : x ≠ ""
  l2 : 2 ≤ x.length
  ln : x.length ≤ 40
  h0 : inP pf (wAt x 0) = true
  ls : Txt.lstripChars x pf ≠ ""
  gp : (x.cps.toList.map gapB).any id = false
  so : PyData.strOk x = true
  sl : (Txt.lstripChars x pf).length ≤ 40
  no : PyData.strOk (noF x) = true
  dw : Txt.lstripChars x pf = ⟨(x.cps.toList.dropWhile (inP pf)).toArray⟩
theorem flB_ok {pf x : Str} (h : flB pf x = true) : FlOk pf x := by
  unfold flB at h
  simp only [Bool.and_eq_true, decide_eq_true_eq, Bool.not_eq_true'] at h
  obtain ⟨⟨⟨⟨⟨⟨⟨⟨⟨h1, h2⟩, h3⟩, h4⟩, h5⟩, h6⟩, h7⟩, h8⟩, h9⟩, h10⟩ := h
  exact ⟨h1, h2, h3, h4, h5, h6, h7, h8, h9, h10⟩
def spHasGap : Sp := fun vs H Q _ => ∃ x : Str, vs = [.str x] ∧ x.length ≤ 1000 ∧ ∀ H', Same H H' → Q (.bl ((x.cps.toList.map gapB).any id)) H'
def spIsFlag : Sp := fun vs H Q _ => ∃ x pf : Str, vs = [.str x, .str pf] ∧ FlOk pf x ∧ pf.length ≤ 20 ∧ ∀ H', Same H H' → Q (.bl true) H'
/-- flags as they are handed -/
structure Gv (pf : Str) (gs : List Str) (io : Bool) : Prop where
  op : io = true → gs ≠ [] ∧ ∀ x ∈ gs, FlOk pf x
  po : io = false → gs = [] ∨ ∃ g, gs = [g] ∧ g ≠ "" ∧ g.length ≤ 40 ∧ inP pf (wAt g 0) = false ∧ PyData.strOk g = true
  n : gs.length ≤ 20
  pl : pf.length ≤ 20
def flOf (gs : List Str) (io : Bool) : List Str := if io then gs else []
def SeqF (H : Hp) (a : Addr) (xs : List V) : Prop := H a = some (.lst xs) ∨ H a = some (.tup xs)
theorem SeqF.keep {H H' : Hp} {a : Addr} {xs : List V} (h : SeqF H a xs) (e : Same H H') : SeqF H' a xs := h.imp (e _ _) (e _ _)
theorem SeqF.sq {K : PySem.W.Frag} {H : Hp} {a : Addr} {xs : List V} (h : SeqF H a xs) : SqL K H a xs ∨ SqT K H a xs := h.imp SqL.of SqT.of
def spChk (K : PySem.W.Frag) : Sp := fun vs H Q _ => ∃ (a : Addr) (pf : Str) (gs : List Str) (io : Bool), vs = [.ref a, .str pf] ∧ SeqF H a (gs.map V.str) ∧ Gv pf gs io ∧ ∀ (T : Addr) (H' : Hp), Same H H' → H' T = some (.tup ((flOf gs io).map V.str)) → Q (.ref T) H'
section
variable {P : Program} {w : World} {K : PySem.W.Frag} {mg : Str → Option Value} {base : Heap}
theorem scHasGap : FnScope ["text", "sign"] ["text"] (defScope sHasGap) := ⟨rfl, rfl, rfl, by decide +kernel, rfl, by decide +kernel, by decide +kernel⟩
theorem ok_hasGap {f : Addr} {fd : FuncData} (F : Fun K "has_gap" "has_gap" sHasGap f fd) (zAny : mg "any" = none) : FnOk P w K mg base CX0 1 f fd ["text"] spHasGap := by
  refine F.ok scHasGap (fun vs H Q E h => ?_) (fun cdv A outer s H vs Q E hr h => ?_)
  · obtain ⟨x, rfl, _⟩ := h
    rfl
  · obtain ⟨x, rfl, hx, k⟩ := h
    refine ⟨_, pss_one (ps_ret (pe_callB (cr_any rfl) (by rfl) zAny (by decide +kernel) (pa_cons (pe_lc (own := [("sign", 1)]) (g := gName 1) (tt := tYes) rfl scHasGap.nd (pi_str (pv 0)) (blkOk_by (N := ["text", "sign"]) (sc := defScope sHasGap) (by decide +kernel)) (fun _ _ _ _ _ => pg_name (i := 1) scHasGap.nd rfl (Or.inl rfl)) (fun _ _ _ _ _ => pts_nil)
      (fun _ _ _ _ _ => by exact pe_cmpR op_in_str (pv 1) pe_str (by rfl))) pa_nil))), ?_⟩
    have hl : x.cps.toList.length ≤ 1000 := by simpa [PySem.Str.length] using hx
    refine ⟨_, rfl, x, rfl, fun D hD => ?_⟩
    refine lc_it walk_str (BlI gapB H D x.cps.toList) (blI0 hD) (fun _ _ _ _ => trivial) (fun i v H' H'' hi h y => ?_) (fun H' h => ?_)
    · obtain ⟨rfl, c, hc, rfl⟩ := y
      refine ⟨rfl, _, rfl, _, _, rfl, rfl, ?_⟩
      exact blI_step hD (by rw [Array.getElem?_toList]; exact hc) h (Same.refl _) rfl (by omega)
    · obtain ⟨e, hl⟩ := blI_end (by simp) h
      exact ⟨D, _, rfl, SqL.of hl, k _ e⟩
theorem scIsFlag : FnScope ["text", "prefix_chars"] ["text", "prefix_chars"] (defScope sIsFlag) := ⟨rfl, rfl, rfl, by decide +kernel, rfl, by decide +kernel, by decide +kernel⟩
theorem ok_isFlag {f fG : Addr} {fd fdG : FuncData} (F : Fun K "is_flag" "is_flag" sIsFlag f fd) (G : At P w K mg base "has_gap" 1 ["text"] spHasGap fG fdG) : FnOk P w K mg base CX0 2 f fd ["text", "prefix_chars"] spIsFlag := by
  refine F.ok scIsFlag (fun vs H Q E h => ?_) (fun cdv A outer s H vs Q E hr h => ?_)
  · obtain ⟨x, pf, rfl, _⟩ := h
    rfl
  · obtain ⟨x, pf, rfl, hx, hp, k⟩ := h
    refine ⟨_, pss_one (ps_ret (pe_and (pe_cmpR op_ne (pv 0) pe_str (nomark _)) (pe_and (pe_cmpR op_in_str (pe_ix ix_str (pv 0) pe_int (fun _ _ => rfl)) (pv 1) (by rfl)) (pe_and (pe_cmpR op_ne (pe_bm PySem.F.plainAttrs_str PySem.F.slot_str_lstrip PySem.F.type_str_lstrip mt_lstripChars (pv 0) (pa_cons (pv 1) pa_nil)) pe_str (nomark _)) (pe_one (pe_not (pe_call G.ok hr rfl G.m G.k G.b .nil pass0 (pa_cons (pv 0) pa_nil)))))))), ?_⟩
    have hl := hx.ln
    refine ⟨_, rfl, rfl, true, congrArg V.bl (by rw [decide_eq_false fun z => hx.ne (V.str.inj z)]; rfl), iteT ?_⟩
    refine ⟨_, rfl, x, 0, _, rfl, rfl, (by rw [PySem.sizeLine_eq]; omega), (wAt_at (x := x) (i := 0) (by have := hx.l2; omega) : atI x.cps.toList ((0 : Nat) : Int) = _), _, rfl, _, _, rfl, rfl, true, congrArg V.bl hx.h0, iteT ?_⟩
    refine ⟨_, rfl, rfl, _, rfl, _, _, rfl, rfl, (by rw [PySem.sizeLine_eq]; omega), rfl, true, congrArg V.bl (by rw [decide_eq_false fun z => hx.ls (V.str.inj z)]; rfl), iteT ?_⟩
    refine ⟨_, rfl, x, rfl, by omega, fun H' e => ?_⟩
    rw [hx.gp]
    exact ⟨false, rfl, k H' e⟩
end
end K46

namespace K46
open PySem L2 PyProof.Rows
theorem str_len0 {x : Str} (h : x.length = 0) : x = "" := by
  cases x with
  | mk a =>
    have : a = #[] := Array.eq_empty_of_size_eq_zero h
    rw [this]
    rfl
section
variable {P : Program} {w : World} {K : PySem.W.Frag} {mg : Str → Option Value} {base : Heap}
abbrev nChk : List Str := ["flags", "prefix_chars", "flag"]
theorem scChk : FnScope nChk ["flags", "prefix_chars"] (defScope sChkFlags) := ⟨rfl, rfl, rfl, by decide +kernel, rfl, by decide +kernel, by decide +kernel⟩
theorem ok_chk {f fR fF : Addr} {fd fdR fdF : FuncData} (F : Fun K "checked_flags" "checked_flags" sChkFlags f fd) (T : TxtB mg) (zStr : mg "str" = none) (R : At P w K mg base "is_row" 1 ["thing"] (spIsRow K) fR fdR) (G : At P w K mg base "is_flag" 2 ["text", "prefix_chars"] spIsFlag fF fdF) :
    FnOk P w K mg base CX0 3 f fd ["flags", "prefix_chars"] (spChk K) := by
  refine F.ok scChk (fun vs H Q E h => ?_) (fun cdv A outer s H vs Q E hr h => ?_)
  · obtain ⟨a, pf, gs, io, rfl, _⟩ := h
    rfl
  · obtain ⟨a, pf, gs, io, rfl, ha, hG, k⟩ := h
    have r1 : Room 1 (A.deeper (PyProof.Rows.envOfC "checked_flags" (defScope sChkFlags) s.heap.objs.size f cdv)) := hr.mono (by decide)
    have hn := hG.n
    have hpl := hG.pl
    rcases ha with ha | ha
    · refine ⟨_, pss_cons (ps_if (PW.pt (pw_or (pt_not (pt_val (pe_call R.ok r1 rfl R.m R.k R.b .nil pass0 (pa_cons (pv 0) pa_nil)))) (pw_or1 (pt_not (pt_val (pe_callB (cr_all rfl) (by rfl) T.all (by decide +kernel) (pa_cons (pe_lc (own := [("flag", 2)]) (g := gName 2) (tt := tYes) (te := tCB (rIsi K) (tCons (tVar 2) (tCons (tC (.ty "str")) tNil))) rfl scChk.nd (pi_list (pv 0)) (blkOk_by (N := nChk) (sc := defScope sChkFlags) (by decide +kernel)) (fun _ _ _ _ _ => pg_name (i := 2) scChk.nd rfl (Or.inl rfl)) (fun _ _ _ _ _ => pts_nil)
        (fun _ _ _ _ _ => by exact pe_callB call_isi (by rfl) T.isinstance (by decide +kernel) (pa_cons (pv 2) (pa_cons (pe_bltn (v := .ty "str") (by rfl) zStr (by decide +kernel) rfl) pa_nil)))) pa_nil))))))) pss_never pss_nil)
        (pss_mid (ps_if (PW.pt (pw_or (pt_cmpR op_eq (pe_callB call_len_seq (by rfl) T.len PySem.boot_len (pa_cons (pv 0) pa_nil)) pe_int (nomark _)) (pw_or1 (PW.pt (pw_and (pt_cmpR op_eq (pe_callB call_len_seq (by rfl) T.len PySem.boot_len (pa_cons (pv 0) pa_nil)) pe_int (nomark _)) (pw_and (pt_cmpR op_ne (pe_ix ix_list (pv 0) pe_int (fun _ _ => rfl)) pe_str (nomark _)) (pw_and1 (pt_cmpR op_notin_str (pe_ix ix_str (pe_ix ix_list (pv 0) pe_int (fun _ _ => rfl)) pe_int (fun _ _ => rfl)) (pv 1) (by rfl))))))))) (pss_one (ps_ret (pe_tup pa_nil))) pss_nil)
        (pss_cons (ps_if (pt_not (pt_val (pe_callB (cr_all rfl) (by rfl) T.all (by decide +kernel) (pa_cons (pe_lc (own := [("flag", 2)]) (g := gName 2) (tt := tYes) (te := tCall spIsFlag [] E0 (tCons (tVar 2) (tCons (tVar 1) tNil))) rfl scChk.nd (pi_list (pv 0)) (blkOk_by (N := nChk) (sc := defScope sChkFlags) (by decide +kernel)) (fun _ _ _ _ _ => pg_name (i := 2) scChk.nd rfl (Or.inl rfl)) (fun _ _ _ _ _ => pts_nil)
          (fun _ _ _ _ _ => by exact pe_call G.ok (by exact hr) rfl G.m G.k G.b .nil pass0 (pa_cons (pv 2) (pa_cons (pv 1) pa_nil)))) pa_nil)))) pss_never pss_nil)
        (pss_one (ps_ret (pe_callTy call_tuple_of (by rfl) T.tuple (by decide +kernel) (pa_cons (pv 0) pa_nil)))))), ?_⟩
      refine ⟨_, rfl, _, "list", true, rfl, .base (.lst ha), by decide +kernel, fun H1 e1 => ⟨_, rfl, iteF ?_⟩⟩
      -- all isinstance
      refine ⟨_, rfl, a, rfl, ⟨_, SqL.of (e1 _ _ ha)⟩, fun D hD => ?_⟩
      refine lc_list (K := K) (a := a) (xs := gs.map V.str) (BlI (fun _ => true) H1 D gs) (blI0 hD) (fun i H' _ h => SqL.of (h.1 _ _ (e1 _ _ ha))) (fun i x H' hx h => ?_) (fun H2 h => ?_)
      · obtain ⟨z, hz, rfl⟩ := str_at hx
        exact ⟨rfl, _, rfl, _, .ty "str", _, _, true, rfl, .ty _, .base (.str z), kit_ty (by decide +kernel), blI_step hD hz h (Same.refl _) rfl (by omega)⟩
      obtain ⟨e2, hl⟩ := blI_end (by rw [List.length_map]) h
      refine ⟨D, _, rfl, SqL.of hl, ?_⟩
      rw [all_tt]
      refine ⟨_, rfl, iteF ?_⟩
      have e12 := e1.trans e2
      have ha2 := e12 _ _ ha
      have hlen : (gs.map V.str).length = gs.length := List.length_map ..
      refine ⟨fun σ' H' => io = true ∧ σ' = [some (.ref a), some (.str pf), none] ∧ H2 = H', ?_, ?_⟩
      · -- a positional or not
        cases io with
        | false =>
          rcases hG.po rfl with rfl | ⟨g, rfl, g1, g2, g3, g4⟩
          · refine ⟨_, rfl, a, _, rfl, .inl (SqL.of ha2), rfl, true, rfl, iteT (iteT ?_)⟩
            exact ⟨(by show 0 ≤ sizeLine; decide), fun T hT => k T _ (e12.trans (same_upd hT)) upd_same⟩
          · have hgl : 1 ≤ g.length := by
              cases hz : g.length with
              | zero => exact absurd (str_len0 hz) g1
              | succ n => omega
            refine ⟨_, rfl, a, _, rfl, .inl (SqL.of ha2), rfl, false, rfl, iteF ⟨_, rfl, a, _, rfl, .inl (SqL.of ha2), rfl, true, rfl, iteT ?_⟩⟩
            refine ⟨_, rfl, a, _, _, _, rfl, rfl, SqL.of ha2, atI_nat (j := 0) rfl, rfl, true, congrArg V.bl (by rw [decide_eq_false fun z => g1 (V.str.inj z)]; rfl), iteT ?_⟩
            refine ⟨_, rfl, a, _, _, _, rfl, rfl, SqL.of ha2, atI_nat (j := 0) rfl, g, 0, _, rfl, rfl, (by rw [PySem.sizeLine_eq]; omega), (wAt_at (x := g) (i := 0) hgl : atI g.cps.toList ((0 : Nat) : Int) = _), _, rfl, _, _, rfl, rfl, true, congrArg V.bl (by have := g3; unfold inP at this; simpa using this), iteT ?_⟩
            exact ⟨(by show 0 ≤ sizeLine; decide), fun T hT => k T _ (e12.trans (same_upd hT)) upd_same⟩
        | true =>
          obtain ⟨f0, fA⟩ := hG.op rfl
          obtain ⟨z, zs, rfl⟩ : ∃ z zs, gs = z :: zs := by
            cases gs with
            | nil => exact absurd rfl f0
            | cons z zs => exact ⟨z, zs, rfl⟩
          have hz := fA z List.mem_cons_self
          refine ⟨_, rfl, a, _, rfl, .inl (SqL.of ha2), rfl, false, ?_, iteF ⟨_, rfl, a, _, rfl, .inl (SqL.of ha2), rfl, _, rfl, ?_⟩⟩
          · refine congrArg V.bl (decide_eq_false fun q => ?_)
            have := V.int.inj q
            rw [hlen, List.length_cons] at this
            omega
          refine ite2 (fun hc => ?_) (fun hc => iteF ⟨rfl, rfl, rfl⟩)
          have hzl := hz.l2
          have hzn := hz.ln
          refine ⟨_, rfl, a, _, _, _, rfl, rfl, SqL.of ha2, atI_nat (j := 0) rfl, rfl, true, congrArg V.bl (by rw [decide_eq_false fun q => hz.ne (V.str.inj q)]; rfl), iteT ?_⟩
          refine ⟨_, rfl, a, _, _, _, rfl, rfl, SqL.of ha2, atI_nat (j := 0) rfl, z, 0, _, rfl, rfl, (by rw [PySem.sizeLine_eq]; omega), (wAt_at (x := z) (i := 0) (by omega) : atI z.cps.toList ((0 : Nat) : Int) = _), _, rfl, _, _, rfl, rfl, false, congrArg V.bl (by have := hz.h0; unfold inP at this; simpa using this), iteF ⟨rfl, rfl, rfl⟩⟩
      rintro _ _ ⟨rfl, rfl, rfl⟩
      obtain ⟨f0, fA⟩ := hG.op rfl
      refine ⟨_, rfl, a, rfl, ⟨_, SqL.of ha2⟩, fun D hD => ?_⟩
      refine lc_list (K := K) (a := a) (xs := gs.map V.str) (BlI (fun _ => true) H2 D gs) (blI0 hD) (fun i H' _ h => SqL.of (h.1 _ _ ha2)) (fun i x H' hx h => ?_) (fun H3 h => ?_)
      · obtain ⟨y, hy, rfl⟩ := str_at hx
        exact ⟨rfl, _, rfl, _, rfl, y, pf, rfl, fA y (List.mem_of_getElem? hy), hpl, fun H4 e4 => blI_step hD hy h e4 rfl (by omega)⟩
      obtain ⟨e3, hl⟩ := blI_end (by rw [List.length_map]) h
      refine ⟨D, _, rfl, SqL.of hl, ?_⟩
      rw [all_tt]
      refine ⟨_, rfl, iteF ⟨_, rfl, a, _, rfl, .inl ⟨SqL.of (e3 _ _ ha2), fun T hT => k T _ ((e12.trans e3).trans (same_upd hT)) upd_same⟩⟩⟩
    · refine ⟨_, pss_cons (ps_if (PW.pt (pw_or (pt_not (pt_val (pe_call R.ok r1 rfl R.m R.k R.b .nil pass0 (pa_cons (pv 0) pa_nil)))) (pw_or1 (pt_not (pt_val (pe_callB (cr_all rfl) (by rfl) T.all (by decide +kernel) (pa_cons (pe_lc (own := [("flag", 2)]) (g := gName 2) (tt := tYes) (te := tCB (rIsi K) (tCons (tVar 2) (tCons (tC (.ty "str")) tNil))) rfl scChk.nd (pi_tup (pv 0)) (blkOk_by (N := nChk) (sc := defScope sChkFlags) (by decide +kernel)) (fun _ _ _ _ _ => pg_name (i := 2) scChk.nd rfl (Or.inl rfl)) (fun _ _ _ _ _ => pts_nil)
        (fun _ _ _ _ _ => by exact pe_callB call_isi (by rfl) T.isinstance (by decide +kernel) (pa_cons (pv 2) (pa_cons (pe_bltn (v := .ty "str") (by rfl) zStr (by decide +kernel) rfl) pa_nil)))) pa_nil))))))) pss_never pss_nil)
        (pss_mid (ps_if (PW.pt (pw_or (pt_cmpR op_eq (pe_callB call_len_seq (by rfl) T.len PySem.boot_len (pa_cons (pv 0) pa_nil)) pe_int (nomark _)) (pw_or1 (PW.pt (pw_and (pt_cmpR op_eq (pe_callB call_len_seq (by rfl) T.len PySem.boot_len (pa_cons (pv 0) pa_nil)) pe_int (nomark _)) (pw_and (pt_cmpR op_ne (pe_ix ix_tup (pv 0) pe_int (fun _ _ => rfl)) pe_str (nomark _)) (pw_and1 (pt_cmpR op_notin_str (pe_ix ix_str (pe_ix ix_tup (pv 0) pe_int (fun _ _ => rfl)) pe_int (fun _ _ => rfl)) (pv 1) (by rfl))))))))) (pss_one (ps_ret (pe_tup pa_nil))) pss_nil)
        (pss_cons (ps_if (pt_not (pt_val (pe_callB (cr_all rfl) (by rfl) T.all (by decide +kernel) (pa_cons (pe_lc (own := [("flag", 2)]) (g := gName 2) (tt := tYes) (te := tCall spIsFlag [] E0 (tCons (tVar 2) (tCons (tVar 1) tNil))) rfl scChk.nd (pi_tup (pv 0)) (blkOk_by (N := nChk) (sc := defScope sChkFlags) (by decide +kernel)) (fun _ _ _ _ _ => pg_name (i := 2) scChk.nd rfl (Or.inl rfl)) (fun _ _ _ _ _ => pts_nil)
          (fun _ _ _ _ _ => by exact pe_call G.ok (by exact hr) rfl G.m G.k G.b .nil pass0 (pa_cons (pv 2) (pa_cons (pv 1) pa_nil)))) pa_nil)))) pss_never pss_nil)
        (pss_one (ps_ret (pe_callTy call_tuple_of (by rfl) T.tuple (by decide +kernel) (pa_cons (pv 0) pa_nil)))))), ?_⟩
      refine ⟨_, rfl, _, "tuple", true, rfl, .base (.tup ha), by decide +kernel, fun H1 e1 => ⟨_, rfl, iteF ?_⟩⟩
      -- all isinstance
      refine ⟨_, rfl, a, rfl, ⟨_, SqT.of (e1 _ _ ha)⟩, fun D hD => ?_⟩
      refine lc_tup (K := K) (a := a) (xs := gs.map V.str) (BlI (fun _ => true) H1 D gs) (blI0 hD) (fun i H' _ h => SqT.of (h.1 _ _ (e1 _ _ ha))) (fun i x H' hx h => ?_) (fun H2 h => ?_)
      · obtain ⟨z, hz, rfl⟩ := str_at hx
        exact ⟨rfl, _, rfl, _, .ty "str", _, _, true, rfl, .ty _, .base (.str z), kit_ty (by decide +kernel), blI_step hD hz h (Same.refl _) rfl (by omega)⟩
      obtain ⟨e2, hl⟩ := blI_end (by rw [List.length_map]) h
      refine ⟨D, _, rfl, SqL.of hl, ?_⟩
      rw [all_tt]
      refine ⟨_, rfl, iteF ?_⟩
      have e12 := e1.trans e2
      have ha2 := e12 _ _ ha
      have hlen : (gs.map V.str).length = gs.length := List.length_map ..
      refine ⟨fun σ' H' => io = true ∧ σ' = [some (.ref a), some (.str pf), none] ∧ H2 = H', ?_, ?_⟩
      · -- a positional or not
        cases io with
        | false =>
          rcases hG.po rfl with rfl | ⟨g, rfl, g1, g2, g3, g4⟩
          · refine ⟨_, rfl, a, _, rfl, .inr (SqT.of ha2), rfl, true, rfl, iteT (iteT ?_)⟩
            exact ⟨(by show 0 ≤ sizeLine; decide), fun T hT => k T _ (e12.trans (same_upd hT)) upd_same⟩
          · have hgl : 1 ≤ g.length := by
              cases hz : g.length with
              | zero => exact absurd (str_len0 hz) g1
              | succ n => omega
            refine ⟨_, rfl, a, _, rfl, .inr (SqT.of ha2), rfl, false, rfl, iteF ⟨_, rfl, a, _, rfl, .inr (SqT.of ha2), rfl, true, rfl, iteT ?_⟩⟩
            refine ⟨_, rfl, a, _, _, _, rfl, rfl, SqT.of ha2, atI_nat (j := 0) rfl, rfl, true, congrArg V.bl (by rw [decide_eq_false fun z => g1 (V.str.inj z)]; rfl), iteT ?_⟩
            refine ⟨_, rfl, a, _, _, _, rfl, rfl, SqT.of ha2, atI_nat (j := 0) rfl, g, 0, _, rfl, rfl, (by rw [PySem.sizeLine_eq]; omega), (wAt_at (x := g) (i := 0) hgl : atI g.cps.toList ((0 : Nat) : Int) = _), _, rfl, _, _, rfl, rfl, true, congrArg V.bl (by have := g3; unfold inP at this; simpa using this), iteT ?_⟩
            exact ⟨(by show 0 ≤ sizeLine; decide), fun T hT => k T _ (e12.trans (same_upd hT)) upd_same⟩
        | true =>
          obtain ⟨f0, fA⟩ := hG.op rfl
          obtain ⟨z, zs, rfl⟩ : ∃ z zs, gs = z :: zs := by
            cases gs with
            | nil => exact absurd rfl f0
            | cons z zs => exact ⟨z, zs, rfl⟩
          have hz := fA z List.mem_cons_self
          refine ⟨_, rfl, a, _, rfl, .inr (SqT.of ha2), rfl, false, ?_, iteF ⟨_, rfl, a, _, rfl, .inr (SqT.of ha2), rfl, _, rfl, ?_⟩⟩
          · refine congrArg V.bl (decide_eq_false fun q => ?_)
            have := V.int.inj q
            rw [hlen, List.length_cons] at this
            omega
          refine ite2 (fun hc => ?_) (fun hc => iteF ⟨rfl, rfl, rfl⟩)
          have hzl := hz.l2
          have hzn := hz.ln
          refine ⟨_, rfl, a, _, _, _, rfl, rfl, SqT.of ha2, atI_nat (j := 0) rfl, rfl, true, congrArg V.bl (by rw [decide_eq_false fun q => hz.ne (V.str.inj q)]; rfl), iteT ?_⟩
          refine ⟨_, rfl, a, _, _, _, rfl, rfl, SqT.of ha2, atI_nat (j := 0) rfl, z, 0, _, rfl, rfl, (by rw [PySem.sizeLine_eq]; omega), (wAt_at (x := z) (i := 0) (by omega) : atI z.cps.toList ((0 : Nat) : Int) = _), _, rfl, _, _, rfl, rfl, false, congrArg V.bl (by have := hz.h0; unfold inP at this; simpa using this), iteF ⟨rfl, rfl, rfl⟩⟩
      rintro _ _ ⟨rfl, rfl, rfl⟩
      obtain ⟨f0, fA⟩ := hG.op rfl
      refine ⟨_, rfl, a, rfl, ⟨_, SqT.of ha2⟩, fun D hD => ?_⟩
      refine lc_tup (K := K) (a := a) (xs := gs.map V.str) (BlI (fun _ => true) H2 D gs) (blI0 hD) (fun i H' _ h => SqT.of (h.1 _ _ ha2)) (fun i x H' hx h => ?_) (fun H3 h => ?_)
      · obtain ⟨y, hy, rfl⟩ := str_at hx
        exact ⟨rfl, _, rfl, _, rfl, y, pf, rfl, fA y (List.mem_of_getElem? hy), hpl, fun H4 e4 => blI_step hD hy h e4 rfl (by omega)⟩
      obtain ⟨e3, hl⟩ := blI_end (by rw [List.length_map]) h
      refine ⟨D, _, rfl, SqL.of hl, ?_⟩
      rw [all_tt]
      refine ⟨_, rfl, iteF ⟨_, rfl, a, _, rfl, .inr ⟨SqT.of (e3 _ _ ha2), k a _ (e12.trans e3) (e3 _ _ ha2)⟩⟩⟩
end
end K46

/-! a def called with keywords, by the names alone -/
namespace XB
open PySem PySem.Spec PyProof.Rows L2 PySem.W
theorem looks_for {α β : Type} {M : Model} {h : Heap} {f : α → β → Sem (ForInStep β)} (R : List α → β → Prop) (hs : ∀ a l b, R (a :: l) b → ∃ b', Looks M h (f a b) (.yield b') ∧ R l b') : ∀ (l : List α) (b : β), R l b → ∃ b', Looks M h (forIn l b f) b' ∧ R [] b'
  | [], b, r => ⟨b, by rw [List.forIn_nil]; exact .of_pure rfl, r⟩
  | a :: l, b, r => by
    obtain ⟨b1, l1, r1⟩ := hs a l b r
    obtain ⟨b2, l2, r2⟩ := looks_for R hs l b1 r1
    refine ⟨b2, ?_, r2⟩
    rw [List.forIn_cons]
    exact l1.andThen l2
theorem looks_forThen {α β γ : Type} {M : Model} {h : Heap} {f : α → β → Sem (ForInStep β)} {k : β → Sem γ} {l : List α} {b : β} {r : γ} (R : List α → β → Prop) (hs : ∀ a l b, R (a :: l) b → ∃ b', Looks M h (f a b) (.yield b') ∧ R l b') (r0 : R l b) (hk : ∀ b', R [] b' → Looks M h (k b') r) : Looks M h (forIn l b f >>= k) r := by
  obtain ⟨b', l1, r1⟩ := looks_for R hs l b r0
  exact l1.andThen (hk b' r1)
/-- those that lack, behind -/
def addM (S : List (Str × Value)) (l : List (Str × Value)) : List (Str × Value) := l.foldl (fun s q => if (s.lookup q.1).isNone then s ++ [q] else s) S
def bindsOf (ns ko : List Str) (us its : List Value) (kw : List (Str × Value)) (mv : List Value) : List (Str × Value) :=
  (ns ++ ko).filterMap fun n => ((addM (addM (ns.zip us ++ kw) ((ns.drop (ns.length - its.length)).zip its)) (ko.zip mv)).lookup n).map fun v => (n, v)
theorem lookup_isSome (k : Str) : ∀ l : List (Str × Value), (l.lookup k).isSome = (l.map (·.1)).contains k
  | [] => rfl
  | (j, v) :: l => by
    have ih := lookup_isSome k l
    rw [List.lookup_cons, List.map_cons, List.contains_cons]
    cases e : (k == j) with
    | true => rfl
    | false => rw [Bool.false_or]; exact ih
theorem zip_fst : ∀ (a : List Str) (b : List Value), b.length ≤ a.length → (a.zip b).map (·.1) = a.take b.length
  | [], [], _ => rfl
  | [], _ :: _, h => absurd h (Nat.not_succ_le_zero _)
  | _ :: _, [], _ => rfl
  | x :: a, y :: b, h => by
    rw [List.zip_cons_cons, List.map_cons, zip_fst a b (Nat.le_of_succ_le_succ h)]
    rfl
theorem looks_bind {K : Frag} {M : Model} {h : Heap} {fd : FuncData} {T D : Addr} {o : Obj} {m : Nat} {ns ko ks : List Str} {us its ws mv : List Value} (X : K.In h) (h1 : fd.params.posonlyargs = []) (h2 : fd.params.vararg = none) (h3 : fd.params.kwarg = none) (h4 : fd.params.args.map (·.arg) = ns) (h5 : fd.params.kwonlyargs.map (·.arg) = ko)
    (hd : fd.defaults = .ref T) (lT : K.lookup T = some o) (oT : o.data = .seq its.toArray m) (hk : fd.kwdefaults = .ref D) (hks : ∀ q ∈ ko.zip mv, nsIn K D q.1 = some (some q.2)) (lm : mv.length = ko.length)
    (lu : us.length ≤ ns.length) (lw : ws.length = ks.length) (li : its.length ≤ ns.length) (hc : ∀ k ∈ ks, (ns.contains k || ko.contains k) = true) (nd : (ns.take us.length ++ ks).Nodup) (hm : ∀ x ∈ ns.take (ns.length - its.length), (ns.take us.length ++ ks).contains x = true) :
    Looks M h (bindArgs fd ⟨us, ks.zip ws⟩) (bindsOf ns ko us its (ks.zip ws) mv) := by
  unfold bindArgs
  simp only [h1, h2, h3, h4, h5, List.map_nil, List.nil_append]
  have kz := zip_fst ns us lu
  have kk : (ks.zip ws).map (·.1) = ks := by
    rw [zip_fst ks ws (by omega), lw, List.take_length]
  -- the keywords
  refine looks_forThen (fun (l : List (Str × Value)) (b : List (Str × Value) × List (Str × Value)) => ∃ pre, ks.zip ws = pre ++ l ∧ b = (ns.zip us ++ pre, [])) ?_ ⟨[], rfl, by rw [List.append_nil]⟩ ?_
  · rintro a l b ⟨pre, e1, rfl⟩
    refine ⟨(ns.zip us ++ (pre ++ [a]), []), ?_, pre ++ [a], by rw [e1]; simp, rfl⟩
    have ea : ks = pre.map (·.1) ++ a.1 :: l.map (·.1) := by rw [← kk, e1]; simp
    have hin : a.1 ∈ ks := by rw [ea]; simp
    have hno : ((ns.zip us ++ pre).lookup a.1).isSome = false := by
      rw [lookup_isSome, List.map_append, kz]
      have h6 := nd
      rw [ea, ← List.append_assoc] at h6
      have h7 := (List.nodup_append.mp h6).2.2
      cases q : (ns.take us.length ++ pre.map (·.1)).contains a.1 with
      | false => rfl
      | true => exact absurd rfl (h7 a.1 (by simpa using q) a.1 List.mem_cons_self)
    rw [if_pos (hc a.1 hin), if_neg (by rw [hno]; exact Bool.false_ne_true)]
    exact .of_pure (by rw [List.append_assoc])
  rintro _ ⟨pre, e1, rfl⟩
  rw [List.append_nil] at e1
  subst e1
  rw [hd]
  refine looks_items X lT oT ?_
  have hg : ¬ ((decide (us.length > ns.length) && (none : Option Arg).isNone) = true) := by
    rw [decide_eq_false (by omega)]
    exact Bool.false_ne_true
  rw [if_neg hg]
  have ed : List.drop (((some its.toArray).getD #[]).toList.length - ns.length) ((some its.toArray).getD #[]).toList = its := by
    have e0 : ((some its.toArray).getD #[]).toList = its := rfl
    rw [e0, show its.length - ns.length = 0 by omega, List.drop_zero]
  rw [ed]
  have hmiss : List.filter (fun n => (List.lookup n ((ns.zip us ++ ks.zip ws, ([] : List (Str × Value))).fst)).isNone) (List.take (ns.length - its.length) ns) = [] := by
    rw [List.filter_eq_nil_iff]
    intro x hx
    have h6 := hm x hx
    have h7 := lookup_isSome x (ns.zip us ++ ks.zip ws)
    rw [List.map_append, kz, kk, h6] at h7
    show ¬ (List.lookup x (ns.zip us ++ ks.zip ws)).isNone = true
    cases e : List.lookup x (ns.zip us ++ ks.zip ws) with
    | none =>
      rw [e] at h7
      cases h7
    | some v => exact Bool.false_ne_true
  rw [hmiss]
  rw [if_neg (by simp)]
  -- defaults
  refine looks_forThen (fun (l : List (Str × Value)) (b : List (Str × Value)) => ∃ pre, (ns.drop (ns.length - its.length)).zip its = pre ++ l ∧ b = addM (ns.zip us ++ ks.zip ws) pre) ?_ ⟨[], rfl, rfl⟩ ?_
  · rintro a l b ⟨pre, e1, rfl⟩
    refine ⟨addM (ns.zip us ++ ks.zip ws) (pre ++ [a]), ?_, pre ++ [a], by rw [e1]; simp, rfl⟩
    have ea : addM (ns.zip us ++ ks.zip ws) (pre ++ [a]) = if ((addM (ns.zip us ++ ks.zip ws) pre).lookup a.1).isNone then addM (ns.zip us ++ ks.zip ws) pre ++ [a] else addM (ns.zip us ++ ks.zip ws) pre := by
      unfold addM
      rw [List.foldl_append]
      rfl
    rw [ea]
    by_cases q : ((addM (ns.zip us ++ ks.zip ws) pre).lookup a.1).isNone = true
    · rw [if_pos q, if_pos q]
      exact .of_pure rfl
    · rw [if_neg q, if_neg q]
      exact .of_pure rfl
  rintro _ ⟨pre, e1, rfl⟩
  rw [List.append_nil] at e1
  subst e1
  generalize hS : addM (ns.zip us ++ ks.zip ws) ((ns.drop (ns.length - its.length)).zip its) = S2
  -- keyword-only ones
  refine looks_forThen (fun (l : List Str) (b : List (Str × Value) × List Str) => ∃ pre m1 m2, ko = pre ++ l ∧ mv = m1 ++ m2 ∧ m1.length = pre.length ∧ b = (addM S2 (pre.zip m1), [])) ?_ ⟨[], [], mv, rfl, rfl, rfl, rfl⟩ ?_
  · rintro a l b ⟨pre, m1, m2, e1, e2, e3, rfl⟩
    cases m2 with
    | nil =>
      rw [e1, e2] at lm
      simp at lm
      omega
    | cons v m2 =>
      have ez : ko.zip mv = pre.zip m1 ++ (a, v) :: l.zip m2 := by
        rw [e1, e2, List.zip_append e3.symm]
        rfl
      have hq := hks (a, v) (by rw [ez]; simp)
      have ea : addM S2 ((pre ++ [a]).zip (m1 ++ [v])) = if ((addM S2 (pre.zip m1)).lookup a).isNone then addM S2 (pre.zip m1) ++ [(a, v)] else addM S2 (pre.zip m1) := by
        rw [List.zip_append e3.symm]
        unfold addM
        rw [List.foldl_append]
        rfl
      refine ⟨(addM S2 ((pre ++ [a]).zip (m1 ++ [v])), []), ?_, pre ++ [a], m1 ++ [v], m2, by rw [e1]; simp, by rw [e2]; simp, by rw [List.length_append, List.length_append, e3]; rfl, rfl⟩
      rw [ea]
      by_cases q : ((addM S2 (pre.zip m1)).lookup a).isNone = true
      · rw [if_pos q, if_pos q, hk]
        exact (looks_nsIn X hq).andThen (.of_pure rfl)
      · rw [if_neg q, if_neg q]
        exact .of_pure rfl
  rintro _ ⟨pre, m1, m2, e1, e2, e3, rfl⟩
  rw [List.append_nil] at e1
  subst e1
  have em : m2 = [] := by
    rw [e2, List.length_append] at lm
    exact List.length_eq_zero_iff.mp (by omega)
  subst em
  rw [List.append_nil] at e2
  subst e2
  rw [if_neg (by simp)]
  refine .of_pure ?_
  unfold bindsOf
  rw [hS]
/-- the keywords of a call with all keyword-only defaults told: what it binds -/
theorem kbn {K : Frag} {x qual : Str} {params : Arguments} {body : List Stmt} {scope : Scope} {dvs : List V} {kws : List (Str × V)} {f : Addr} {fd : FuncData} (F : FunD K x qual params body scope dvs kws f fd) {ns ko ps : List Str} (n : Nat) (ks : List Str) (hd : dvs ≠ []) (hk : kws ≠ []) (h1 : params.posonlyargs = []) (h2 : params.vararg = none) (h3 : params.kwarg = none) (h4 : params.args.map (·.arg) = ns) (h5 : params.kwonlyargs.map (·.arg) = ko) (hko : kws.map (·.1) = ko)
    (ln : n ≤ ns.length) (ld : dvs.length ≤ ns.length) (hc : ∀ k ∈ ks, (ns.contains k || ko.contains k) = true) (nd : (ns.take n ++ ks).Nodup) (hm : ∀ x ∈ ns.take (ns.length - dvs.length), (ns.take n ++ ks).contains x = true)
    (g : {α : Type} → List α → List α → List α → List α → List α) (hrel : ∀ {vs ds mz zs : List V} {us its mv ws : List Value}, Vals vs us → Vals ds its → Vals mz mv → Vals zs ws → Vals (g vs ds mz zs) (g us its mv ws))
    (hb : ∀ us its mv ws : List Value, us.length = n → its.length = dvs.length → mv.length = kws.length → ws.length = ks.length → bindsOf ns ko us its (ks.zip ws) mv = ps.zip (g us its mv ws)) :
    ∃ its mv : List Value, KBn K fd ps n ks (fun us ws => g us its mv ws) (fun vs zs => g vs dvs (kws.map (·.2)) zs) := by
  obtain ⟨oc, od, dV, kV, doc, pm, an, cdv, ct, osl, rfl, lk, hcd, hD, hK⟩ := F.ex
  rcases hD with ⟨e, _⟩ | ⟨_, T, o, its, m, rfl, lT, oT, rT⟩
  · exact absurd e hd
  · rcases hK with e | ⟨D, rfl, hq⟩
    · exact absurd e hk
    · obtain ⟨mv, hl, rk, hks⟩ := kwd_vals hq
      have li := rT.length
      refine ⟨its, mv, ⟨fun s us ws X l1 l2 => ?_, fun r1 r2 => hrel r1 rT rk r2⟩⟩
      rw [← hb us its mv ws l1 li.symm hl l2]
      rw [hko] at hks
      refine BindsTo.of_looks fun M => looks_bind X h1 h2 h3 h4 h5 rfl lT oT rfl hks ?_ (by omega) l2 (by omega) hc (by rw [l1]; exact nd) (by rw [l1, ← li]; exact hm)
      rw [hl, ← hko, List.length_map]
end XB

namespace K46
open PySem L2 PyProof.Rows
/-! ### options as data; the name of an argument -/
def gD (ld : DD) (k : Str) : PyData := (lookD ld k).getD .none
structure OpH (H : Hp) (o : Addr) (kvs : List (Key × V)) (ld : DD) : Prop where
  at_ : H o = some (.dK kvs)
  he : Held H kvs ld
theorem OpH.keep {H H' : Hp} {o : Addr} {kvs : List (Key × V)} {ld : DD} (h : OpH H o kvs ld) (e : Same H H') : OpH H' o kvs ld := ⟨e _ _ h.at_, held_mono e h.he⟩
theorem OpH.iD {H : Hp} {o : Addr} {kvs : List (Key × V)} {ld : DD} (h : OpH H o kvs ld) : IsD H o := .inl ⟨_, .inl h.at_⟩
/-- what the options tell for a key -/
theorem OpH.get {H : Hp} {o : Addr} {kvs : List (Key × V)} {ld : DD} (h : OpH H o kvs ld) (k : Str) : ∃ ov, DGet H o (.str k) ov ∧ ((lookD ld k = none ∧ ov = none) ∨ ∃ d v, lookD ld k = some d ∧ ov = some v ∧ Dt H v d) := by
  refine ⟨_, DGet.k (k := (Sum.inr k : Key)) h.at_, ?_⟩
  rcases held_look k h.he with ⟨h1, h2⟩ | ⟨d, v, h1, h2, h3⟩
  · exact .inl ⟨h1, h2⟩
  · exact .inr ⟨d, v, h1, h2, h3⟩
/-- with a default of None -/
theorem OpH.getN {H : Hp} {o : Addr} {kvs : List (Key × V)} {ld : DD} (h : OpH H o kvs ld) (k : Str) : ∃ ov, DGet H o (.str k) ov ∧ Dt H (ov.getD .non) (gD ld k) := by
  obtain ⟨ov, h1, h2⟩ := h.get k
  refine ⟨ov, h1, ?_⟩
  unfold gD
  rcases h2 with ⟨e, rfl⟩ | ⟨d, v, e, rfl, hv⟩
  · rw [e]
    exact .non
  · rw [e]
    exact hv
structure Nmd (gs : List Str) (io : Bool) (ld : DD) : Prop where
  des : ∀ d, lookD ld "dest" = some d → ∃ z, d = .str z ∧ z ≠ "" ∧ z.length ≤ 100
  pos : io = false → ((lookD ld "dest" = none ∧ gs.length = 1) ∨ ((lookD ld "dest").isSome = true ∧ gs = []))
def headF (pf : Str) (gs : List Str) : Str := ((gs.filter fun x => inP pf (wAt x 1)) ++ gs).headD ""
def destOf (pf : Str) (gs : List Str) (io : Bool) (ld : DD) : Str := match lookD ld "dest" with
  | some (.str z) => z
  | _ => if io then Txt.replace (Txt.lstripChars (headF pf gs) pf) "-" "_" else gs.headD ""
def spNamed : Sp := fun vs H Q _ => ∃ (fa m o : Addr) (pf : Str) (gs : List Str) (io : Bool) (kvs : List (Key × V)) (ld : DD), vs = [.ref fa, .ref m, .ref o, .str pf] ∧ SeqF H fa (gs.map V.str) ∧ H m = some (.tup ((flOf gs io).map V.str)) ∧ Gv pf gs io ∧ OpH H o kvs ld ∧ Nmd gs io ld ∧ ∀ H', Same H H' → Q (.str (destOf pf gs io ld)) H'
theorem flOf_so {pf : Str} {gs : List Str} {io : Bool} (h : Gv pf gs io) : ∀ x ∈ flOf gs io, PyData.strOk x = true := fun x hx => by
  unfold flOf at hx
  cases io with
  | true => exact ((h.op rfl).2 x hx).so
  | false => exact nomatch hx
theorem replace1_len {x : Str} (h : x.length ≤ 1000) : x.length + (x.length + 1) * ("_" : Str).length ≤ 16777216 := by
  have : ("_" : Str).length = 1 := by decide
  rw [this]
  omega
section
variable {P : Program} {w : World} {K : PySem.W.Frag} {mg : Str → Option Value} {base : Heap}
abbrev nNamed : List Str := ["flags", "made", "options", "prefix_chars", "given", "long", "flag"]
theorem scNamed : FnScope nNamed ["flags", "made", "options", "prefix_chars"] (defScope sNamed) := ⟨rfl, rfl, rfl, by decide +kernel, rfl, by decide +kernel, by decide +kernel⟩
theorem ok_named {f : Addr} {fd : FuncData} (F : Fun K "named" "named" sNamed f fd) (T : TxtB mg) (zStr : mg "str" = none) : FnOk P w K mg base CX0 1 f fd ["flags", "made", "options", "prefix_chars"] spNamed := by
  refine F.ok scNamed (fun vs H Q E h => ?_) (fun cdv A outer s H vs Q E hr h => ?_)
  · obtain ⟨fa, m, o, pf, gs, io, kvs, ld, rfl, _⟩ := h
    rfl
  · obtain ⟨fa, m, o, pf, gs, io, kvs, ld, rfl, hfa, hm, hG, hO, hN, k⟩ := h
    have hu : (A.deeper (PyProof.Rows.envOfC "named" (defScope sNamed) s.heap.objs.size f cdv)).units + 64 < cLine := hr.units
    have hu1 := hu_of hr
    have hn := hG.n
    have hpl := hG.pl
    have so := flOf_so hG
    have sh := strs_shaped so
    rcases hfa with hfa | hfa
    · refine ⟨_, XTokIn.pss_dinT (i := 4) scNamed.nd rfl (Or.inl rfl) hu1 (pv 2)
        (psst_cons (PST.of (ps_if (PW.pt (pw_and (pt_val (pv 4)) (pw_and1 (PW.pt (pw_or (pt_not (pt_val (pe_callB call_isi (by rfl) T.isinstance (by decide +kernel) (pa_cons (pe_dget hu1 (pv 2) pe_str (fun _ _ => rfl)) (pa_cons (pe_bltn (v := .ty "str") (by rfl) zStr (by decide +kernel) rfl) pa_nil))))) (pw_or1 (pt_cmpR op_eq (pe_dget hu1 (pv 2) pe_str (fun _ _ => rfl)) pe_str (nomark _)))))))) pss_never pss_nil))
        (psst_cons (PST.of (ps_if (PW.pt (pw_and (pt_cmpR (op_eqD hu) (pv 1) (pe_tup pa_nil) (nomark _)) (pw_and1 (pt_cmpR op_eq (pv 4) (pe_cmpR op_eq (pe_callB call_len_seq (by rfl) T.len PySem.boot_len (pa_cons (pv 0) pa_nil)) pe_int (nomark _)) (nomark _))))) pss_never pss_nil))
        (psst_cons (PST.of (ps_if (pt_val (pv 4)) (pss_one (ps_ret (pe_dget hu1 (pv 2) pe_str (fun _ _ => rfl)))) pss_nil))
        (psst_cons (PST.of (ps_if (pt_cmpR (op_eqD hu) (pv 1) (pe_tup pa_nil) (nomark _)) (pss_one (ps_ret (pe_ix ix_list (pv 0) pe_int (fun _ _ => rfl)))) pss_nil))
        (psst_cons (PST.of (ps_setLc (i := 5) (own := [("flag", 6)]) (g := gName 6) (tt := tTest (tOp (fun x y H Q => ∃ i j, x = .str i ∧ y = .str j ∧ Q (.bl (!(Builtin.Str.occurrences j i 0 j.length 1).isEmpty)) H) (tOp rIxS (tVar 6) (tC (.int 1))) (tVar 3))) (te := tVar 6) rfl scNamed.nd rfl rfl (sw_true rfl rfl rfl (by decide +kernel)) (pi_tup (pv 1)) (blkOk_by (N := nNamed) (sc := defScope sNamed) (by decide +kernel)) (fun _ _ _ _ _ => pg_name (i := 6) scNamed.nd rfl (Or.inl rfl)) (fun _ _ _ _ _ => by exact pts_one (pt_cmpR op_in_str (pe_ix ix_str (pv 6) pe_int (fun _ _ => rfl)) (pv 3) (by rfl))) (fun _ _ _ _ _ => by exact pv 6)))
        (CwR.psst_one (CwR.pst_ret (CwR.pet_replC (pe_bm PySem.F.plainAttrs_str PySem.F.slot_str_lstrip PySem.F.type_str_lstrip mt_lstripChars (pe_ix ix_list (pe_op op_cat (pv 5) (pe_callTy call_list_of (by rfl) T.list (by decide +kernel) (pa_cons (pv 1) pa_nil))) pe_int (fun _ _ => rfl)) (pa_cons (pv 3) pa_nil))))))))))
        (by rfl), ?_⟩
      obtain ⟨ov, g1, g2⟩ := hO.get "dest"
      refine ⟨_, rfl, o, _, rfl, g1, ?_⟩
      refine ⟨_, rfl, _, rfl, ?_⟩
      rcases g2 with ⟨hd, rfl⟩ | ⟨d, v, hd, rfl, hv⟩
      · -- no name is given
        refine iteF (iteF ?_)
        refine ⟨_, rfl, (by show 0 ≤ sizeLine; decide), fun p hp => ?_⟩
        have e1 := same_upd (o := .tup []) hp
        have hm1 := e1 _ _ hm
        have hfa1 := e1 _ _ hfa
        have hp1 : (upd H p (.tup [])) p = some (.tup []) := upd_same
        generalize upd H p (.tup []) = H1 at e1 hm1 hfa1 hp1
        refine ⟨_, _, .tup (SqT.of hm1) (dpAll_strs _), .tup (SqT.of hp1) .nil, sh, by decide, _, rfl, ?_⟩
        cases io with
        | false =>
          rcases hN.pos rfl with ⟨_, hl⟩ | ⟨h, _⟩
          · obtain ⟨g, rfl⟩ : ∃ g, gs = [g] := by
              cases gs with
              | nil => cases hl
              | cons g r =>
                cases r with
                | nil => exact ⟨g, rfl⟩
                | cons _ _ => simp at hl
            refine iteT ⟨_, rfl, _, rfl, fa, _, rfl, .inl (SqL.of hfa1), rfl, rfl, false, rfl, iteF ?_⟩
            refine ⟨_, rfl, _, rfl, iteF ?_⟩
            refine ⟨_, rfl, (by show 0 ≤ sizeLine; decide), fun q hq => ?_⟩
            have e2 := same_upd (o := .tup []) hq
            refine ⟨_, _, .tup (SqT.of (e2 _ _ hm1)) (dpAll_strs _), .tup (SqT.of upd_same) .nil, sh, by decide, true, rfl, iteT ⟨_, rfl, fa, _, _, _, rfl, rfl, SqL.of (e2 _ _ hfa1), atI_nat (j := 0) rfl, ?_⟩⟩
            have := k _ (e1.trans e2)
            unfold destOf at this
            rw [hd] at this
            exact this
          · rw [hd] at h
            cases h
        | true =>
          obtain ⟨f0, fA⟩ := hG.op rfl
          have hm1 : H1 m = some (.tup (gs.map V.str)) := hm1
          have hne : PyData.eqv (.tuple ((flOf gs true).map PyData.str)) (.tuple []) = false := by
            cases gs with
            | nil => exact absurd rfl f0
            | cons z zs => rfl
          rw [hne]
          refine iteF (iteF ⟨_, rfl, _, rfl, iteF ?_⟩)
          refine ⟨_, rfl, (by show 0 ≤ sizeLine; decide), fun q hq => ?_⟩
          have e2 := same_upd (o := .tup []) hq
          have hm2 := e2 _ _ hm1
          have hq1 : (upd H1 q (.tup [])) q = some (.tup []) := upd_same
          generalize upd H1 q (.tup []) = H2 at e2 hm2 hq1
          refine ⟨_, _, .tup (SqT.of hm2) (dpAll_strs _), .tup (SqT.of hq1) .nil, sh, by decide, _, rfl, ?_⟩
          rw [show PyData.eqv (.tuple (gs.map PyData.str)) (.tuple []) = false from hne]
          refine iteF ?_
          -- the long ones
          refine ⟨_, rfl, m, rfl, ⟨_, SqT.of hm2⟩, fun D hD => ?_⟩
          refine lc_tup (K := K) (a := m) (xs := gs.map V.str) (fun i H' => Same H2 H' ∧ H' D = some (.lst (((gs.take i).filter fun x => inP pf (wAt x 1)).map V.str))) ⟨same_upd hD, upd_same⟩ (fun i H' _ h => SqT.of (h.1 _ _ hm2)) (fun i x H' hx h => ?_) (fun H3 h => ?_)
          · obtain ⟨y, hy, rfl⟩ := str_at hx
            have hyf := fA y (List.mem_of_getElem? hy)
            have hyl := hyf.l2
            have hyn := hyf.ln
            have hi := (List.getElem?_eq_some_iff.mp hy).1
            refine ⟨rfl, _, rfl, y, 1, _, rfl, rfl, (by rw [PySem.sizeLine_eq]; omega), (wAt_at (x := y) (i := 1) (by omega) : atI y.cps.toList ((1 : Nat) : Int) = _), _, rfl, _, _, rfl, rfl, _, rfl, ?_⟩
            rw [take_more' hy, List.filter_append, List.filter_cons, List.filter_nil]
            have hle : (((gs.take i).filter fun x => inP pf (wAt x 1)).map V.str).length < sizeLine := by
              rw [List.length_map, PySem.sizeLine_eq]
              have := List.length_filter_le (fun x => inP pf (wAt x 1)) (gs.take i)
              rw [List.length_take] at this
              omega
            show ite (inP pf (wAt y 1) = true) _ _
            refine ite2 (fun hc => ?_) (fun hc => ?_)
            · refine ⟨_, rfl, _, h.2, hle, same_mut h.1 hD, ?_⟩
              rw [upd_same, if_pos hc, List.map_append]
              rfl
            · rw [if_neg hc, List.append_nil]
              exact h
          obtain ⟨e3, hD3⟩ := h
          rw [List.length_map, List.take_length] at hD3
          have hm3 := e3 _ _ hm2
          refine ⟨_, rfl, _, rfl, m, _, rfl, .inr (SqT.of hm3), fun p2 hp2 => ?_⟩
          have e4 := same_upd (o := .lst (gs.map V.str)) hp2
          have hp2' : (upd H3 p2 (.lst (gs.map V.str))) p2 = some (.lst (gs.map V.str)) := upd_same
          have hD4 := e4 _ _ hD3
          generalize upd H3 p2 (.lst (gs.map V.str)) = H4 at e4 hp2' hD4
          have hfl := List.length_filter_le (fun x => inP pf (wAt x 1)) gs
          refine ⟨D, p2, _, _, rfl, rfl, hD4, hp2', by rw [List.length_map, List.length_map, PySem.sizeLine_eq]; omega, fun p3 hp3 => ?_⟩
          have e5 := same_upd (o := .lst ((gs.filter fun x => inP pf (wAt x 1)).map V.str ++ gs.map V.str)) hp3
          obtain ⟨z, hz, hzf⟩ : ∃ z, (gs.filter (fun x => inP pf (wAt x 1)) ++ gs)[0]? = some z ∧ FlOk pf z := by
            cases hc : gs.filter (fun x => inP pf (wAt x 1)) ++ gs with
            | nil =>
              have := (List.append_eq_nil_iff.mp hc).2
              exact absurd this f0
            | cons z r =>
              refine ⟨z, rfl, fA z ?_⟩
              have : z ∈ gs.filter (fun x => inP pf (wAt x 1)) ++ gs := by rw [hc]; exact List.mem_cons_self
              rcases List.mem_append.mp this with h | h
              · exact (List.mem_filter.mp h).1
              · exact h
          have hzn := hzf.ln
          refine ⟨p3, _, 0, V.str z, rfl, rfl, SqL.of upd_same, ?_, rfl, _, rfl, _, _, rfl, rfl, (by rw [PySem.sizeLine_eq]; omega), _, rfl, replace1_len ?_, ?_⟩
          · have h0 : (List.map V.str (gs.filter fun x => inP pf (wAt x 1)) ++ List.map V.str gs)[0]? = some (V.str z) := by
              rw [← List.map_append, List.getElem?_map, hz]
              rfl
            exact atI_nat h0
          · have := hzf.sl
            omega
          · have := k _ (((e1.trans e2).trans (e3.trans e4)).trans e5)
            unfold destOf headF at this
            rw [hd] at this
            have hh : (gs.filter (fun x => inP pf (wAt x 1)) ++ gs).headD "" = z := by
              cases hc : gs.filter (fun x => inP pf (wAt x 1)) ++ gs with
              | nil =>
                rw [hc] at hz
                cases hz
              | cons y r =>
                rw [hc] at hz
                exact Option.some.inj hz
            rw [hh] at this
            exact this
      · -- a name is given
        obtain ⟨z, rfl, z0, zl⟩ := hN.des d hd
        obtain rfl : v = V.str z := by
          cases hv
          rfl
        have gg : ∀ H', Same H H' → DGet H' o (.str "dest") (some (.str z)) := fun H' e => by
          obtain ⟨ov', q1, q2⟩ := (hO.keep e).get "dest"
          rcases q2 with ⟨q, _⟩ | ⟨d', v', q, rfl, qv⟩
          · rw [hd] at q
            cases q
          · rw [hd] at q
            cases q
            cases qv
            exact q1
        have fin : ∀ H', Same H H' → Q (.str z) H' := fun H' e => by
          have := k H' e
          unfold destOf at this
          rw [hd] at this
          exact this
        refine iteT ⟨_, rfl, o, _, rfl, gg H (Same.refl _), _, .ty "str", _, _, true, rfl, .ty _, .base (.str z), kit_ty (by decide +kernel), _, rfl, iteF ⟨_, rfl, o, _, rfl, gg H (Same.refl _), rfl, false, congrArg V.bl (decide_eq_false fun q => z0 (V.str.inj q)), iteF ?_⟩⟩
        refine ⟨_, rfl, (by show 0 ≤ sizeLine; decide), fun p hp => ?_⟩
        have e1 := same_upd (o := .tup []) hp
        have hm1 := e1 _ _ hm
        have hfa1 := e1 _ _ hfa
        have hp1 : (upd H p (.tup [])) p = some (.tup []) := upd_same
        generalize upd H p (.tup []) = H1 at e1 hm1 hfa1 hp1
        refine ⟨_, _, .tup (SqT.of hm1) (dpAll_strs _), .tup (SqT.of hp1) .nil, sh, by decide, _, rfl, ?_⟩
        refine ite2 (fun hc => ?_) (fun hc => ?_)
        · have hgl : gs.length ≠ 1 := by
            cases io with
            | true =>
              exfalso
              have hc' : PyData.eqv (.tuple ((flOf gs true).map PyData.str)) (.tuple []) = true := hc
              cases gs with
              | nil => exact (hG.op rfl).1 rfl
              | cons z zs => cases hc'
            | false =>
              rcases hN.pos rfl with ⟨h, _⟩ | ⟨_, h⟩
              · rw [hd] at h
                cases h
              · rw [h]
                decide
          refine ⟨_, rfl, _, rfl, fa, _, rfl, .inl (SqL.of hfa1), rfl, rfl, false, ?_, iteF ?_⟩
          · refine congrArg V.bl (decide_eq_false fun q => ?_)
            have q' := (V.bl.inj q).symm
            have := V.int.inj (of_decide_eq_true q')
            rw [List.length_map] at this
            omega
          exact ⟨_, rfl, _, rfl, iteT ⟨_, rfl, o, _, rfl, gg _ e1, fin _ e1⟩⟩
        · exact iteF ⟨_, rfl, _, rfl, iteT ⟨_, rfl, o, _, rfl, gg _ e1, fin _ e1⟩⟩
    · refine ⟨_, XTokIn.pss_dinT (i := 4) scNamed.nd rfl (Or.inl rfl) hu1 (pv 2)
        (psst_cons (PST.of (ps_if (PW.pt (pw_and (pt_val (pv 4)) (pw_and1 (PW.pt (pw_or (pt_not (pt_val (pe_callB call_isi (by rfl) T.isinstance (by decide +kernel) (pa_cons (pe_dget hu1 (pv 2) pe_str (fun _ _ => rfl)) (pa_cons (pe_bltn (v := .ty "str") (by rfl) zStr (by decide +kernel) rfl) pa_nil))))) (pw_or1 (pt_cmpR op_eq (pe_dget hu1 (pv 2) pe_str (fun _ _ => rfl)) pe_str (nomark _)))))))) pss_never pss_nil))
        (psst_cons (PST.of (ps_if (PW.pt (pw_and (pt_cmpR (op_eqD hu) (pv 1) (pe_tup pa_nil) (nomark _)) (pw_and1 (pt_cmpR op_eq (pv 4) (pe_cmpR op_eq (pe_callB call_len_seq (by rfl) T.len PySem.boot_len (pa_cons (pv 0) pa_nil)) pe_int (nomark _)) (nomark _))))) pss_never pss_nil))
        (psst_cons (PST.of (ps_if (pt_val (pv 4)) (pss_one (ps_ret (pe_dget hu1 (pv 2) pe_str (fun _ _ => rfl)))) pss_nil))
        (psst_cons (PST.of (ps_if (pt_cmpR (op_eqD hu) (pv 1) (pe_tup pa_nil) (nomark _)) (pss_one (ps_ret (pe_ix ix_tup (pv 0) pe_int (fun _ _ => rfl)))) pss_nil))
        (psst_cons (PST.of (ps_setLc (i := 5) (own := [("flag", 6)]) (g := gName 6) (tt := tTest (tOp (fun x y H Q => ∃ i j, x = .str i ∧ y = .str j ∧ Q (.bl (!(Builtin.Str.occurrences j i 0 j.length 1).isEmpty)) H) (tOp rIxS (tVar 6) (tC (.int 1))) (tVar 3))) (te := tVar 6) rfl scNamed.nd rfl rfl (sw_true rfl rfl rfl (by decide +kernel)) (pi_tup (pv 1)) (blkOk_by (N := nNamed) (sc := defScope sNamed) (by decide +kernel)) (fun _ _ _ _ _ => pg_name (i := 6) scNamed.nd rfl (Or.inl rfl)) (fun _ _ _ _ _ => by exact pts_one (pt_cmpR op_in_str (pe_ix ix_str (pv 6) pe_int (fun _ _ => rfl)) (pv 3) (by rfl))) (fun _ _ _ _ _ => by exact pv 6)))
        (CwR.psst_one (CwR.pst_ret (CwR.pet_replC (pe_bm PySem.F.plainAttrs_str PySem.F.slot_str_lstrip PySem.F.type_str_lstrip mt_lstripChars (pe_ix ix_list (pe_op op_cat (pv 5) (pe_callTy call_list_of (by rfl) T.list (by decide +kernel) (pa_cons (pv 1) pa_nil))) pe_int (fun _ _ => rfl)) (pa_cons (pv 3) pa_nil))))))))))
        (by rfl), ?_⟩
      obtain ⟨ov, g1, g2⟩ := hO.get "dest"
      refine ⟨_, rfl, o, _, rfl, g1, ?_⟩
      refine ⟨_, rfl, _, rfl, ?_⟩
      rcases g2 with ⟨hd, rfl⟩ | ⟨d, v, hd, rfl, hv⟩
      · -- no name is given
        refine iteF (iteF ?_)
        refine ⟨_, rfl, (by show 0 ≤ sizeLine; decide), fun p hp => ?_⟩
        have e1 := same_upd (o := .tup []) hp
        have hm1 := e1 _ _ hm
        have hfa1 := e1 _ _ hfa
        have hp1 : (upd H p (.tup [])) p = some (.tup []) := upd_same
        generalize upd H p (.tup []) = H1 at e1 hm1 hfa1 hp1
        refine ⟨_, _, .tup (SqT.of hm1) (dpAll_strs _), .tup (SqT.of hp1) .nil, sh, by decide, _, rfl, ?_⟩
        cases io with
        | false =>
          rcases hN.pos rfl with ⟨_, hl⟩ | ⟨h, _⟩
          · obtain ⟨g, rfl⟩ : ∃ g, gs = [g] := by
              cases gs with
              | nil => cases hl
              | cons g r =>
                cases r with
                | nil => exact ⟨g, rfl⟩
                | cons _ _ => simp at hl
            refine iteT ⟨_, rfl, _, rfl, fa, _, rfl, .inr (SqT.of hfa1), rfl, rfl, false, rfl, iteF ?_⟩
            refine ⟨_, rfl, _, rfl, iteF ?_⟩
            refine ⟨_, rfl, (by show 0 ≤ sizeLine; decide), fun q hq => ?_⟩
            have e2 := same_upd (o := .tup []) hq
            refine ⟨_, _, .tup (SqT.of (e2 _ _ hm1)) (dpAll_strs _), .tup (SqT.of upd_same) .nil, sh, by decide, true, rfl, iteT ⟨_, rfl, fa, _, _, _, rfl, rfl, SqT.of (e2 _ _ hfa1), atI_nat (j := 0) rfl, ?_⟩⟩
            have := k _ (e1.trans e2)
            unfold destOf at this
            rw [hd] at this
            exact this
          · rw [hd] at h
            cases h
        | true =>
          obtain ⟨f0, fA⟩ := hG.op rfl
          have hm1 : H1 m = some (.tup (gs.map V.str)) := hm1
          have hne : PyData.eqv (.tuple ((flOf gs true).map PyData.str)) (.tuple []) = false := by
            cases gs with
            | nil => exact absurd rfl f0
            | cons z zs => rfl
          rw [hne]
          refine iteF (iteF ⟨_, rfl, _, rfl, iteF ?_⟩)
          refine ⟨_, rfl, (by show 0 ≤ sizeLine; decide), fun q hq => ?_⟩
          have e2 := same_upd (o := .tup []) hq
          have hm2 := e2 _ _ hm1
          have hq1 : (upd H1 q (.tup [])) q = some (.tup []) := upd_same
          generalize upd H1 q (.tup []) = H2 at e2 hm2 hq1
          refine ⟨_, _, .tup (SqT.of hm2) (dpAll_strs _), .tup (SqT.of hq1) .nil, sh, by decide, _, rfl, ?_⟩
          rw [show PyData.eqv (.tuple (gs.map PyData.str)) (.tuple []) = false from hne]
          refine iteF ?_
          -- the long ones
          refine ⟨_, rfl, m, rfl, ⟨_, SqT.of hm2⟩, fun D hD => ?_⟩
          refine lc_tup (K := K) (a := m) (xs := gs.map V.str) (fun i H' => Same H2 H' ∧ H' D = some (.lst (((gs.take i).filter fun x => inP pf (wAt x 1)).map V.str))) ⟨same_upd hD, upd_same⟩ (fun i H' _ h => SqT.of (h.1 _ _ hm2)) (fun i x H' hx h => ?_) (fun H3 h => ?_)
          · obtain ⟨y, hy, rfl⟩ := str_at hx
            have hyf := fA y (List.mem_of_getElem? hy)
            have hyl := hyf.l2
            have hyn := hyf.ln
            have hi := (List.getElem?_eq_some_iff.mp hy).1
            refine ⟨rfl, _, rfl, y, 1, _, rfl, rfl, (by rw [PySem.sizeLine_eq]; omega), (wAt_at (x := y) (i := 1) (by omega) : atI y.cps.toList ((1 : Nat) : Int) = _), _, rfl, _, _, rfl, rfl, _, rfl, ?_⟩
            rw [take_more' hy, List.filter_append, List.filter_cons, List.filter_nil]
            have hle : (((gs.take i).filter fun x => inP pf (wAt x 1)).map V.str).length < sizeLine := by
              rw [List.length_map, PySem.sizeLine_eq]
              have := List.length_filter_le (fun x => inP pf (wAt x 1)) (gs.take i)
              rw [List.length_take] at this
              omega
            show ite (inP pf (wAt y 1) = true) _ _
            refine ite2 (fun hc => ?_) (fun hc => ?_)
            · refine ⟨_, rfl, _, h.2, hle, same_mut h.1 hD, ?_⟩
              rw [upd_same, if_pos hc, List.map_append]
              rfl
            · rw [if_neg hc, List.append_nil]
              exact h
          obtain ⟨e3, hD3⟩ := h
          rw [List.length_map, List.take_length] at hD3
          have hm3 := e3 _ _ hm2
          refine ⟨_, rfl, _, rfl, m, _, rfl, .inr (SqT.of hm3), fun p2 hp2 => ?_⟩
          have e4 := same_upd (o := .lst (gs.map V.str)) hp2
          have hp2' : (upd H3 p2 (.lst (gs.map V.str))) p2 = some (.lst (gs.map V.str)) := upd_same
          have hD4 := e4 _ _ hD3
          generalize upd H3 p2 (.lst (gs.map V.str)) = H4 at e4 hp2' hD4
          have hfl := List.length_filter_le (fun x => inP pf (wAt x 1)) gs
          refine ⟨D, p2, _, _, rfl, rfl, hD4, hp2', by rw [List.length_map, List.length_map, PySem.sizeLine_eq]; omega, fun p3 hp3 => ?_⟩
          have e5 := same_upd (o := .lst ((gs.filter fun x => inP pf (wAt x 1)).map V.str ++ gs.map V.str)) hp3
          obtain ⟨z, hz, hzf⟩ : ∃ z, (gs.filter (fun x => inP pf (wAt x 1)) ++ gs)[0]? = some z ∧ FlOk pf z := by
            cases hc : gs.filter (fun x => inP pf (wAt x 1)) ++ gs with
            | nil =>
              have := (List.append_eq_nil_iff.mp hc).2
              exact absurd this f0
            | cons z r =>
              refine ⟨z, rfl, fA z ?_⟩
              have : z ∈ gs.filter (fun x => inP pf (wAt x 1)) ++ gs := by rw [hc]; exact List.mem_cons_self
              rcases List.mem_append.mp this with h | h
              · exact (List.mem_filter.mp h).1
              · exact h
          have hzn := hzf.ln
          refine ⟨p3, _, 0, V.str z, rfl, rfl, SqL.of upd_same, ?_, rfl, _, rfl, _, _, rfl, rfl, (by rw [PySem.sizeLine_eq]; omega), _, rfl, replace1_len ?_, ?_⟩
          · have h0 : (List.map V.str (gs.filter fun x => inP pf (wAt x 1)) ++ List.map V.str gs)[0]? = some (V.str z) := by
              rw [← List.map_append, List.getElem?_map, hz]
              rfl
            exact atI_nat h0
          · have := hzf.sl
            omega
          · have := k _ (((e1.trans e2).trans (e3.trans e4)).trans e5)
            unfold destOf headF at this
            rw [hd] at this
            have hh : (gs.filter (fun x => inP pf (wAt x 1)) ++ gs).headD "" = z := by
              cases hc : gs.filter (fun x => inP pf (wAt x 1)) ++ gs with
              | nil =>
                rw [hc] at hz
                cases hz
              | cons y r =>
                rw [hc] at hz
                exact Option.some.inj hz
            rw [hh] at this
            exact this
      · -- a name is given
        obtain ⟨z, rfl, z0, zl⟩ := hN.des d hd
        obtain rfl : v = V.str z := by
          cases hv
          rfl
        have gg : ∀ H', Same H H' → DGet H' o (.str "dest") (some (.str z)) := fun H' e => by
          obtain ⟨ov', q1, q2⟩ := (hO.keep e).get "dest"
          rcases q2 with ⟨q, _⟩ | ⟨d', v', q, rfl, qv⟩
          · rw [hd] at q
            cases q
          · rw [hd] at q
            cases q
            cases qv
            exact q1
        have fin : ∀ H', Same H H' → Q (.str z) H' := fun H' e => by
          have := k H' e
          unfold destOf at this
          rw [hd] at this
          exact this
        refine iteT ⟨_, rfl, o, _, rfl, gg H (Same.refl _), _, .ty "str", _, _, true, rfl, .ty _, .base (.str z), kit_ty (by decide +kernel), _, rfl, iteF ⟨_, rfl, o, _, rfl, gg H (Same.refl _), rfl, false, congrArg V.bl (decide_eq_false fun q => z0 (V.str.inj q)), iteF ?_⟩⟩
        refine ⟨_, rfl, (by show 0 ≤ sizeLine; decide), fun p hp => ?_⟩
        have e1 := same_upd (o := .tup []) hp
        have hm1 := e1 _ _ hm
        have hfa1 := e1 _ _ hfa
        have hp1 : (upd H p (.tup [])) p = some (.tup []) := upd_same
        generalize upd H p (.tup []) = H1 at e1 hm1 hfa1 hp1
        refine ⟨_, _, .tup (SqT.of hm1) (dpAll_strs _), .tup (SqT.of hp1) .nil, sh, by decide, _, rfl, ?_⟩
        refine ite2 (fun hc => ?_) (fun hc => ?_)
        · have hgl : gs.length ≠ 1 := by
            cases io with
            | true =>
              exfalso
              have hc' : PyData.eqv (.tuple ((flOf gs true).map PyData.str)) (.tuple []) = true := hc
              cases gs with
              | nil => exact (hG.op rfl).1 rfl
              | cons z zs => cases hc'
            | false =>
              rcases hN.pos rfl with ⟨h, _⟩ | ⟨_, h⟩
              · rw [hd] at h
                cases h
              · rw [h]
                decide
          refine ⟨_, rfl, _, rfl, fa, _, rfl, .inr (SqT.of hfa1), rfl, rfl, false, ?_, iteF ?_⟩
          · refine congrArg V.bl (decide_eq_false fun q => ?_)
            have q' := (V.bl.inj q).symm
            have := V.int.inj (of_decide_eq_true q')
            rw [List.length_map] at this
            omega
          exact ⟨_, rfl, _, rfl, iteT ⟨_, rfl, o, _, rfl, gg _ e1, fin _ e1⟩⟩
        · exact iteF ⟨_, rfl, _, rfl, iteT ⟨_, rfl, o, _, rfl, gg _ e1, fin _ e1⟩⟩
end
end K46

namespace K46
open PySem L2 PyProof.Rows
/-! ### the flags that say no; the actions -/
def fel1 (pf x : Str) : List Str := if inP pf (wAt x 1) then [x, noF x] else [x]
def felStep (pf : Str) (found : List Str) (x : Str) : List Str := found ++ (fel1 pf x).filter fun y => decide (y ∉ found)
def fellows (pf : Str) (fl : List Str) : List Str := fl.foldl (felStep pf) []
theorem fel1_len (pf x : Str) : (fel1 pf x).length ≤ 2 := by
  unfold fel1
  split
  · exact Nat.le_refl 2
  · exact Nat.le_succ 1
theorem felStep_len (pf x : Str) (f : List Str) : (felStep pf f x).length ≤ f.length + 2 := by
  unfold felStep
  rw [List.length_append]
  have h1 := List.length_filter_le (fun y => decide (y ∉ f)) (fel1 pf x)
  have h2 := fel1_len pf x
  omega
theorem cutS_len (z : Str) (lo hi : Option Int) : (cutS z lo hi).length ≤ z.length := by
  unfold cutS
  simp only [PySem.Str.length, List.size_toArray, List.length_take, List.length_drop, Array.length_toList]
  omega
theorem inV_strs (x : Str) (l : List Str) : inV (.str x) (l.map V.str) = decide (x ∈ l) := by
  induction l with
  | nil => rfl
  | cons y l ih =>
    have e : inV (.str x) ((y :: l).map V.str) = ((y == x) || inV (.str x) (l.map V.str)) := rfl
    rw [e, ih]
    by_cases h : x = y
    · subst h
      rw [decide_eq_true (List.mem_cons_self : x ∈ x :: l)]
      simp
    · have h1 : (y == x) = false := by
        rw [beq_eq_false_iff_ne]
        exact fun z => h z.symm
      rw [h1, Bool.false_or]
      refine decide_eq_decide.mpr ⟨fun q => List.mem_cons_of_mem _ q, fun q => ?_⟩
      rcases List.mem_cons.mp q with q | q
      · exact absurd q h
      · exact q
theorem flat_strs (fl : List Str) : (fl.map V.str).all flatV = true := by
  rw [List.all_eq_true]
  intro x hx
  obtain ⟨z, _, rfl⟩ := List.mem_map.mp hx
  rfl
def spWithF : Sp := fun vs H Q _ => ∃ (T : Addr) (pf : Str) (fl : List Str), vs = [.ref T, .str pf] ∧ H T = some (.tup (fl.map V.str)) ∧ (∀ x ∈ fl, FlOk pf x) ∧ fl.length ≤ 20 ∧ ∀ (U : Addr) (H' : Hp), Same H H' → H U = none → H' U = some (.tup ((fellows pf fl).map V.str)) → Q (.ref U) H'
def acts12 : List Str := ["store", "append", "extend", "store_const", "append_const", "store_true", "store_false", "count", "yes_no", "help", "version"]
def WWs : List Str := ["store", "append", "extend"]
def WCs : List Str := ["store_const", "append_const"]
def WOs : List Str := ["store_true", "store_false", "count", "yes_no"]
def LLs : List Str := ["append", "append_const", "extend"]
def wW : List V := [.str "store", .str "append", .str "extend"]
def wC : List V := [.str "store_const", .str "append_const"]
def wO : List V := [.str "store_true", .str "store_false", .str "count", .str "yes_no"]
def wN : List V := [.str "?", .str "*", .str "+", .str "..."]
def wL : List V := [.str "append", .str "append_const", .str "extend"]
def wA : List V := [.str "action", .str "dest", .str "help"]
def VH : Str := "show program's version number and exit"
structure TxtK (K : PySem.W.Frag) (mg : Str → Option Value) (aW aC aO aN aL aA : Addr) : Prop where
  W : KT K mg "WITH_WORDS" aW wW
  C : KT K mg "WITH_CONST" aC wC
  O : KT K mg "WITHOUT" aO wO
  N : KT K mg "WORD_COUNTS" aN wN
  L : KT K mg "LISTS" aL wL
  A : KT K mg "ALWAYS" aA wA
  sup : ∃ t, mg "SUPPRESS" = some (.str "==SUPPRESS==" t)
  vh : ∃ t, mg "VERSION_HELP" = some (.str VH t)
  str : mg "str" = none
  any : mg "any" = none
  enum : mg "enumerate" = none
def keysS (s : Str) : List Str := if s ∈ WWs then ["action", "dest", "help", "nargs", "const", "default", "kind", "choices", "required", "metavar"] else if s ∈ WCs then ["action", "dest", "help", "const", "default", "required"] else if s ∈ WOs then ["action", "dest", "help", "default", "required"] else if s = "version" then ["action", "dest", "help", "version"] else ["action", "dest", "help"]
def spKeys : Sp := fun vs H Q _ => ∃ s : Str, vs = [.str s] ∧ s ∈ acts12 ∧ ∀ (T : Addr) (H' : Hp), Same H H' → H' T = some (.tup ((keysS s).map V.str)) → Q (.ref T) H'
section
variable {P : Program} {w : World} {K : PySem.W.Frag} {mg : Str → Option Value} {base : Heap}
abbrev nWF : List Str := ["flags", "prefix_chars", "found", "flag", "more", "one"]
theorem scWF : FnScope nWF ["flags", "prefix_chars"] (defScope sWithF) := ⟨rfl, rfl, rfl, by decide +kernel, rfl, by decide +kernel, by decide +kernel⟩
theorem ok_withF {f : Addr} {fd : FuncData} (F : Fun K "with_fellows" "with_fellows" sWithF f fd) (T : TxtB mg) : FnOk P w K mg base CX0 1 f fd ["flags", "prefix_chars"] spWithF := by
  refine F.ok scWF (fun vs H Q E h => ?_) (fun cdv A outer s H vs Q E hr h => ?_)
  · obtain ⟨a, pf, fl, rfl, _⟩ := h
    rfl
  · obtain ⟨a, pf, fl, rfl, ha, hf, hn, k⟩ := h
    refine ⟨_, pss_mid (ps_set (i := 2) scWF.nd rfl (Or.inr rfl) (pe_lst pa_nil))
      (pss_mid (ps_for PassesOwn.never rfl (pi_tup (pv 0)) (pg_name (i := 3) scWF.nd rfl (Or.inl rfl))
        (pss_mid (ps_set (i := 4) scWF.nd rfl (Or.inl rfl) (pe_ifExp (pt_cmpR op_in_str (pe_ix ix_str (pv 3) pe_int (fun _ _ => rfl)) (pv 1) (by rfl)) (pe_lst (pa_cons (pe_op op_add_str (pe_op op_add_str (pe_slice sl_str (pv 3) po_none (po_some pe_int)) pe_str) (pe_slice sl_str (pv 3) (po_some pe_int) po_none)) pa_nil)) (pe_lst pa_nil)))
        (pss_one (ps_expr (pe_bm PySem.F.plainAttrs_list PySem.F.slot_list_extend PySem.F.type_list_extend mt_extend (pv 2) (pa_cons (pe_lc (own := [("one", 5)]) (g := gName 5) (tt := tTest (tOp (rIn K true) (tVar 5) (tVar 2))) (te := tVar 5) rfl scWF.nd (pi_list (pe_op op_cat (pe_lst (pa_cons (pv 3) pa_nil)) (pv 4))) (blkOk_by (N := nWF) (sc := defScope sWithF) (by decide +kernel)) (fun _ _ _ _ _ => pg_name (i := 5) scWF.nd rfl (Or.inl rfl)) (fun _ _ _ _ _ => by exact pts_one (pt_cmpR op_notIn_seq (pv 5) (pv 2) (by rfl))) (fun _ _ _ _ _ => by exact pv 5)) pa_nil))))))
      (pss_one (ps_ret (pe_callTy call_tuple_of (by rfl) T.tuple (by decide +kernel) (pa_cons (pv 2) pa_nil))))), ?_⟩
    refine ⟨fun σ' H' => ∃ L : Addr, σ' = [some (.ref a), some (.str pf), some (.ref L), none, none, none] ∧ Same H H' ∧ H L = none ∧ H' L = some (.lst []), ⟨(by show 0 ≤ sizeLine; decide), fun L hL => ⟨L, rfl, same_upd hL, hL, upd_same⟩⟩, ?_⟩
    rintro _ H1 ⟨L, rfl, e1, hL0, hL1⟩
    refine ⟨fun σ' H' => ∃ r3 r4 r5, σ' = [some (.ref a), some (.str pf), some (.ref L), r3, r4, r5] ∧ Same H H' ∧ H' L = some (.lst ((fellows pf fl).map V.str)), ?_, ?_⟩
    · refine ⟨_, rfl, a, rfl, ⟨_, SqT.of (e1 _ _ ha)⟩, ?_⟩
      refine for_tup (K := K) (a := a) (xs := fl.map V.str) (fun i σ' H' => ∃ r3 r4 r5, σ' = [some (.ref a), some (.str pf), some (.ref L), r3, r4, r5] ∧ Same H H' ∧ H' L = some (.lst (((fl.take i).foldl (felStep pf) []).map V.str)) ∧ ((fl.take i).foldl (felStep pf) []).length ≤ 2 * i) ⟨none, none, none, rfl, e1, hL1, Nat.le_refl _⟩ ?_ ?_ ?_
      · rintro i σ' H' _ ⟨_, _, _, _, e, _⟩
        exact SqT.of (e _ _ ha)
      · rintro i x σ' H' hx ⟨r3, r4, r5, rfl, e, hL, hlen⟩
        obtain ⟨y, hy, rfl⟩ := str_at hx
        have hyf := hf y (List.mem_of_getElem? hy)
        have hy2 := hyf.l2
        have hyn := hyf.ln
        have hi := (List.getElem?_eq_some_iff.mp hy).1
        have hnext : (fl.take (i + 1)).foldl (felStep pf) [] = felStep pf ((fl.take i).foldl (felStep pf) []) y := by
          rw [take_more' hy, List.foldl_append]
          rfl
        rw [hnext]
        have hsl := felStep_len pf y ((fl.take i).foldl (felStep pf) [])
        generalize (fl.take i).foldl (felStep pf) [] = fd0 at hL hlen hsl
        -- more
        refine ⟨fun σ' H'' => ∃ M : Addr, σ' = [some (.ref a), some (.str pf), some (.ref L), some (.str y), some (.ref M), r5] ∧ Same H' H'' ∧ H'' M = some (.lst ((if inP pf (wAt y 1) then [noF y] else []).map V.str)), ?_, ?_⟩
        · refine ⟨_, rfl, y, 1, _, rfl, rfl, (by rw [PySem.sizeLine_eq]; omega), (wAt_at (x := y) (i := 1) (by omega) : atI y.cps.toList ((1 : Nat) : Int) = _), _, rfl, _, _, rfl, rfl, _, rfl, ?_⟩
          show ite (inP pf (wAt y 1) = true) _ _
          have c1 := cutS_len y none (some 2)
          have c2 := cutS_len y (some 2) none
          refine ite2 (fun hc => ?_) (fun hc => ?_)
          · refine ⟨_, rfl, _, rfl, y, rfl, (by rw [PySem.sizeLine_eq]; omega), _, _, rfl, rfl, (by rw [PySem.sizeLine_eq]; show _ + 3 ≤ _; omega), _, rfl, _, rfl, y, rfl, (by rw [PySem.sizeLine_eq]; omega), _, _, rfl, rfl, ?_, (by show 1 ≤ sizeLine; decide), fun M hM => ⟨M, rfl, same_upd hM, ?_⟩⟩
            · have c3 : (cutS y none (some 2) ++ "no-").length = (cutS y none (some 2)).length + 3 := by
                rw [PySem.Str.length_append]
                rfl
              rw [c3, PySem.sizeLine_eq]
              omega
            · rw [upd_same, if_pos hc]
              rfl
          · refine ⟨(by show 0 ≤ sizeLine; decide), fun M hM => ⟨M, rfl, same_upd hM, ?_⟩⟩
            rw [upd_same, if_neg hc]
            rfl
        rintro _ H2 ⟨M, rfl, e2, hM⟩
        have hL2 := e2 _ _ hL
        refine ⟨_, rfl, .inl ⟨rfl, _, SqL.of hL2⟩, _, rfl, (by show 1 ≤ sizeLine; decide), fun p hp => ?_⟩
        have ep := same_upd (o := .lst [V.str y]) hp
        have hp1 : (upd H2 p (.lst [V.str y])) p = some (.lst [V.str y]) := upd_same
        have hM1 := ep _ _ hM
        generalize upd H2 p (.lst [V.str y]) = H3 at ep hp1 hM1
        have hml : ((if inP pf (wAt y 1) then [noF y] else []).map V.str).length ≤ 1 := by
          rw [List.length_map]
          split
          · exact Nat.le_refl 1
          · exact Nat.zero_le 1
        refine ⟨_, rfl, p, M, _, _, rfl, rfl, hp1, hM1, (by rw [PySem.sizeLine_eq]; show 1 + _ ≤ _; omega), fun c hc => ?_⟩
        have ec := same_upd (o := .lst ([V.str y] ++ (if inP pf (wAt y 1) then [noF y] else []).map V.str)) hc
        have hc1 : (upd H3 c (.lst ([V.str y] ++ (if inP pf (wAt y 1) then [noF y] else []).map V.str))) c = some (.lst ((fel1 pf y).map V.str)) := by
          rw [upd_same]
          unfold fel1
          split <;> rfl
        generalize upd H3 c (.lst ([V.str y] ++ (if inP pf (wAt y 1) then [noF y] else []).map V.str)) = H4 at ec hc1
        have e24 := ep.trans ec
        refine ⟨c, rfl, ⟨_, SqL.of hc1⟩, fun D hD => ?_⟩
        have hf2 := fel1_len pf y
        refine lc_list (K := K) (a := c) (xs := (fel1 pf y).map V.str) (fun i H' => Same H4 H' ∧ H' D = some (.lst ((((fel1 pf y).take i).filter fun z => decide (z ∉ fd0)).map V.str))) ⟨same_upd hD, upd_same⟩ (fun i H' _ h => SqL.of (h.1 _ _ hc1)) (fun j x H' hx h => ?_) (fun H5 h => ?_)
        · obtain ⟨z, hz, rfl⟩ := str_at hx
          have hLz := h.1 _ _ (e24 _ _ hL2)
          refine ⟨rfl, _, rfl, _, rfl, L, _, rfl, .inl (SqL.of hLz), rfl, flat_strs _, _, rfl, ?_⟩
          rw [take_more' hz, List.filter_append, List.filter_cons, List.filter_nil, if_pos rfl, inV_strs]
          have hle : ((((fel1 pf y).take j).filter fun z => decide (z ∉ fd0)).map V.str).length < sizeLine := by
            rw [List.length_map, PySem.sizeLine_eq]
            have := List.length_filter_le (fun z => decide (z ∉ fd0)) ((fel1 pf y).take j)
            rw [List.length_take] at this
            omega
          by_cases hc : z ∈ fd0
          · rw [decide_eq_true hc]
            refine iteF ?_
            rw [if_neg (by rw [decide_eq_false (fun q => q hc)]; exact Bool.false_ne_true), List.append_nil]
            exact h
          · rw [decide_eq_false hc]
            refine iteT ⟨_, rfl, _, h.2, hle, same_mut h.1 hD, ?_⟩
            rw [upd_same, if_pos (decide_eq_true hc), List.map_append]
            rfl
        obtain ⟨e5, hD5⟩ := h
        rw [List.length_map, List.take_length] at hD5
        have hL5 := e5 _ _ (e24 _ _ hL2)
        have hfl := List.length_filter_le (fun z => decide (z ∉ fd0)) (fel1 pf y)
        refine ⟨L, D, _, _, rfl, rfl, hL5, hD5, by rw [List.length_map, List.length_map, PySem.sizeLine_eq]; omega, _, _, _, rfl, same_mut (e.trans (e2.trans (e24.trans e5))) hL0, ?_, by omega⟩
        rw [upd_same]
        unfold felStep
        rw [List.map_append]
      · rintro σ' H' ⟨r3, r4, r5, rfl, e, hL, _⟩
        rw [List.length_map, List.take_length] at hL
        exact ⟨r3, r4, r5, rfl, e, hL⟩
    rintro _ H2 ⟨r3, r4, r5, rfl, e2, hL2⟩
    refine ⟨_, rfl, L, _, rfl, .inl ⟨SqL.of hL2, fun U hU => k U _ (same_upd2 e2 hU) (Same.free e2 hU) upd_same⟩⟩
end
end K46

namespace K46
open PySem L2 PyProof.Rows
/-! ### keys, kinds, values, metavars -/
def spKeysT (K : PySem.W.Frag) : Sp := fun vs H Q _ => ∃ s : Str, vs = [.str s] ∧ s ∈ acts12 ∧ ∀ (T : Addr) (H' : Hp), Same H H' → SqT K H' T ((keysS s).map V.str) → Q (.ref T) H'
def kinds3 : List PyData := [.none, .str "str", .str "int"]
def kindsV : List V := [.non, .str "str", .str "int"]
def spIsKind : Sp := fun vs H Q _ => ∃ v : V, vs = [v] ∧ v ∈ kindsV ∧ ∀ H', Same H H' → Q (.bl true) H'
def nMenu : List V := [.non, .str "?", .str "*", .str "+", .str "...", .int 1, .int 2, .int 3, .int 4]
def wantN : V → Nat
  | .int n => n.toNat
  | .str x => if x = "+" then 2 else 1
  | _ => 1
/-- a metavar that is right for a number of words -/
def FitsM (md : PyData) (nv : V) : Prop := md = .none ∨ (∃ z, md = .str z ∧ z ≠ "") ∨ ∃ l : List Str, (md = .list (l.map PyData.str) ∨ md = .tuple (l.map PyData.str)) ∧ (∀ x ∈ l, x ≠ "") ∧ l.length ≤ 10 ∧ (if nv = .str "*" then l.length = 1 ∨ l.length = 2 else l.length = wantN nv)
def spFits : Sp := fun vs H Q _ => ∃ (mv nv : V) (md : PyData), vs = [mv, nv] ∧ Dt H mv md ∧ nv ∈ nMenu ∧ FitsM md nv ∧ ∀ H', Same H H' → Q (.bl true) H'
def spIsVal : Nat → Sp
  | 0 => fun _ _ _ _ => False
  | m + 1 => fun vs H Q _ => ∃ (v : V) (d : PyData), vs = [v] ∧ Dt H v d ∧ PyData.depth d ≤ m ∧ small d = true ∧ ∀ (H' : Hp), Same H H' → Q (.bl true) H'
theorem dts_lst {N : Hp} : ∀ {l : List Str} {vs : List V}, DtAll N vs (l.map PyData.str) → vs = l.map V.str
  | [], _, h => by
    cases h
    rfl
  | x :: l, _, h => by
    cases h with
    | cons h1 h2 =>
      cases h1
      rw [dts_lst h2]
      rfl
section
variable {P : Program} {w : World} {K : PySem.W.Frag} {mg : Str → Option Value} {base : Heap}
theorem scKeys : FnScope ["action"] ["action"] (defScope sKeys) := ⟨rfl, rfl, rfl, by decide +kernel, rfl, by decide +kernel, by decide +kernel⟩
theorem ok_keys {f aW aC aO aN aL aA : Addr} {fd : FuncData} (F : Fun K "keys_of" "keys_of" sKeys f fd) (Z : TxtK K mg aW aC aO aN aL aA) : FnOk P w K mg base CX0 1 f fd ["action"] (spKeysT K) := by
  refine F.ok scKeys (fun vs H Q E h => ?_) (fun cdv A outer s H vs Q E hr h => ?_)
  · obtain ⟨x, rfl, _⟩ := h
    rfl
  · obtain ⟨x, rfl, hx, k⟩ := h
    refine ⟨_, pss_cons (ps_if (pt_cmpR op_in_seq (pv 0) (pe_glob (v := .ref aW) rfl Z.W.m rfl) (by rfl)) (pss_one (ps_ret (pe_op op_catT (pe_glob (v := .ref aA) rfl Z.A.m rfl) (pe_tup (pa_cons pe_str (pa_cons pe_str (pa_cons pe_str (pa_cons pe_str (pa_cons pe_str (pa_cons pe_str (pa_cons pe_str pa_nil)))))))))))
        pss_nil)
      (pss_cons (ps_if (pt_cmpR op_in_seq (pv 0) (pe_glob (v := .ref aC) rfl Z.C.m rfl) (by rfl)) (pss_one (ps_ret (pe_op op_catT (pe_glob (v := .ref aA) rfl Z.A.m rfl) (pe_tup (pa_cons pe_str (pa_cons pe_str (pa_cons pe_str pa_nil))))))) pss_nil)
      (pss_cons (ps_if (pt_cmpR op_in_seq (pv 0) (pe_glob (v := .ref aO) rfl Z.O.m rfl) (by rfl)) (pss_one (ps_ret (pe_op op_catT (pe_glob (v := .ref aA) rfl Z.A.m rfl) (pe_tup (pa_cons pe_str (pa_cons pe_str pa_nil))))))
        pss_nil) (pss_one (ps_ret (pe_ifExp (pt_cmpR op_eq (pv 0) pe_str (nomark _)) (pe_op op_catT (pe_glob (v := .ref aA) rfl Z.A.m rfl) (pe_tup (pa_cons pe_str pa_nil))) (pe_glob (v := .ref aA) rfl Z.A.m rfl)))))), ?_⟩
    have i1 : inV (.str x) wW = decide (x ∈ WWs) := inV_strs x WWs
    have i2 : inV (.str x) wC = decide (x ∈ WCs) := inV_strs x WCs
    have i3 : inV (.str x) wO = decide (x ∈ WOs) := inV_strs x WOs
    refine ⟨_, rfl, aW, wW, rfl, .inr (Z.W.q _), rfl, by decide +kernel, _, rfl, ?_⟩
    rw [if_neg Bool.false_ne_true, i1]
    refine ite2 (fun hc => ?_) (fun hc => ?_)
    · refine ⟨(by show 7 ≤ sizeLine; decide), fun p hp => ⟨aA, p, wA, _, rfl, rfl, Z.A.q _, SqT.of upd_same, (fun z => nomatch z), (by show 3 + 7 ≤ sizeLine; decide), (fun z => nomatch z), fun _ q hq => k q _ (same_upd2 (same_upd hp) hq) ?_⟩⟩
      unfold keysS
      rw [if_pos (of_decide_eq_true hc)]
      exact SqT.of upd_same
    refine ⟨_, rfl, aC, wC, rfl, .inr (Z.C.q _), rfl, by decide +kernel, _, rfl, ?_⟩
    rw [if_neg Bool.false_ne_true, i2]
    refine ite2 (fun hc2 => ?_) (fun hc2 => ?_)
    · refine ⟨(by show 3 ≤ sizeLine; decide), fun p hp => ⟨aA, p, wA, _, rfl, rfl, Z.A.q _, SqT.of upd_same, (fun z => nomatch z), (by show 3 + 3 ≤ sizeLine; decide), (fun z => nomatch z), fun _ q hq => k q _ (same_upd2 (same_upd hp) hq) ?_⟩⟩
      unfold keysS
      rw [if_neg (fun z => hc (decide_eq_true z)), if_pos (of_decide_eq_true hc2)]
      exact SqT.of upd_same
    refine ⟨_, rfl, aO, wO, rfl, .inr (Z.O.q _), rfl, by decide +kernel, _, rfl, ?_⟩
    rw [if_neg Bool.false_ne_true, i3]
    refine ite2 (fun hc3 => ?_) (fun hc3 => ?_)
    · refine ⟨(by show 2 ≤ sizeLine; decide), fun p hp => ⟨aA, p, wA, _, rfl, rfl, Z.A.q _, SqT.of upd_same, (fun z => nomatch z), (by show 3 + 2 ≤ sizeLine; decide), (fun z => nomatch z), fun _ q hq => k q _ (same_upd2 (same_upd hp) hq) ?_⟩⟩
      unfold keysS
      rw [if_neg (fun z => hc (decide_eq_true z)), if_neg (fun z => hc2 (decide_eq_true z)), if_pos (of_decide_eq_true hc3)]
      exact SqT.of upd_same
    have ek : keysS x = if x = "version" then (["action", "dest", "help", "version"] : List Str) else (["action", "dest", "help"] : List Str) := by
      unfold keysS
      rw [if_neg (fun z => hc (decide_eq_true z)), if_neg (fun z => hc2 (decide_eq_true z)), if_neg (fun z => hc3 (decide_eq_true z))]
    refine ⟨_, rfl, rfl, _, rfl, ?_⟩
    refine ite2 (fun h => ?_) (fun h => ?_)
    · refine ⟨(by show 1 ≤ sizeLine; decide), fun p hp => ⟨aA, p, wA, _, rfl, rfl, Z.A.q _, SqT.of upd_same, (fun z => nomatch z), (by show 3 + 1 ≤ sizeLine; decide), (fun z => nomatch z), fun _ q hq => k q _ (same_upd2 (same_upd hp) hq) ?_⟩⟩
      rw [ek, if_pos (V.str.inj (of_decide_eq_true h))]
      exact SqT.of upd_same
    · refine k aA _ (Same.refl _) ?_
      rw [ek, if_neg (fun z => h (decide_eq_true (congrArg V.str z)))]
      exact Z.A.q _
theorem scIsKind : FnScope ["thing"] ["thing"] (defScope sIsKind) := ⟨rfl, rfl, rfl, by decide +kernel, rfl, by decide +kernel, by decide +kernel⟩
theorem ok_isKind {f : Addr} {fd : FuncData} (F : Fun K "is_kind" "is_kind" sIsKind f fd) (T : TxtB mg) (zStr : mg "str" = none) : FnOk P w K mg base CX0 1 f fd ["thing"] spIsKind := by
  refine F.ok scIsKind (fun vs H Q E h => ?_) (fun cdv A outer s H vs Q E hr h => ?_)
  · obtain ⟨v, rfl, _⟩ := h
    rfl
  · obtain ⟨v, rfl, hv, k⟩ := h
    refine ⟨_, pss_cons (ps_if (PW.pt (pw_or (pt_cmp (pc_isN (pv 0))) (pw_or1 (pt_val (pe_callB call_isi (by rfl) T.isinstance (by decide +kernel) (pa_cons (pv 0) (pa_cons (pe_bltn (v := .ty "str") (by rfl) zStr (by decide +kernel) rfl) pa_nil))))))) (pss_one (ps_ret (pe_cmpR op_in_seq (pv 0) (pe_tup (pa_cons pe_non (pa_cons pe_str (pa_cons pe_str pa_nil)))) (by rfl)))) pss_nil) pss_never, ?_⟩
    simp only [kindsV, List.mem_cons, List.not_mem_nil, or_false] at hv
    rcases hv with rfl | rfl | rfl
    · exact ⟨_, rfl, true, rfl, iteT (iteT ⟨_, rfl, (by show 3 ≤ sizeLine; decide), fun p hp => ⟨p, _, rfl, .inr (SqT.of upd_same), rfl, by decide +kernel, k _ (same_upd hp)⟩⟩)⟩
    · exact ⟨_, rfl, false, rfl, iteF ⟨_, rfl, _, .ty "str", _, _, true, rfl, .ty _, .base (.str _), kit_ty (by decide +kernel), _, rfl, iteT ⟨_, rfl, (by show 3 ≤ sizeLine; decide), fun p hp => ⟨p, _, rfl, .inr (SqT.of upd_same), rfl, by decide +kernel, k _ (same_upd hp)⟩⟩⟩⟩
    · exact ⟨_, rfl, false, rfl, iteF ⟨_, rfl, _, .ty "str", _, _, true, rfl, .ty _, .base (.str _), kit_ty (by decide +kernel), _, rfl, iteT ⟨_, rfl, (by show 3 ≤ sizeLine; decide), fun p hp => ⟨p, _, rfl, .inr (SqT.of upd_same), rfl, by decide +kernel, k _ (same_upd hp)⟩⟩⟩⟩
theorem scIsVal : FnScope ["thing", "part"] ["thing"] (defScope sIsVal) := ⟨rfl, rfl, rfl, by decide +kernel, rfl, by decide +kernel, by decide +kernel⟩
theorem stepIsVal {f fR : Addr} {fd fdR : FuncData} {m : Nat} (F : Fun K "is_value" "is_value" sIsVal f fd) (T : TxtB mg) (zStr : mg "str" = none) (R : At P w K mg base "is_row" 1 ["thing"] (spIsRow K) fR fdR) (G : FnOk P w K mg base CX0 (m + 1) f fd ["thing"] (spIsVal m)) (mC : mg "is_value" = some (.ref f)) (kC : PySem.W.keepIn K (.ref f) = true) (bC : Binds K fd ["thing"] []) :
    FnOk P w K mg base CX0 (m + 2) f fd ["thing"] (spIsVal (m + 1)) := by
  refine F.ok scIsVal (fun vs H Q E h => ?_) (fun cdv A outer s H vs Q E hr h => ?_)
  · obtain ⟨v, d, rfl, _⟩ := h
    rfl
  · obtain ⟨v, d, rfl, hd, dep, sz, k⟩ := h
    have r1 : Room 1 (A.deeper (PyProof.Rows.envOfC "is_value" (defScope sIsVal) s.heap.objs.size f cdv)) := hr.mono (by omega)
    cases hd with
    | non =>
      refine ⟨_, pss_cons (ps_if (pt_val (pe_call R.ok r1 rfl R.m R.k R.b .nil pass0 (pa_cons (pv 0) pa_nil))) (pss_one (ps_ret (pe_callB (cr_all rfl) (by rfl) T.all (by decide +kernel) (pa_cons (pe_lc (own := [("part", 1)]) (g := gName 1) (tt := tYes) (te := tCall (spIsVal m) [] E0 (tCons (tVar 1) tNil)) rfl scIsVal.nd (pi_list (pv 0)) (blkOk_by (N := ["thing", "part"]) (sc := defScope sIsVal) (by decide +kernel)) (fun _ _ _ _ _ => pg_name (i := 1) scIsVal.nd rfl (Or.inl rfl)) (fun _ _ _ _ _ => pts_nil) (fun _ _ _ _ _ => by exact pe_call G (by exact hr) rfl mC kC bC .nil pass0 (pa_cons (pv 1) pa_nil))) pa_nil)))) pss_nil)
        (pss_one (ps_ret (pe_or (pe_cmp (pc_isN (pv 0))) (pe_one (pe_callB call_isiT (by rfl) T.isinstance (by decide +kernel) (pa_cons (pv 0) (pa_cons (pe_tup (pa_cons (pe_bltn (v := .ty "int") (by rfl) T.int (by decide +kernel) rfl) (pa_cons (pe_bltn (v := .ty "str") (by rfl) zStr (by decide +kernel) rfl) pa_nil))) pa_nil))))))), ?_⟩
      refine ⟨_, rfl, _, "NoneType", false, rfl, .base .non, by decide +kernel, fun H1 e1 => ⟨_, rfl, iteF ?_⟩⟩
      exact ⟨_, rfl, true, rfl, iteT (k _ e1)⟩
    | bl b =>
      refine ⟨_, pss_cons (ps_if (pt_val (pe_call R.ok r1 rfl R.m R.k R.b .nil pass0 (pa_cons (pv 0) pa_nil))) (pss_one (ps_ret (pe_callB (cr_all rfl) (by rfl) T.all (by decide +kernel) (pa_cons (pe_lc (own := [("part", 1)]) (g := gName 1) (tt := tYes) (te := tCall (spIsVal m) [] E0 (tCons (tVar 1) tNil)) rfl scIsVal.nd (pi_list (pv 0)) (blkOk_by (N := ["thing", "part"]) (sc := defScope sIsVal) (by decide +kernel)) (fun _ _ _ _ _ => pg_name (i := 1) scIsVal.nd rfl (Or.inl rfl)) (fun _ _ _ _ _ => pts_nil) (fun _ _ _ _ _ => by exact pe_call G (by exact hr) rfl mC kC bC .nil pass0 (pa_cons (pv 1) pa_nil))) pa_nil)))) pss_nil)
        (pss_one (ps_ret (pe_or (pe_cmp (pc_isN (pv 0))) (pe_one (pe_callB call_isiT (by rfl) T.isinstance (by decide +kernel) (pa_cons (pv 0) (pa_cons (pe_tup (pa_cons (pe_bltn (v := .ty "int") (by rfl) T.int (by decide +kernel) rfl) (pa_cons (pe_bltn (v := .ty "str") (by rfl) zStr (by decide +kernel) rfl) pa_nil))) pa_nil))))))), ?_⟩
      refine ⟨_, rfl, _, "bool", false, rfl, .base (.bl b), by decide +kernel, fun H1 e1 => ⟨_, rfl, iteF ?_⟩⟩
      exact ⟨_, rfl, false, rfl, iteF ⟨_, rfl, (by show 2 ≤ sizeLine; decide), fun p hp => ⟨_, p, _, _, _, true, rfl, upd_same, .cons (.ty _) (.cons (.ty _) .nil), .base (.bl b), kits (cs := ["int", "str"]) (by decide +kernel), k _ (same_upd2 e1 hp)⟩⟩⟩
    | int i =>
      refine ⟨_, pss_cons (ps_if (pt_val (pe_call R.ok r1 rfl R.m R.k R.b .nil pass0 (pa_cons (pv 0) pa_nil))) (pss_one (ps_ret (pe_callB (cr_all rfl) (by rfl) T.all (by decide +kernel) (pa_cons (pe_lc (own := [("part", 1)]) (g := gName 1) (tt := tYes) (te := tCall (spIsVal m) [] E0 (tCons (tVar 1) tNil)) rfl scIsVal.nd (pi_list (pv 0)) (blkOk_by (N := ["thing", "part"]) (sc := defScope sIsVal) (by decide +kernel)) (fun _ _ _ _ _ => pg_name (i := 1) scIsVal.nd rfl (Or.inl rfl)) (fun _ _ _ _ _ => pts_nil) (fun _ _ _ _ _ => by exact pe_call G (by exact hr) rfl mC kC bC .nil pass0 (pa_cons (pv 1) pa_nil))) pa_nil)))) pss_nil)
        (pss_one (ps_ret (pe_or (pe_cmp (pc_isN (pv 0))) (pe_one (pe_callB call_isiT (by rfl) T.isinstance (by decide +kernel) (pa_cons (pv 0) (pa_cons (pe_tup (pa_cons (pe_bltn (v := .ty "int") (by rfl) T.int (by decide +kernel) rfl) (pa_cons (pe_bltn (v := .ty "str") (by rfl) zStr (by decide +kernel) rfl) pa_nil))) pa_nil))))))), ?_⟩
      refine ⟨_, rfl, _, "int", false, rfl, .base (.int i), by decide +kernel, fun H1 e1 => ⟨_, rfl, iteF ?_⟩⟩
      exact ⟨_, rfl, false, rfl, iteF ⟨_, rfl, (by show 2 ≤ sizeLine; decide), fun p hp => ⟨_, p, _, _, _, true, rfl, upd_same, .cons (.ty _) (.cons (.ty _) .nil), .base (.int i), kits (cs := ["int", "str"]) (by decide +kernel), k _ (same_upd2 e1 hp)⟩⟩⟩
    | str x =>
      refine ⟨_, pss_cons (ps_if (pt_val (pe_call R.ok r1 rfl R.m R.k R.b .nil pass0 (pa_cons (pv 0) pa_nil))) (pss_one (ps_ret (pe_callB (cr_all rfl) (by rfl) T.all (by decide +kernel) (pa_cons (pe_lc (own := [("part", 1)]) (g := gName 1) (tt := tYes) (te := tCall (spIsVal m) [] E0 (tCons (tVar 1) tNil)) rfl scIsVal.nd (pi_list (pv 0)) (blkOk_by (N := ["thing", "part"]) (sc := defScope sIsVal) (by decide +kernel)) (fun _ _ _ _ _ => pg_name (i := 1) scIsVal.nd rfl (Or.inl rfl)) (fun _ _ _ _ _ => pts_nil) (fun _ _ _ _ _ => by exact pe_call G (by exact hr) rfl mC kC bC .nil pass0 (pa_cons (pv 1) pa_nil))) pa_nil)))) pss_nil)
        (pss_one (ps_ret (pe_or (pe_cmp (pc_isN (pv 0))) (pe_one (pe_callB call_isiT (by rfl) T.isinstance (by decide +kernel) (pa_cons (pv 0) (pa_cons (pe_tup (pa_cons (pe_bltn (v := .ty "int") (by rfl) T.int (by decide +kernel) rfl) (pa_cons (pe_bltn (v := .ty "str") (by rfl) zStr (by decide +kernel) rfl) pa_nil))) pa_nil))))))), ?_⟩
      refine ⟨_, rfl, _, "str", false, rfl, .base (.str x), by decide +kernel, fun H1 e1 => ⟨_, rfl, iteF ?_⟩⟩
      exact ⟨_, rfl, false, rfl, iteF ⟨_, rfl, (by show 2 ≤ sizeLine; decide), fun p hp => ⟨_, p, _, _, _, true, rfl, upd_same, .cons (.ty _) (.cons (.ty _) .nil), .base (.str x), kits (cs := ["int", "str"]) (by decide +kernel), k _ (same_upd2 e1 hp)⟩⟩⟩
    | @lst a xs ds ha hds =>
      refine ⟨_, pss_cons (ps_if (pt_val (pe_call R.ok r1 rfl R.m R.k R.b .nil pass0 (pa_cons (pv 0) pa_nil))) (pss_one (ps_ret (pe_callB (cr_all rfl) (by rfl) T.all (by decide +kernel) (pa_cons (pe_lc (own := [("part", 1)]) (g := gName 1) (tt := tYes) (te := tCall (spIsVal m) [] E0 (tCons (tVar 1) tNil)) rfl scIsVal.nd (pi_list (pv 0)) (blkOk_by (N := ["thing", "part"]) (sc := defScope sIsVal) (by decide +kernel)) (fun _ _ _ _ _ => pg_name (i := 1) scIsVal.nd rfl (Or.inl rfl)) (fun _ _ _ _ _ => pts_nil) (fun _ _ _ _ _ => by exact pe_call G (by exact hr) rfl mC kC bC .nil pass0 (pa_cons (pv 1) pa_nil))) pa_nil)))) pss_nil)
        (pss_one (ps_ret (pe_or (pe_cmp (pc_isN (pv 0))) (pe_one (pe_callB call_isiT (by rfl) T.isinstance (by decide +kernel) (pa_cons (pv 0) (pa_cons (pe_tup (pa_cons (pe_bltn (v := .ty "int") (by rfl) T.int (by decide +kernel) rfl) (pa_cons (pe_bltn (v := .ty "str") (by rfl) zStr (by decide +kernel) rfl) pa_nil))) pa_nil))))))), ?_⟩
      refine ⟨_, rfl, _, "list", true, rfl, .base (.lst ha), by decide +kernel, fun H1 e1 => ⟨_, rfl, iteT ?_⟩⟩
      have ha1 := e1 _ _ ha
      have hln := hds.len
      have hsz := cop_size sz
      refine ⟨_, rfl, a, rfl, ⟨_, SqL.of ha1⟩, fun D hD => ?_⟩
      refine lc_list (K := K) (a := a) (xs := xs) (BlI (fun _ => true) H1 D xs) (blI0 hD) (fun i H' _ h => SqL.of (h.1 _ _ ha1)) (fun i x H' hx h => ?_) (fun H2 h => ?_)
      · obtain ⟨dx, hdx, hx'⟩ := hds.get hx
        obtain ⟨d0, s0⟩ := cop_child dep sz hdx
        obtain ⟨m', rfl⟩ : ∃ m', m = m' + 1 := ⟨m - 1, by omega⟩
        exact ⟨rfl, _, rfl, x, dx, rfl, Dt.mono (e1.trans h.1) _ _ hx', by omega, s0, fun H3 e3 => blI_step hD hx h e3 rfl (by omega)⟩
      obtain ⟨e2, hl⟩ := blI_end rfl h
      refine ⟨D, _, rfl, SqL.of hl, ?_⟩
      rw [all_tt]
      exact k _ (e1.trans e2)
    | @tup a xs ds ha hds =>
      refine ⟨_, pss_cons (ps_if (pt_val (pe_call R.ok r1 rfl R.m R.k R.b .nil pass0 (pa_cons (pv 0) pa_nil))) (pss_one (ps_ret (pe_callB (cr_all rfl) (by rfl) T.all (by decide +kernel) (pa_cons (pe_lc (own := [("part", 1)]) (g := gName 1) (tt := tYes) (te := tCall (spIsVal m) [] E0 (tCons (tVar 1) tNil)) rfl scIsVal.nd (pi_tup (pv 0)) (blkOk_by (N := ["thing", "part"]) (sc := defScope sIsVal) (by decide +kernel)) (fun _ _ _ _ _ => pg_name (i := 1) scIsVal.nd rfl (Or.inl rfl)) (fun _ _ _ _ _ => pts_nil) (fun _ _ _ _ _ => by exact pe_call G (by exact hr) rfl mC kC bC .nil pass0 (pa_cons (pv 1) pa_nil))) pa_nil)))) pss_nil)
        (pss_one (ps_ret (pe_or (pe_cmp (pc_isN (pv 0))) (pe_one (pe_callB call_isiT (by rfl) T.isinstance (by decide +kernel) (pa_cons (pv 0) (pa_cons (pe_tup (pa_cons (pe_bltn (v := .ty "int") (by rfl) T.int (by decide +kernel) rfl) (pa_cons (pe_bltn (v := .ty "str") (by rfl) zStr (by decide +kernel) rfl) pa_nil))) pa_nil))))))), ?_⟩
      refine ⟨_, rfl, _, "tuple", true, rfl, .base (.tup ha), by decide +kernel, fun H1 e1 => ⟨_, rfl, iteT ?_⟩⟩
      have ha1 := e1 _ _ ha
      have hln := hds.len
      have hsz := cop_size' sz
      refine ⟨_, rfl, a, rfl, ⟨_, SqT.of ha1⟩, fun D hD => ?_⟩
      refine lc_tup (K := K) (a := a) (xs := xs) (BlI (fun _ => true) H1 D xs) (blI0 hD) (fun i H' _ h => SqT.of (h.1 _ _ ha1)) (fun i x H' hx h => ?_) (fun H2 h => ?_)
      · obtain ⟨dx, hdx, hx'⟩ := hds.get hx
        obtain ⟨d0, s0⟩ := cop_child' dep sz hdx
        obtain ⟨m', rfl⟩ : ∃ m', m = m' + 1 := ⟨m - 1, by omega⟩
        exact ⟨rfl, _, rfl, x, dx, rfl, Dt.mono (e1.trans h.1) _ _ hx', by omega, s0, fun H3 e3 => blI_step hD hx h e3 rfl (by omega)⟩
      obtain ⟨e2, hl⟩ := blI_end rfl h
      refine ⟨D, _, rfl, SqL.of hl, ?_⟩
      rw [all_tt]
      exact k _ (e1.trans e2)
theorem okIsVal {f fR : Addr} {fd fdR : FuncData} (F : Fun K "is_value" "is_value" sIsVal f fd) (T : TxtB mg) (zStr : mg "str" = none) (R : At P w K mg base "is_row" 1 ["thing"] (spIsRow K) fR fdR) (mC : mg "is_value" = some (.ref f)) (kC : PySem.W.keepIn K (.ref f) = true) (bC : Binds K fd ["thing"] []) :
    ∀ m, FnOk P w K mg base CX0 (m + 1) f fd ["thing"] (spIsVal m)
  | 0 => ⟨fun _ _ _ _ h => h.elim, fun _ _ _ _ _ _ _ _ _ _ _ _ _ h => h.elim⟩
  | m + 1 => stepIsVal F T zStr R (okIsVal F T zStr R mC kC bC m) mC kC bC
abbrev nFits : List Str := ["metavar", "nargs", "part", "wanted"]
theorem scFits : FnScope nFits ["metavar", "nargs"] (defScope sFits) := ⟨rfl, rfl, rfl, by decide +kernel, rfl, by decide +kernel, by decide +kernel⟩
theorem ok_fits {f fR fI : Addr} {fd fdR fdI : FuncData} (F : Fun K "fits_metavar" "fits_metavar" sFits f fd) (T : TxtB mg) (zStr : mg "str" = none) (R : At P w K mg base "is_row" 1 ["thing"] (spIsRow K) fR fdR) (I : At P w K mg base "is_integer" 1 ["thing"] (spIsInt K) fI fdI) : FnOk P w K mg base CX0 2 f fd ["metavar", "nargs"] spFits := by
  refine F.ok scFits (fun vs H Q E h => ?_) (fun cdv A outer s H vs Q E hr h => ?_)
  · obtain ⟨mv, nv, md, rfl, _⟩ := h
    rfl
  · obtain ⟨mv, nv, md, rfl, hm, hn, hf, k⟩ := h
    have r1 : Room 1 (A.deeper (PyProof.Rows.envOfC "fits_metavar" (defScope sFits) s.heap.objs.size f cdv)) := hr
    rcases hf with rfl | ⟨z, rfl, z0⟩ | ⟨l, hl, l0, l10, lw⟩
    · cases hm
      refine ⟨_, pss_mid (ps_if (PW.pt (pw_or (pt_cmp (pc_isN (pv 0))) (pw_or1 (pt_val (pe_callB call_isi (by rfl) T.isinstance (by decide +kernel) (pa_cons (pv 0) (pa_cons (pe_bltn (v := .ty "str") (by rfl) zStr (by decide +kernel) rfl) pa_nil))))))) (pss_one (ps_ret (pe_cmpR op_ne (pv 0) pe_str (nomark _)))) pss_nil)
        (pss_cons (ps_if (PW.pt (pw_or (pt_not (pt_val (pe_call R.ok r1 rfl R.m R.k R.b .nil pass0 (pa_cons (pv 0) pa_nil)))) (pw_or1 (pt_not (pt_val (pe_callB (cr_all rfl) (by rfl) T.all (by decide +kernel) (pa_cons (pe_lc (own := [("part", 2)]) (g := gName 2) (tt := tYes) (te := tAndV (tCB (rIsi K) (tCons (tVar 2) (tCons (tC (.ty "str")) tNil))) (tOp rNe (tVar 2) (tC (.str "")))) rfl scFits.nd (pi_list (pv 0)) (blkOk_by (N := nFits) (sc := defScope sFits) (by decide +kernel)) (fun _ _ _ _ _ => pg_name (i := 2) scFits.nd rfl (Or.inl rfl)) (fun _ _ _ _ _ => pts_nil)
          (fun _ _ _ _ _ => by exact pe_and (pe_callB call_isi (by rfl) T.isinstance (by decide +kernel) (pa_cons (pv 2) (pa_cons (pe_bltn (v := .ty "str") (by rfl) zStr (by decide +kernel) rfl) pa_nil))) (pe_one (pe_cmpR op_ne (pv 2) pe_str (nomark _))))) pa_nil))))))) pss_never pss_nil)
        (pss_cons (ps_if (pt_cmpR op_eq (pv 1) pe_str (nomark _)) (pss_one (ps_ret (pe_cmpR op_in_seq (pe_callB call_len_seq (by rfl) T.len PySem.boot_len (pa_cons (pv 0) pa_nil)) (pe_tup (pa_cons pe_int (pa_cons pe_int pa_nil))) (by rfl)))) pss_nil)
        (pss_mid (ps_set (i := 3) scFits.nd rfl (Or.inl rfl) (pe_ifExp (pt_val (pe_call I.ok r1 rfl I.m I.k I.b .nil pass0 (pa_cons (pv 1) pa_nil))) (pv 1) (pe_ifExp (pt_cmpR op_eq (pv 1) pe_str (nomark _)) pe_int pe_int)))
        (pss_one (ps_ret (pe_cmpR op_eq (pe_callB call_len_seq (by rfl) T.len PySem.boot_len (pa_cons (pv 0) pa_nil)) (pv 3) (nomark _))))))), ?_⟩
      exact ⟨fun _ _ => False, ⟨_, rfl, true, rfl, iteT (iteT ⟨_, rfl, rfl, k _ (Same.refl _)⟩)⟩, fun _ _ h => h.elim⟩
    · cases hm
      refine ⟨_, pss_mid (ps_if (PW.pt (pw_or (pt_cmp (pc_isN (pv 0))) (pw_or1 (pt_val (pe_callB call_isi (by rfl) T.isinstance (by decide +kernel) (pa_cons (pv 0) (pa_cons (pe_bltn (v := .ty "str") (by rfl) zStr (by decide +kernel) rfl) pa_nil))))))) (pss_one (ps_ret (pe_cmpR op_ne (pv 0) pe_str (nomark _)))) pss_nil)
        (pss_cons (ps_if (PW.pt (pw_or (pt_not (pt_val (pe_call R.ok r1 rfl R.m R.k R.b .nil pass0 (pa_cons (pv 0) pa_nil)))) (pw_or1 (pt_not (pt_val (pe_callB (cr_all rfl) (by rfl) T.all (by decide +kernel) (pa_cons (pe_lc (own := [("part", 2)]) (g := gName 2) (tt := tYes) (te := tAndV (tCB (rIsi K) (tCons (tVar 2) (tCons (tC (.ty "str")) tNil))) (tOp rNe (tVar 2) (tC (.str "")))) rfl scFits.nd (pi_list (pv 0)) (blkOk_by (N := nFits) (sc := defScope sFits) (by decide +kernel)) (fun _ _ _ _ _ => pg_name (i := 2) scFits.nd rfl (Or.inl rfl)) (fun _ _ _ _ _ => pts_nil)
          (fun _ _ _ _ _ => by exact pe_and (pe_callB call_isi (by rfl) T.isinstance (by decide +kernel) (pa_cons (pv 2) (pa_cons (pe_bltn (v := .ty "str") (by rfl) zStr (by decide +kernel) rfl) pa_nil))) (pe_one (pe_cmpR op_ne (pv 2) pe_str (nomark _))))) pa_nil))))))) pss_never pss_nil)
        (pss_cons (ps_if (pt_cmpR op_eq (pv 1) pe_str (nomark _)) (pss_one (ps_ret (pe_cmpR op_in_seq (pe_callB call_len_seq (by rfl) T.len PySem.boot_len (pa_cons (pv 0) pa_nil)) (pe_tup (pa_cons pe_int (pa_cons pe_int pa_nil))) (by rfl)))) pss_nil)
        (pss_mid (ps_set (i := 3) scFits.nd rfl (Or.inl rfl) (pe_ifExp (pt_val (pe_call I.ok r1 rfl I.m I.k I.b .nil pass0 (pa_cons (pv 1) pa_nil))) (pv 1) (pe_ifExp (pt_cmpR op_eq (pv 1) pe_str (nomark _)) pe_int pe_int)))
        (pss_one (ps_ret (pe_cmpR op_eq (pe_callB call_len_seq (by rfl) T.len PySem.boot_len (pa_cons (pv 0) pa_nil)) (pv 3) (nomark _))))))), ?_⟩
      refine ⟨fun _ _ => False, ⟨_, rfl, false, rfl, iteF ⟨_, rfl, _, .ty "str", _, _, true, rfl, .ty _, .base (.str z), kit_ty (by decide +kernel), _, rfl, iteT ⟨_, rfl, rfl, ?_⟩⟩⟩, fun _ _ h => h.elim⟩
      rw [decide_eq_false fun q => z0 (V.str.inj q)]
      exact k _ (Same.refl _)
    rcases hl with rfl | rfl
    · obtain ⟨a, xs, rfl, ha, hds⟩ : ∃ a xs, mv = V.ref a ∧ H a = some (.lst xs) ∧ DtAll H xs (l.map PyData.str) := by
        cases hm with
        | lst h1 h2 => exact ⟨_, _, rfl, h1, h2⟩
      refine ⟨_, pss_mid (ps_if (PW.pt (pw_or (pt_cmp (pc_isN (pv 0))) (pw_or1 (pt_val (pe_callB call_isi (by rfl) T.isinstance (by decide +kernel) (pa_cons (pv 0) (pa_cons (pe_bltn (v := .ty "str") (by rfl) zStr (by decide +kernel) rfl) pa_nil))))))) (pss_one (ps_ret (pe_cmpR op_ne (pv 0) pe_str (nomark _)))) pss_nil)
        (pss_cons (ps_if (PW.pt (pw_or (pt_not (pt_val (pe_call R.ok r1 rfl R.m R.k R.b .nil pass0 (pa_cons (pv 0) pa_nil)))) (pw_or1 (pt_not (pt_val (pe_callB (cr_all rfl) (by rfl) T.all (by decide +kernel) (pa_cons (pe_lc (own := [("part", 2)]) (g := gName 2) (tt := tYes) (te := tAndV (tCB (rIsi K) (tCons (tVar 2) (tCons (tC (.ty "str")) tNil))) (tOp rNe (tVar 2) (tC (.str "")))) rfl scFits.nd (pi_list (pv 0)) (blkOk_by (N := nFits) (sc := defScope sFits) (by decide +kernel)) (fun _ _ _ _ _ => pg_name (i := 2) scFits.nd rfl (Or.inl rfl)) (fun _ _ _ _ _ => pts_nil)
          (fun _ _ _ _ _ => by exact pe_and (pe_callB call_isi (by rfl) T.isinstance (by decide +kernel) (pa_cons (pv 2) (pa_cons (pe_bltn (v := .ty "str") (by rfl) zStr (by decide +kernel) rfl) pa_nil))) (pe_one (pe_cmpR op_ne (pv 2) pe_str (nomark _))))) pa_nil))))))) pss_never pss_nil)
        (pss_cons (ps_if (pt_cmpR op_eq (pv 1) pe_str (nomark _)) (pss_one (ps_ret (pe_cmpR op_in_seq (pe_callB call_len_seq (by rfl) T.len PySem.boot_len (pa_cons (pv 0) pa_nil)) (pe_tup (pa_cons pe_int (pa_cons pe_int pa_nil))) (by rfl)))) pss_nil)
        (pss_mid (ps_set (i := 3) scFits.nd rfl (Or.inl rfl) (pe_ifExp (pt_val (pe_call I.ok r1 rfl I.m I.k I.b .nil pass0 (pa_cons (pv 1) pa_nil))) (pv 1) (pe_ifExp (pt_cmpR op_eq (pv 1) pe_str (nomark _)) pe_int pe_int)))
        (pss_one (ps_ret (pe_cmpR op_eq (pe_callB call_len_seq (by rfl) T.len PySem.boot_len (pa_cons (pv 0) pa_nil)) (pv 3) (nomark _))))))), ?_⟩
      obtain rfl := dts_lst hds
      refine ⟨fun σ' H' => σ' = [some (.ref a), some nv, none, none] ∧ H = H', ⟨_, rfl, false, rfl, iteF ⟨_, rfl, _, .ty "str", _, _, false, rfl, .ty _, .base (.lst ha), kit_ty (by decide +kernel), _, rfl, iteF ⟨rfl, rfl⟩⟩⟩, ?_⟩
      rintro _ _ ⟨rfl, rfl⟩
      refine ⟨_, rfl, _, "list", true, rfl, .base (.lst ha), by decide +kernel, fun H1 e1 => ⟨_, rfl, iteF ?_⟩⟩
      have ha1 := e1 _ _ ha
      refine ⟨_, rfl, a, rfl, ⟨_, SqL.of ha1⟩, fun D hD => ?_⟩
      refine lc_list (K := K) (a := a) (xs := l.map V.str) (BlI (fun _ => true) H1 D l) (blI0 hD) (fun i H' _ h => SqL.of (h.1 _ _ ha1)) (fun i x H' hx h => ?_) (fun H2 h => ?_)
      · obtain ⟨z, hz, rfl⟩ := str_at hx
        have zn := l0 z (List.mem_of_getElem? hz)
        refine ⟨rfl, _, rfl, _, .ty "str", _, _, true, rfl, .ty _, .base (.str z), kit_ty (by decide +kernel), true, rfl, iteT ⟨_, rfl, rfl, ?_⟩⟩
        rw [decide_eq_false fun q => zn (V.str.inj q)]
        exact blI_step hD hz h (Same.refl _) rfl (by omega)
      obtain ⟨e2, hl⟩ := blI_end (by rw [List.length_map]) h
      refine ⟨D, _, rfl, SqL.of hl, ?_⟩
      rw [all_tt]
      refine ⟨_, rfl, iteF ?_⟩
      have e12 := e1.trans e2
      have ha2 := e12 _ _ ha
      have hlen : (l.map V.str).length = l.length := List.length_map ..
      refine ⟨_, rfl, (by decide +kernel : ∀ v ∈ nMenu, scal v (V.str "*") = true) nv hn, _, rfl, ?_⟩
      refine ite2 (fun hc => ?_) (fun hc => ?_)
      · rw [if_pos (of_decide_eq_true hc)] at lw
        refine ⟨_, rfl, a, _, rfl, .inl (SqL.of ha2), (by show 2 ≤ sizeLine; decide), fun p hp => ⟨p, _, rfl, .inr (SqT.of upd_same), rfl, by decide +kernel, ?_⟩⟩
        rw [if_neg Bool.false_ne_true, hlen]
        have : inV (.int (l.length : Nat)) [.int 1, .int 2] = true := by
          rcases lw with h | h <;> (rw [h]; decide +kernel)
        rw [this]
        exact k _ (same_upd2 e12 hp)
      · rw [if_neg fun z => hc (decide_eq_true z)] at lw
        refine ⟨fun σ' H' => σ' = [some (.ref a), some nv, none, some (.int (l.length : Nat))] ∧ H2 = H', ?_, ?_⟩
        · simp only [nMenu, List.mem_cons, List.not_mem_nil, or_false] at hn
          rw [lw]
          rcases hn with rfl | rfl | rfl | rfl | rfl | rfl | rfl | rfl | rfl
          · exact ⟨_, rfl, _, "NoneType", false, false, rfl, .base .non, by decide +kernel, by decide +kernel, false, rfl, iteF ⟨_, rfl, rfl, false, rfl, iteF ⟨rfl, rfl⟩⟩⟩
          · exact ⟨_, rfl, _, "str", false, false, rfl, .base (.str _), by decide +kernel, by decide +kernel, false, rfl, iteF ⟨_, rfl, rfl, false, by decide +kernel, iteF ⟨rfl, rfl⟩⟩⟩
          · exact absurd (decide_eq_true rfl) hc
          · exact ⟨_, rfl, _, "str", false, false, rfl, .base (.str _), by decide +kernel, by decide +kernel, false, rfl, iteF ⟨_, rfl, rfl, true, by decide +kernel, iteT ⟨rfl, rfl⟩⟩⟩
          · exact ⟨_, rfl, _, "str", false, false, rfl, .base (.str _), by decide +kernel, by decide +kernel, false, rfl, iteF ⟨_, rfl, rfl, false, by decide +kernel, iteF ⟨rfl, rfl⟩⟩⟩
          · exact ⟨_, rfl, _, "int", true, false, rfl, .base (.int _), by decide +kernel, by decide +kernel, true, rfl, iteT ⟨_, rfl, rfl, rfl⟩⟩
          · exact ⟨_, rfl, _, "int", true, false, rfl, .base (.int _), by decide +kernel, by decide +kernel, true, rfl, iteT ⟨_, rfl, rfl, rfl⟩⟩
          · exact ⟨_, rfl, _, "int", true, false, rfl, .base (.int _), by decide +kernel, by decide +kernel, true, rfl, iteT ⟨_, rfl, rfl, rfl⟩⟩
          · exact ⟨_, rfl, _, "int", true, false, rfl, .base (.int _), by decide +kernel, by decide +kernel, true, rfl, iteT ⟨_, rfl, rfl, rfl⟩⟩
        rintro _ _ ⟨rfl, rfl⟩
        refine ⟨_, rfl, a, _, rfl, .inl (SqL.of ha2), _, rfl, rfl, ?_⟩
        rw [hlen, decide_eq_true rfl]
        exact k _ e12
    · obtain ⟨a, xs, rfl, ha, hds⟩ : ∃ a xs, mv = V.ref a ∧ H a = some (.tup xs) ∧ DtAll H xs (l.map PyData.str) := by
        cases hm with
        | tup h1 h2 => exact ⟨_, _, rfl, h1, h2⟩
      refine ⟨_, pss_mid (ps_if (PW.pt (pw_or (pt_cmp (pc_isN (pv 0))) (pw_or1 (pt_val (pe_callB call_isi (by rfl) T.isinstance (by decide +kernel) (pa_cons (pv 0) (pa_cons (pe_bltn (v := .ty "str") (by rfl) zStr (by decide +kernel) rfl) pa_nil))))))) (pss_one (ps_ret (pe_cmpR op_ne (pv 0) pe_str (nomark _)))) pss_nil)
        (pss_cons (ps_if (PW.pt (pw_or (pt_not (pt_val (pe_call R.ok r1 rfl R.m R.k R.b .nil pass0 (pa_cons (pv 0) pa_nil)))) (pw_or1 (pt_not (pt_val (pe_callB (cr_all rfl) (by rfl) T.all (by decide +kernel) (pa_cons (pe_lc (own := [("part", 2)]) (g := gName 2) (tt := tYes) (te := tAndV (tCB (rIsi K) (tCons (tVar 2) (tCons (tC (.ty "str")) tNil))) (tOp rNe (tVar 2) (tC (.str "")))) rfl scFits.nd (pi_tup (pv 0)) (blkOk_by (N := nFits) (sc := defScope sFits) (by decide +kernel)) (fun _ _ _ _ _ => pg_name (i := 2) scFits.nd rfl (Or.inl rfl)) (fun _ _ _ _ _ => pts_nil)
          (fun _ _ _ _ _ => by exact pe_and (pe_callB call_isi (by rfl) T.isinstance (by decide +kernel) (pa_cons (pv 2) (pa_cons (pe_bltn (v := .ty "str") (by rfl) zStr (by decide +kernel) rfl) pa_nil))) (pe_one (pe_cmpR op_ne (pv 2) pe_str (nomark _))))) pa_nil))))))) pss_never pss_nil)
        (pss_cons (ps_if (pt_cmpR op_eq (pv 1) pe_str (nomark _)) (pss_one (ps_ret (pe_cmpR op_in_seq (pe_callB call_len_seq (by rfl) T.len PySem.boot_len (pa_cons (pv 0) pa_nil)) (pe_tup (pa_cons pe_int (pa_cons pe_int pa_nil))) (by rfl)))) pss_nil)
        (pss_mid (ps_set (i := 3) scFits.nd rfl (Or.inl rfl) (pe_ifExp (pt_val (pe_call I.ok r1 rfl I.m I.k I.b .nil pass0 (pa_cons (pv 1) pa_nil))) (pv 1) (pe_ifExp (pt_cmpR op_eq (pv 1) pe_str (nomark _)) pe_int pe_int)))
        (pss_one (ps_ret (pe_cmpR op_eq (pe_callB call_len_seq (by rfl) T.len PySem.boot_len (pa_cons (pv 0) pa_nil)) (pv 3) (nomark _))))))), ?_⟩
      obtain rfl := dts_lst hds
      refine ⟨fun σ' H' => σ' = [some (.ref a), some nv, none, none] ∧ H = H', ⟨_, rfl, false, rfl, iteF ⟨_, rfl, _, .ty "str", _, _, false, rfl, .ty _, .base (.tup ha), kit_ty (by decide +kernel), _, rfl, iteF ⟨rfl, rfl⟩⟩⟩, ?_⟩
      rintro _ _ ⟨rfl, rfl⟩
      refine ⟨_, rfl, _, "tuple", true, rfl, .base (.tup ha), by decide +kernel, fun H1 e1 => ⟨_, rfl, iteF ?_⟩⟩
      have ha1 := e1 _ _ ha
      refine ⟨_, rfl, a, rfl, ⟨_, SqT.of ha1⟩, fun D hD => ?_⟩
      refine lc_tup (K := K) (a := a) (xs := l.map V.str) (BlI (fun _ => true) H1 D l) (blI0 hD) (fun i H' _ h => SqT.of (h.1 _ _ ha1)) (fun i x H' hx h => ?_) (fun H2 h => ?_)
      · obtain ⟨z, hz, rfl⟩ := str_at hx
        have zn := l0 z (List.mem_of_getElem? hz)
        refine ⟨rfl, _, rfl, _, .ty "str", _, _, true, rfl, .ty _, .base (.str z), kit_ty (by decide +kernel), true, rfl, iteT ⟨_, rfl, rfl, ?_⟩⟩
        rw [decide_eq_false fun q => zn (V.str.inj q)]
        exact blI_step hD hz h (Same.refl _) rfl (by omega)
      obtain ⟨e2, hl⟩ := blI_end (by rw [List.length_map]) h
      refine ⟨D, _, rfl, SqL.of hl, ?_⟩
      rw [all_tt]
      refine ⟨_, rfl, iteF ?_⟩
      have e12 := e1.trans e2
      have ha2 := e12 _ _ ha
      have hlen : (l.map V.str).length = l.length := List.length_map ..
      refine ⟨_, rfl, (by decide +kernel : ∀ v ∈ nMenu, scal v (V.str "*") = true) nv hn, _, rfl, ?_⟩
      refine ite2 (fun hc => ?_) (fun hc => ?_)
      · rw [if_pos (of_decide_eq_true hc)] at lw
        refine ⟨_, rfl, a, _, rfl, .inr (SqT.of ha2), (by show 2 ≤ sizeLine; decide), fun p hp => ⟨p, _, rfl, .inr (SqT.of upd_same), rfl, by decide +kernel, ?_⟩⟩
        rw [if_neg Bool.false_ne_true, hlen]
        have : inV (.int (l.length : Nat)) [.int 1, .int 2] = true := by
          rcases lw with h | h <;> (rw [h]; decide +kernel)
        rw [this]
        exact k _ (same_upd2 e12 hp)
      · rw [if_neg fun z => hc (decide_eq_true z)] at lw
        refine ⟨fun σ' H' => σ' = [some (.ref a), some nv, none, some (.int (l.length : Nat))] ∧ H2 = H', ?_, ?_⟩
        · simp only [nMenu, List.mem_cons, List.not_mem_nil, or_false] at hn
          rw [lw]
          rcases hn with rfl | rfl | rfl | rfl | rfl | rfl | rfl | rfl | rfl
          · exact ⟨_, rfl, _, "NoneType", false, false, rfl, .base .non, by decide +kernel, by decide +kernel, false, rfl, iteF ⟨_, rfl, rfl, false, rfl, iteF ⟨rfl, rfl⟩⟩⟩
          · exact ⟨_, rfl, _, "str", false, false, rfl, .base (.str _), by decide +kernel, by decide +kernel, false, rfl, iteF ⟨_, rfl, rfl, false, by decide +kernel, iteF ⟨rfl, rfl⟩⟩⟩
          · exact absurd (decide_eq_true rfl) hc
          · exact ⟨_, rfl, _, "str", false, false, rfl, .base (.str _), by decide +kernel, by decide +kernel, false, rfl, iteF ⟨_, rfl, rfl, true, by decide +kernel, iteT ⟨rfl, rfl⟩⟩⟩
          · exact ⟨_, rfl, _, "str", false, false, rfl, .base (.str _), by decide +kernel, by decide +kernel, false, rfl, iteF ⟨_, rfl, rfl, false, by decide +kernel, iteF ⟨rfl, rfl⟩⟩⟩
          · exact ⟨_, rfl, _, "int", true, false, rfl, .base (.int _), by decide +kernel, by decide +kernel, true, rfl, iteT ⟨_, rfl, rfl, rfl⟩⟩
          · exact ⟨_, rfl, _, "int", true, false, rfl, .base (.int _), by decide +kernel, by decide +kernel, true, rfl, iteT ⟨_, rfl, rfl, rfl⟩⟩
          · exact ⟨_, rfl, _, "int", true, false, rfl, .base (.int _), by decide +kernel, by decide +kernel, true, rfl, iteT ⟨_, rfl, rfl, rfl⟩⟩
          · exact ⟨_, rfl, _, "int", true, false, rfl, .base (.int _), by decide +kernel, by decide +kernel, true, rfl, iteT ⟨_, rfl, rfl, rfl⟩⟩
        rintro _ _ ⟨rfl, rfl⟩
        refine ⟨_, rfl, a, _, rfl, .inr (SqT.of ha2), _, rfl, rfl, ?_⟩
        rw [hlen, decide_eq_true rfl]
        exact k _ e12
end
end K46

/-! x in t, t a tuple: items are data of any depth -/
namespace L2
open PySem PySem.Spec PyProof.Rows
section
variable {X : Cx}
def rInDT (K : PySem.W.Frag) (neg : Bool) : R2 := fun x y H Q => ∃ d ds, Dp K H x d ∧ Dp K H y (.tuple ds) ∧ SeqAt.shaped d = true ∧ SeqAt.shaped (.tuple ds) = true ∧ Q (.bl (if neg then !(ds.any fun z => PyData.eqv z d) else ds.any fun z => PyData.eqv z d)) H
theorem shaped_lt {ds : List PyData} (h : SeqAt.shaped (.tuple ds) = true) : SeqAt.shaped (.list ds) = true := h
theorem op_inDT (hu : X.A.units + 65 < cLine) : OpR X (compareOp .In) (rInDT X.K false) := by
  intro pins s σ H x y v u Q I rx ry h
  obtain ⟨d, ds, hd, he, sd, se, q⟩ := h
  obtain ⟨as, r1⟩ := Dp.reads I d x v hd rx
  obtain ⟨bs, r2⟩ := Dp.reads I (.tuple ds) y u he ry
  exact SeqAt.in_tuple_reads r2 r1 (SeqAt.canLay_of_shaped (shaped_lt se)) (SeqAt.canLay_of_shaped sd) (room_in_shaped sd hu) ⟨.bl _, H, I, rfl, q⟩
theorem op_notInDT (hu : X.A.units + 65 < cLine) : OpR X (compareOp .NotIn) (rInDT X.K true) := by
  intro pins s σ H x y v u Q I rx ry h
  obtain ⟨d, ds, hd, he, sd, se, q⟩ := h
  obtain ⟨as, r1⟩ := Dp.reads I d x v hd rx
  obtain ⟨bs, r2⟩ := Dp.reads I (.tuple ds) y u he ry
  exact SeqAt.notIn_tuple_reads r2 r1 (SeqAt.canLay_of_shaped (shaped_lt se)) (SeqAt.canLay_of_shaped sd) (room_in_shaped sd hu) ⟨.bl _, H, I, rfl, q⟩
end
end L2

namespace K46
open PySem L2 PyProof.Rows
/-! ### options that are right -/
def SUP : Str := "==SUPPRESS=="
def scD : V → PyData
  | .bl b => .bool b
  | .int i => .int i
  | .str x => .str x
  | _ => .none
theorem dt_n {H : Hp} {v nv : V} (hn : nv ∈ nMenu) (h : Dt H v (scD nv)) : v = nv := by
  simp only [nMenu, List.mem_cons, List.not_mem_nil, or_false] at hn
  rcases hn with rfl | rfl | rfl | rfl | rfl | rfl | rfl | rfl | rfl <;> (cases h; rfl)
theorem dt_k {H : Hp} {v nv : V} (hn : nv ∈ kindsV) (h : Dt H v (scD nv)) : v = nv := by
  simp only [kindsV, List.mem_cons, List.not_mem_nil, or_false] at hn
  rcases hn with rfl | rfl | rfl <;> (cases h; rfl)
structure OkO (io : Bool) (act : Str) (ld : DD) : Prop where
  al : (lookD ld "action").getD (.str "store") = .str act
  am : act ∈ acts12
  ap : io = false → act ∈ WWs
  ks : ∀ k ∈ keysD ld, k ∈ keysS act
  rq : ∀ d, lookD ld "required" = some d → io = true ∧ ∃ b, d = .bool b
  ve : act = "version" → ∃ z, lookD ld "version" = some (.str z)
  na : act ∈ WWs → ∃ nv ∈ nMenu, gD ld "nargs" = scD nv ∧ (act = "extend" → nv ≠ .non ∧ nv ≠ .str "?") ∧ ((lookD ld "const").isSome = true → nv = .str "?") ∧ FitsM (gD ld "metavar") nv
  ki : act ∈ WWs → ∃ kv ∈ kindsV, gD ld "kind" = scD kv
  ch : gD ld "choices" = .none ∨ (∃ l, gD ld "choices" = .list l) ∨ ∃ l, gD ld "choices" = .tuple l
  de : act ∈ LLs → gD ld "default" = .none ∨ gD ld "default" = .str SUP ∨ ∃ l, gD ld "default" = .list l
  he : gD ld "help" = .none ∨ ∃ z, gD ld "help" = .str z
  sm : ∀ p ∈ ld, PyData.depth p.2 ≤ 2 ∧ small p.2 = true ∧ SeqAt.shaped p.2 = true
  n : ld.length ≤ 20
theorem OkO.get {io : Bool} {act : Str} {ld : DD} (h : OkO io act ld) (k : Str) : PyData.depth (gD ld k) ≤ 2 ∧ small (gD ld k) = true ∧ SeqAt.shaped (gD ld k) = true := by
  unfold gD
  cases e : lookD ld k with
  | none => exact ⟨by decide, by decide, by decide⟩
  | some d => exact h.sm _ (look_mem e)
theorem OkO.no {io : Bool} {act : Str} {ld : DD} (h : OkO io act ld) {k : Str} (hk : k ∉ keysS act) : lookD ld k = none := by
  cases e : lookD ld k with
  | none => rfl
  | some d => exact absurd (h.ks k (List.mem_map.mpr ⟨_, look_mem e, rfl⟩)) hk
def spWords : Sp := fun vs H Q _ => ∃ (o : Addr) (s : Str) (io : Bool) (kvs : List (Key × V)) (ld : DD), vs = [.str s, .ref o] ∧ OpH H o kvs ld ∧ OkO io s ld ∧ s ∈ WWs ∧ ∀ H', Same H H' → Q .non H'
def spChkO : Sp := fun vs H Q _ => ∃ (o : Addr) (s : Str) (io : Bool) (kvs : List (Key × V)) (ld : DD), vs = [.str s, .ref o, .bl (!io)] ∧ OpH H o kvs ld ∧ OkO io s ld ∧ ∀ H', Same H H' → Q .non H'
section
variable {P : Program} {w : World} {K : PySem.W.Frag} {mg : Str → Option Value} {base : Heap}
abbrev nWords : List Str := ["action", "options", "nargs", "fits", "choices"]
theorem scWords : FnScope nWords ["action", "options"] (defScope sChkWords) := ⟨rfl, rfl, rfl, by decide +kernel, rfl, by decide +kernel, by decide +kernel⟩
theorem ok_words {f fI fK fM fR fV aW aC aO aN aL aA : Addr} {fd fdI fdK fdM fdR fdV : FuncData} (F : Fun K "check_words" "check_words" sChkWords f fd) (T : TxtB mg) (Z : TxtK K mg aW aC aO aN aL aA) (I : At P w K mg base "is_integer" 1 ["thing"] (spIsInt K) fI fdI) (G : At P w K mg base "is_kind" 1 ["thing"] spIsKind fK fdK) (M : At P w K mg base "fits_metavar" 2 ["metavar", "nargs"] spFits fM fdM)
    (R : At P w K mg base "is_row" 1 ["thing"] (spIsRow K) fR fdR) (Iv : At P w K mg base "is_value" 4 ["thing"] (spIsVal 3) fV fdV) :
    FnOk P w K mg base CX0 5 f fd ["action", "options"] spWords := by
  refine F.ok scWords (fun vs H Q E h => ?_) (fun cdv A outer s H vs Q E hr h => ?_)
  · obtain ⟨o, z, io, kvs, ld, rfl, _⟩ := h
    rfl
  · obtain ⟨o, z, io, kvs, ld, rfl, hO, hK, hz, k⟩ := h
    have hu1 := hu_of hr
    have r1 : Room 1 (A.deeper (PyProof.Rows.envOfC "check_words" (defScope sChkWords) s.heap.objs.size f cdv)) := hr.mono (by decide)
    have r2 : Room 2 (A.deeper (PyProof.Rows.envOfC "check_words" (defScope sChkWords) s.heap.objs.size f cdv)) := hr.mono (by decide)
    refine ⟨_, pss_mid (ps_set (i := 2) scWords.nd rfl (Or.inl rfl) (pe_dget1 hu1 (pv 1) pe_str ⟨rfl, rfl, rfl, rfl⟩))
      (pss_mid (ps_set (i := 3) scWords.nd rfl (Or.inl rfl) (pe_or (pe_cmp (pc_isN (pv 2)) rfl) (pe_or (pe_and (pe_call I.ok r1 rfl I.m I.k I.b .nil pass0 (pa_cons (pv 2) pa_nil)) (pe_one (pe_cmpR op_gt (pv 2) pe_int (nomark _)))) (pe_one (pe_and (pe_callB call_isi (by rfl) T.isinstance (by decide +kernel) (pa_cons (pv 2) (pa_cons (pe_bltn (v := .ty "str") (by rfl) Z.str (by decide +kernel) rfl) pa_nil))) (pe_one (pe_cmpR op_in_seq (pv 2) (pe_glob (v := .ref aN) rfl Z.N.m rfl) (by rfl))))))))
      (pss_mid (ps_if (PW.pt (pw_or (pt_not (pt_val (pv 3))) (pw_or1 (PW.pt (pw_and (pt_cmpR op_eq (pv 0) pe_str (nomark _)) (pw_and1 (pt_cmpR op_in_seq (pv 2) (pe_tup (pa_cons pe_non (pa_cons pe_str pa_nil))) (by rfl)))))))) pss_never pss_nil)
      (pss_mid (ps_if (PW.pt (pw_and (pt_cmp (pc_din hu1 pe_str (pv 1))) (pw_and1 (pt_cmpR op_ne (pv 2) pe_str (nomark _))))) pss_never pss_nil)
      (pss_mid (ps_if (pt_not (pt_val (pe_call G.ok r1 rfl G.m G.k G.b .nil pass0 (pa_cons (pe_dget1 hu1 (pv 1) pe_str ⟨rfl, rfl, rfl, rfl⟩) pa_nil)))) pss_never pss_nil)
      (pss_mid (ps_set (i := 4) scWords.nd rfl (Or.inl rfl) (pe_dget1 hu1 (pv 1) pe_str ⟨rfl, rfl, rfl, rfl⟩))
      (pss_mid (ps_if (PW.pt (pw_and (pt_cmp (pc_notN (pv 4))) (pw_and1 (pt_not (PW.pt (pw_and (pt_val (pe_call R.ok r1 rfl R.m R.k R.b .nil pass0 (pa_cons (pv 4) pa_nil))) (pw_and1 (pt_val (pe_call Iv.ok hr rfl Iv.m Iv.k Iv.b .nil pass0 (pa_cons (pv 4) pa_nil)))))))))) pss_never pss_nil)
      (pss_one (ps_if (pt_not (pt_val (pe_call M.ok r2 rfl M.m M.k M.b .nil pass0 (pa_cons (pe_dget1 hu1 (pv 1) pe_str ⟨rfl, rfl, rfl, rfl⟩) (pa_cons (pv 2) pa_nil))))) pss_never pss_nil)))))))), ?_⟩
    obtain ⟨nv, hnv, hn1, hn2, hn3, hn4⟩ := hK.na hz
    obtain ⟨kv, hkv, hk1⟩ := hK.ki hz
    -- nargs
    refine ⟨fun σ' H' => σ' = [some (.str z), some (.ref o), some nv, none, none] ∧ H = H', ?_, ?_⟩
    · obtain ⟨ov, g1, g2⟩ := hO.getN "nargs"
      rw [hn1] at g2
      have := dt_n hnv g2
      rw [← this]
      exact ⟨_, rfl, o, rfl, hO.iD, ov, g1, rfl, rfl⟩
    rintro _ _ ⟨rfl, rfl⟩
    refine ⟨fun σ' H' => σ' = [some (.str z), some (.ref o), some nv, some (.bl true), none] ∧ H = H', ?_, ?_⟩
    · have nn := hnv
      simp only [nMenu, List.mem_cons, List.not_mem_nil, or_false] at nn
      rcases nn with rfl | rfl | rfl | rfl | rfl | rfl | rfl | rfl | rfl
      · exact ⟨_, rfl, true, rfl, iteT ⟨rfl, rfl⟩⟩
      · exact ⟨_, rfl, false, rfl, iteF ⟨_, rfl, _, "str", false, false, rfl, .base (.str _), by decide +kernel, by decide +kernel, false, rfl, iteF ⟨false, rfl, iteF ⟨_, rfl, _, .ty "str", _, _, true, rfl, .ty _, .base (.str _), kit_ty (by decide +kernel), true, rfl, iteT ⟨_, rfl, aN, wN, rfl, .inr (Z.N.q _), rfl, by decide +kernel, rfl, rfl⟩⟩⟩⟩⟩
      · exact ⟨_, rfl, false, rfl, iteF ⟨_, rfl, _, "str", false, false, rfl, .base (.str _), by decide +kernel, by decide +kernel, false, rfl, iteF ⟨false, rfl, iteF ⟨_, rfl, _, .ty "str", _, _, true, rfl, .ty _, .base (.str _), kit_ty (by decide +kernel), true, rfl, iteT ⟨_, rfl, aN, wN, rfl, .inr (Z.N.q _), rfl, by decide +kernel, rfl, rfl⟩⟩⟩⟩⟩
      · exact ⟨_, rfl, false, rfl, iteF ⟨_, rfl, _, "str", false, false, rfl, .base (.str _), by decide +kernel, by decide +kernel, false, rfl, iteF ⟨false, rfl, iteF ⟨_, rfl, _, .ty "str", _, _, true, rfl, .ty _, .base (.str _), kit_ty (by decide +kernel), true, rfl, iteT ⟨_, rfl, aN, wN, rfl, .inr (Z.N.q _), rfl, by decide +kernel, rfl, rfl⟩⟩⟩⟩⟩
      · exact ⟨_, rfl, false, rfl, iteF ⟨_, rfl, _, "str", false, false, rfl, .base (.str _), by decide +kernel, by decide +kernel, false, rfl, iteF ⟨false, rfl, iteF ⟨_, rfl, _, .ty "str", _, _, true, rfl, .ty _, .base (.str _), kit_ty (by decide +kernel), true, rfl, iteT ⟨_, rfl, aN, wN, rfl, .inr (Z.N.q _), rfl, by decide +kernel, rfl, rfl⟩⟩⟩⟩⟩
      · exact ⟨_, rfl, false, rfl, iteF ⟨_, rfl, _, "int", true, false, rfl, .base (.int _), by decide +kernel, by decide +kernel, true, rfl, iteT ⟨_, rfl, _, _, rfl, rfl, true, rfl, iteT ⟨rfl, rfl⟩⟩⟩⟩
      · exact ⟨_, rfl, false, rfl, iteF ⟨_, rfl, _, "int", true, false, rfl, .base (.int _), by decide +kernel, by decide +kernel, true, rfl, iteT ⟨_, rfl, _, _, rfl, rfl, true, rfl, iteT ⟨rfl, rfl⟩⟩⟩⟩
      · exact ⟨_, rfl, false, rfl, iteF ⟨_, rfl, _, "int", true, false, rfl, .base (.int _), by decide +kernel, by decide +kernel, true, rfl, iteT ⟨_, rfl, _, _, rfl, rfl, true, rfl, iteT ⟨rfl, rfl⟩⟩⟩⟩
      · exact ⟨_, rfl, false, rfl, iteF ⟨_, rfl, _, "int", true, false, rfl, .base (.int _), by decide +kernel, by decide +kernel, true, rfl, iteT ⟨_, rfl, _, _, rfl, rfl, true, rfl, iteT ⟨rfl, rfl⟩⟩⟩⟩
    rintro _ _ ⟨rfl, rfl⟩
    have nflat : flatV nv = true := (by decide +kernel : ∀ v ∈ nMenu, flatV v = true) nv hnv
    -- extend
    refine ⟨fun σ' H' => σ' = [some (.str z), some (.ref o), some nv, some (.bl true), none] ∧ Same H H', ?_, ?_⟩
    · refine ⟨_, rfl, true, rfl, iteF ⟨_, rfl, rfl, _, rfl, ?_⟩⟩
      refine ite2 (fun hc => ?_) (fun hc => iteF ⟨rfl, Same.refl _⟩)
      obtain ⟨x1, x2⟩ := hn2 (V.str.inj (of_decide_eq_true hc))
      refine ⟨_, rfl, (by show 2 ≤ sizeLine; decide), fun p hp => ⟨p, _, rfl, .inr (SqT.of upd_same), nflat, by decide +kernel, false, ?_, iteF ⟨rfl, same_upd hp⟩⟩⟩
      rw [if_neg Bool.false_ne_true]
      exact congrArg V.bl ((by decide +kernel : ∀ v ∈ nMenu, v ≠ .non → v ≠ .str "?" → inV v [V.non, V.str "?"] = false) nv hnv x1 x2)
    rintro _ H1 ⟨rfl, e1⟩
    have hO1 := hO.keep e1
    -- const
    refine ⟨fun σ' H' => σ' = [some (.str z), some (.ref o), some nv, some (.bl true), none] ∧ H1 = H', ?_, ?_⟩
    · obtain ⟨ov, g1, g2⟩ := hO1.get "const"
      refine ⟨_, rfl, o, _, rfl, g1, _, rfl, ?_⟩
      refine ite2 (fun hc => ?_) (fun hc => iteF ⟨rfl, rfl⟩)
      have hcs : (lookD ld "const").isSome = true := by
        rcases g2 with ⟨q1, rfl⟩ | ⟨d, v, q1, rfl, _⟩
        · cases hc
        · rw [q1]
          rfl
      obtain rfl := hn3 hcs
      exact ⟨_, rfl, rfl, false, by decide +kernel, iteF ⟨rfl, rfl⟩⟩
    rintro _ _ ⟨rfl, rfl⟩
    -- kind
    refine ⟨fun σ' H' => σ' = [some (.str z), some (.ref o), some nv, some (.bl true), none] ∧ Same H H', ?_, ?_⟩
    · obtain ⟨ov, g1, g2⟩ := hO1.getN "kind"
      rw [hk1] at g2
      exact ⟨_, rfl, o, rfl, hO1.iD, ov, g1, kv, by rw [dt_k hkv g2]; rfl, hkv, fun H' e => ⟨true, rfl, iteF ⟨rfl, e1.trans e⟩⟩⟩
    rintro _ H2 ⟨rfl, e2⟩
    have hO2 := hO.keep e2
    -- choices
    obtain ⟨ov, g1, g2⟩ := hO2.getN "choices"
    refine ⟨fun σ' H' => σ' = [some (.str z), some (.ref o), some nv, some (.bl true), some (ov.getD .non)] ∧ H2 = H', ⟨_, rfl, o, rfl, hO2.iD, ov, g1, rfl, rfl⟩, ?_⟩
    rintro _ _ ⟨rfl, rfl⟩
    obtain ⟨c1, c2, _⟩ := hK.get "choices"
    have hch := hK.ch
    generalize ov.getD .non = cv at g2
    generalize gD ld "choices" = cd at g2 c1 c2 hch
    refine ⟨fun σ' H' => σ' = [some (.str z), some (.ref o), some nv, some (.bl true), some cv] ∧ Same H H', ?_, ?_⟩
    · rcases hch with rfl | ⟨l, rfl⟩ | ⟨l, rfl⟩
      · cases g2
        exact ⟨_, rfl, false, rfl, iteF (iteF ⟨rfl, e2⟩)⟩
      · have g2' := g2
        cases g2 with
        | lst h1 h2 =>
          exact ⟨_, rfl, true, rfl, iteT ⟨_, rfl, _, "list", true, rfl, .base (.lst h1), by decide +kernel, fun H' e => ⟨_, rfl, iteT ⟨_, rfl, _, _, rfl, Dt.mono e _ _ g2', c1, c2, fun H3 e3 => ⟨_, rfl, iteF ⟨rfl, e2.trans (e.trans e3)⟩⟩⟩⟩⟩⟩
      · have g2' := g2
        cases g2 with
        | tup h1 h2 =>
          exact ⟨_, rfl, true, rfl, iteT ⟨_, rfl, _, "tuple", true, rfl, .base (.tup h1), by decide +kernel, fun H' e => ⟨_, rfl, iteT ⟨_, rfl, _, _, rfl, Dt.mono e _ _ g2', c1, c2, fun H3 e3 => ⟨_, rfl, iteF ⟨rfl, e2.trans (e.trans e3)⟩⟩⟩⟩⟩⟩
    rintro _ H3 ⟨rfl, e3⟩
    have hO3 := hO.keep e3
    obtain ⟨ov3, g3, g4⟩ := hO3.getN "metavar"
    exact ⟨_, rfl, o, rfl, hO3.iD, ov3, g3, _, rfl, _, _, _, rfl, g4, hnv, hn4, fun H' e => ⟨_, rfl, iteF (k _ (e3.trans e))⟩⟩
end
end K46

namespace K46
open PySem L2 PyProof.Rows
/-! ### check_options, default_of -/
def hvV (s : Str) : Bool := inV (.str s) [.str "help", .str "version"]
def deD (act : Str) (ld : DD) : PyData := match lookD ld "default" with
  | some d => d
  | none => if act = "help" ∨ act = "version" then .str SUP else if act = "store_true" ∨ act = "store_false" then .bool (decide (act = "store_false")) else .none
def spDflt : Sp := fun vs H Q _ => ∃ (s d : Str) (o dd : Addr) (io : Bool) (kvs : List (Key × V)) (ld : DD), vs = [.str s, .str d, .ref o, .ref dd, .non] ∧ OpH H o kvs ld ∧ OkO io s ld ∧ H dd = some (.dK []) ∧ ∀ (v' : V) (N H' : Hp), Same H H' → Fresh H H' N → Dt N v' (deD s ld) → Q v' H'
section
variable {P : Program} {w : World} {K : PySem.W.Frag} {mg : Str → Option Value} {base : Heap}
abbrev nChkO : List Str := ["action", "options", "is_positional", "default", "key"]
theorem scChkO : FnScope nChkO ["action", "options", "is_positional"] (defScope sChkOpts) := ⟨rfl, rfl, rfl, by decide +kernel, rfl, by decide +kernel, by decide +kernel⟩
theorem ok_chkO {f fY fW aW aC aO aN aL aA : Addr} {fd fdY fdW : FuncData} (F : Fun K "check_options" "check_options" sChkOpts f fd) (T : TxtB mg) (Z : TxtK K mg aW aC aO aN aL aA) (Y : At P w K mg base "keys_of" 1 ["action"] (spKeysT K) fY fdY) (W : At P w K mg base "check_words" 5 ["action", "options"] spWords fW fdW) :
    FnOk P w K mg base CX0 6 f fd ["action", "options", "is_positional"] spChkO := by
  refine F.ok scChkO (fun vs H Q E h => ?_) (fun cdv A outer s H vs Q E hr h => ?_)
  · obtain ⟨o, z, io, kvs, ld, rfl, _⟩ := h
    rfl
  · obtain ⟨o, z, io, kvs, ld, rfl, hO, hK, k⟩ := h
    have hu1 := hu_of hr
    have hu65 : (A.deeper (PyProof.Rows.envOfC "check_options" (defScope sChkOpts) s.heap.objs.size f cdv)).units + 65 < cLine := by have := hr.un; omega
    have r1 : Room 1 (A.deeper (PyProof.Rows.envOfC "check_options" (defScope sChkOpts) s.heap.objs.size f cdv)) := hr.mono (by decide)
    obtain ⟨ts, hsup⟩ := Z.sup
    refine ⟨_, pss_cons (ps_if (PW.pt (pw_or (pt_not (pt_val (pe_callB call_isi (by rfl) T.isinstance (by decide +kernel) (pa_cons (pv 0) (pa_cons (pe_bltn (v := .ty "str") (by rfl) Z.str (by decide +kernel) rfl) pa_nil))))) (pw_or1 (pt_cmpR op_notIn_seq (pv 0) (pe_op op_catT (pe_op op_catT (pe_op op_catT (pe_glob (v := .ref aW) rfl Z.W.m rfl) (pe_glob (v := .ref aC) rfl Z.C.m rfl)) (pe_glob (v := .ref aO) rfl Z.O.m rfl)) (pe_tup (pa_cons pe_str (pa_cons pe_str pa_nil)))) (by rfl))))) pss_never pss_nil)
      (pss_mid (ps_if (PW.pt (pw_and (pt_val (pv 2)) (pw_and1 (pt_cmpR op_notIn_seq (pv 0) (pe_glob (v := .ref aW) rfl Z.W.m rfl) (by rfl))))) pss_never pss_nil)
      (pss_mid (ps_if (pt_not (pt_val (pe_callB (cr_all rfl) (by rfl) T.all (by decide +kernel) (pa_cons (pe_lock (pe_lc (own := [("key", 4)]) (g := gName 4) (tt := tYes) (te := tOp (rIn K false) (tVar 4) (tCall (spKeysT K) [] E0 (tCons (tVar 0) tNil))) rfl scChkO.nd (pi_keys (pv 1)) (blkOk_by (N := nChkO) (sc := defScope sChkOpts) (by decide +kernel)) (fun _ _ _ _ _ => pg_name (i := 4) scChkO.nd rfl (Or.inl rfl)) (fun _ _ _ _ _ => pts_nil)
        (fun _ _ _ _ _ => by exact pe_cmpR op_in_seq (pv 4) (by exact pe_call Y.ok (by exact r1) rfl Y.m Y.k Y.b .nil pass0 (pa_cons (pv 0) pa_nil)) (by rfl)))) pa_nil)))) pss_never pss_nil)
      (pss_mid (ps_if (PW.pt (pw_and (pt_cmp (pc_din hu1 pe_str (pv 1))) (pw_and1 (PW.pt (pw_or (pt_val (pv 2)) (pw_or1 (pt_not (pt_val (pe_callB call_isi (by rfl) T.isinstance (by decide +kernel) (pa_cons (pe_dget hu1 (pv 1) pe_str (fun _ _ => rfl)) (pa_cons (pe_bltn (v := .ty "bool") (by rfl) T.bool (by decide +kernel) rfl) pa_nil))))))))))) pss_never pss_nil)
      (pss_mid (ps_if (PW.pt (pw_and (pt_cmpR op_eq (pv 0) pe_str (nomark _)) (pw_and1 (pt_not (pt_val (pe_callB call_isi (by rfl) T.isinstance (by decide +kernel) (pa_cons (pe_dget1 hu1 (pv 1) pe_str ⟨rfl, rfl, rfl, rfl⟩) (pa_cons (pe_bltn (v := .ty "str") (by rfl) Z.str (by decide +kernel) rfl) pa_nil)))))))) pss_never pss_nil)
      (pss_mid (ps_if (pt_cmpR op_in_seq (pv 0) (pe_glob (v := .ref aW) rfl Z.W.m rfl) (by rfl)) (pss_one (ps_expr (pe_call W.ok hr rfl W.m W.k W.b .nil pass0 (pa_cons (pv 0) (pa_cons (pv 1) pa_nil))))) pss_nil)
      (pss_mid (ps_set (i := 3) scChkO.nd rfl (Or.inl rfl) (pe_dget1 hu1 (pv 1) pe_str ⟨rfl, rfl, rfl, rfl⟩))
      (pss_mid (ps_if (PW.pt (pw_and (pt_cmpR op_in_seq (pv 0) (pe_glob (v := .ref aL) rfl Z.L.m rfl) (by rfl)) (pw_and (pt_cmpR (op_notInDT hu65) (pv 3) (pe_tup (pa_cons pe_non (pa_cons (pe_glob (v := .str "==SUPPRESS==") rfl hsup ⟨ts, rfl⟩) pa_nil))) (by rfl)) (pw_and1 (pt_not (pt_val (pe_callB call_isi (by rfl) T.isinstance (by decide +kernel) (pa_cons (pv 3) (pa_cons (pe_bltn (v := .ty "list") (by rfl) T.list (by decide +kernel) rfl) pa_nil))))))))) pss_never pss_nil)
      (pss_one (ps_if (PW.pt (pw_and (pt_cmp (pc_notN (pe_dget1 hu1 (pv 1) pe_str ⟨rfl, rfl, rfl, rfl⟩))) (pw_and1 (pt_not (pt_val (pe_callB call_isi (by rfl) T.isinstance (by decide +kernel) (pa_cons (pe_dget hu1 (pv 1) pe_str (fun _ _ => rfl)) (pa_cons (pe_bltn (v := .ty "str") (by rfl) Z.str (by decide +kernel) rfl) pa_nil)))))))) pss_never pss_nil))))))))), ?_⟩
    have hA := hK.am
    have m1 : ∀ s ∈ acts12, inV (.str s) (((wW ++ wC) ++ wO) ++ [.str "help", .str "version"]) = true := by decide +kernel
    have i1 : inV (.str z) wW = decide (z ∈ WWs) := inV_strs z WWs
    have i3 : inV (.str z) wL = decide (z ∈ LLs) := inV_strs z LLs
    refine ⟨_, rfl, _, .ty "str", _, _, true, rfl, .ty _, .base (.str z), kit_ty (by decide +kernel), _, rfl, iteF ?_⟩
    refine ⟨_, rfl, aW, aC, wW, wC, rfl, rfl, Z.W.q _, Z.C.q _, (fun z => nomatch z), (by show 3 + 2 ≤ sizeLine; decide), (fun z => nomatch z), fun _ p1 h1 => ⟨p1, aO, _, wO, rfl, rfl, SqT.of upd_same, Z.O.q _, (fun z => nomatch z), (by show 5 + 4 ≤ sizeLine; decide), (fun z => nomatch z), fun _ p2 h2 => ⟨(by show 2 ≤ sizeLine; decide), fun p3 h3 => ⟨p2, p3, _, _, rfl, rfl, SqT.of (same_upd h3 _ _ upd_same), SqT.of upd_same, (fun z => nomatch z), (by show 9 + 2 ≤ sizeLine; decide), (fun z => nomatch z), fun _ p4 h4 => ?_⟩⟩⟩⟩
    have e1 := same_upd2 (o := .tup (((wW ++ wC) ++ wO) ++ [.str "help", .str "version"])) (same_upd2 (o := .tup [.str "help", .str "version"]) (same_upd2 (o := .tup ((wW ++ wC) ++ wO)) (same_upd (o := .tup (wW ++ wC)) h1) h2) h3) h4
    refine ⟨p4, _, rfl, .inr (SqT.of upd_same), rfl, by decide +kernel, _, rfl, ?_⟩
    rw [if_pos rfl, m1 z hA]
    generalize upd (upd (upd (upd H p1 (.tup (wW ++ wC))) p2 (.tup ((wW ++ wC) ++ wO))) p3 (.tup [.str "help", .str "version"])) p4 (.tup (((wW ++ wC) ++ wO) ++ [.str "help", .str "version"])) = H1 at e1 ⊢
    refine iteF ?_
    refine ⟨fun σ' H' => σ' = [some (.str z), some (.ref o), some (.bl (!io)), none, none] ∧ H1 = H', ?_, ?_⟩
    · refine ⟨_, rfl, _, rfl, ?_⟩
      refine ite2 (fun hb => ?_) (fun _ => iteF ⟨rfl, rfl⟩)
      have hio : io = false := by
        cases io with
        | true => cases hb
        | false => rfl
      refine ⟨_, rfl, aW, wW, rfl, .inr (Z.W.q _), rfl, by decide +kernel, false, ?_, iteF ⟨rfl, rfl⟩⟩
      rw [if_pos rfl, i1, decide_eq_true (hK.ap hio)]
      rfl
    rintro _ _ ⟨rfl, rfl⟩
    -- the keys
    have hkl : kvs.length = ld.length := held_len hO.he
    have hkeys := held_keys hO.he
    have hnl := hK.n
    refine ⟨fun σ' H' => σ' = [some (.str z), some (.ref o), some (.bl (!io)), none, none] ∧ Same H H', ?_, ?_⟩
    · refine ⟨o, .dK kvs, e1 _ _ hO.at_, trivial, fun od => ?_⟩
      have fz : (upd H1 o (.frz od (.dK kvs))) o = some (.frz od (.dK kvs)) := upd_same
      have fr : ∀ b u, H b = some u → b ≠ o → (upd H1 o (.frz od (.dK kvs))) b = some u := fun b u e nb => by rw [upd_ne nb]; exact e1 _ _ e
      generalize upd H1 o (.frz od (.dK kvs)) = G at fz fr
      refine ⟨_, rfl, o, od, rfl, .inl ⟨_, fz, fun D hD => ?_⟩⟩
      refine lc_it walk_keys (BlI (fun _ => true) G D kvs) (blI0 hD) (fun i H' _ h => h.1 _ _ fz) (fun i v H' H'' hi h y => ?_) (fun H' h => ?_)
      · obtain ⟨rfl, kk, vv, hk, rfl⟩ := y
        obtain ⟨s0, hs0, rfl⟩ : ∃ s0 ∈ keysD ld, kk = Sum.inr s0 := by
          have : kk ∈ kvs.map (·.1) := List.mem_map.mpr ⟨_, List.mem_of_getElem? hk, rfl⟩
          rw [hkeys] at this
          obtain ⟨s0, h1, h2⟩ := List.mem_map.mp this
          exact ⟨s0, h1, h2.symm⟩
        refine ⟨rfl, _, rfl, _, rfl, z, rfl, hA, fun U H2 e2 hU => ?_⟩
        refine ⟨U, (keysS z).map V.str, rfl, .inr hU, rfl, flat_strs _, ?_⟩
        have : inV (kV (Sum.inr s0)) ((keysS z).map V.str) = true := by
          show inV (.str s0) _ = true
          rw [inV_strs]
          exact decide_eq_true (hK.ks s0 hs0)
        rw [if_neg Bool.false_ne_true, this]
        exact blI_step hD hk h e2 rfl (by omega)
      · obtain ⟨e2, hD2⟩ := blI_end rfl h
        refine ⟨e2 _ _ fz, ?_⟩
        have nDo : D ≠ o := (ne_of_none fz hD).symm
        have e3 : Same H (upd H' o (.dK kvs)) := fun b u e => by
          by_cases hb : b = o
          · subst hb
            rw [upd_same, ← e]
            exact hO.at_.symm
          · rw [upd_ne hb]
            exact e2 _ _ (fr _ _ e hb)
        refine ⟨D, _, rfl, SqL.of (by rw [upd_ne nDo]; exact hD2), ?_⟩
        rw [all_tt]
        exact ⟨_, rfl, iteF ⟨rfl, e3⟩⟩
    rintro _ H2 ⟨rfl, e2⟩
    have hO2 := hO.keep e2
    -- required
    refine ⟨fun σ' H' => σ' = [some (.str z), some (.ref o), some (.bl (!io)), none, none] ∧ H2 = H', ?_, ?_⟩
    · obtain ⟨ov, g1, g2⟩ := hO2.get "required"
      refine ⟨_, rfl, o, _, rfl, g1, _, rfl, ?_⟩
      rcases g2 with ⟨q1, rfl⟩ | ⟨d, v, q1, rfl, q3⟩
      · exact iteF (iteF ⟨rfl, rfl⟩)
      · obtain ⟨rfl, b, rfl⟩ := hK.rq d q1
        cases q3
        exact iteT ⟨_, rfl, false, rfl, iteF ⟨_, rfl, o, _, rfl, g1, _, .ty "bool", _, _, true, rfl, .ty _, .base (.bl b), kit_ty (by decide +kernel), _, rfl, iteF ⟨rfl, rfl⟩⟩⟩
    rintro _ _ ⟨rfl, rfl⟩
    -- version
    refine ⟨fun σ' H' => σ' = [some (.str z), some (.ref o), some (.bl (!io)), none, none] ∧ H2 = H', ?_, ?_⟩
    · refine ⟨_, rfl, rfl, _, rfl, ?_⟩
      refine ite2 (fun hc => ?_) (fun hc => iteF ⟨rfl, rfl⟩)
      obtain ⟨y, hy⟩ := hK.ve (V.str.inj (of_decide_eq_true hc))
      obtain ⟨ov, g1, g2⟩ := hO2.getN "version"
      unfold gD at g2
      rw [hy] at g2
      have g3 : Dt H2 (ov.getD .non) (.str y) := g2
      have : ov.getD .non = .str y := by
        generalize ov.getD .non = v at g3
        cases g3
        rfl
      refine ⟨_, rfl, o, rfl, hO2.iD, ov, g1, _, .ty "str", _, _, true, rfl, .ty _, (by rw [this]; exact .base (.str y) : TyX K H2 (ov.getD .non) (.type "str")), kit_ty (by decide +kernel), _, rfl, iteF ⟨rfl, rfl⟩⟩
    rintro _ _ ⟨rfl, rfl⟩
    -- words
    refine ⟨fun σ' H' => σ' = [some (.str z), some (.ref o), some (.bl (!io)), none, none] ∧ Same H H', ?_, ?_⟩
    · refine ⟨_, rfl, aW, wW, rfl, .inr (Z.W.q _), rfl, by decide +kernel, _, rfl, ?_⟩
      rw [if_neg Bool.false_ne_true, i1]
      refine ite2 (fun hc => ?_) (fun _ => ⟨rfl, e2⟩)
      exact ⟨_, rfl, _, rfl, o, z, io, kvs, ld, rfl, hO2, hK, of_decide_eq_true hc, fun H' e => ⟨rfl, e2.trans e⟩⟩
    rintro _ H3 ⟨rfl, e3⟩
    have hO3 := hO.keep e3
    obtain ⟨ov, g1, g2⟩ := hO3.getN "default"
    have hdf := hK.get "default"
    refine ⟨fun σ' H' => σ' = [some (.str z), some (.ref o), some (.bl (!io)), some (ov.getD .non), none] ∧ H3 = H', ⟨_, rfl, o, rfl, hO3.iD, ov, g1, rfl, rfl⟩, ?_⟩
    rintro _ _ ⟨rfl, rfl⟩
    generalize ov.getD .non = dv at g2
    refine ⟨fun σ' H' => σ' = [some (.str z), some (.ref o), some (.bl (!io)), some dv, none] ∧ Same H H', ?_, ?_⟩
    · refine ⟨_, rfl, aL, wL, rfl, .inr (Z.L.q _), rfl, by decide +kernel, _, rfl, ?_⟩
      rw [if_neg Bool.false_ne_true, i3]
      refine ite2 (fun hc => ?_) (fun _ => iteF ⟨rfl, e3⟩)
      have hde := hK.de (of_decide_eq_true hc)
      refine ⟨_, rfl, (by show 2 ≤ sizeLine; decide), fun p hp => ?_⟩
      have e4 := same_upd (o := .tup [.non, .str "==SUPPRESS=="]) hp
      have g4 := Dt.mono e4 _ _ g2
      have hp4 : (upd H3 p (.tup [.non, .str "==SUPPRESS=="])) p = some (.tup [.non, .str "==SUPPRESS=="]) := upd_same
      generalize upd H3 p (.tup [.non, .str "==SUPPRESS=="]) = H4 at e4 g4 hp4
      refine ⟨gD ld "default", [.none, .str SUP], Dt.dp _ _ g4, .tup (SqT.of hp4) (.cons .non (.cons (.str _) .nil)), hdf.2.2, by decide +kernel, _, rfl, ?_⟩
      rw [if_pos rfl]
      rcases hde with q | q | ⟨l, q⟩
      · rw [q]
        exact iteF (iteF ⟨rfl, e3.trans e4⟩)
      · rw [q]
        have : ([PyData.none, .str SUP].any fun z => PyData.eqv z (.str SUP)) = true := by decide +kernel
        rw [this]
        exact iteF (iteF ⟨rfl, e3.trans e4⟩)
      · rw [q] at g4 ⊢
        have : ([PyData.none, .str SUP].any fun z => PyData.eqv z (.list l)) = false := rfl
        rw [this]
        cases g4 with
        | lst h1 h2 => exact iteT ⟨_, rfl, _, .ty "list", _, _, true, rfl, .ty _, .base (.lst h1), kit_ty (by decide +kernel), _, rfl, iteF ⟨rfl, e3.trans e4⟩⟩
    rintro _ H4 ⟨rfl, e4⟩
    have hO4 := hO.keep e4
    obtain ⟨oh, g3, g4⟩ := hO4.getN "help"
    obtain ⟨oh', g5, g6⟩ := hO4.get "help"
    have hoh : ∀ v, oh = some v → DGet H4 o (.str "help") (some v) := fun v e => by rw [← e]; exact g3
    refine ⟨_, rfl, o, rfl, hO4.iD, oh, g3, ?_⟩
    rcases hK.he with q | ⟨y, q⟩
    · rw [q] at g4
      have : oh.getD .non = .non := by
        generalize oh.getD .non = v at g4
        cases g4
        rfl
      rw [this]
      exact ⟨false, rfl, iteF (iteF (k _ e4))⟩
    · rw [q] at g4
      have h1 : oh.getD .non = .str y := by
        generalize oh.getD .non = v at g4
        cases g4
        rfl
      have h2 : oh = some (.str y) := by
        cases oh with
        | none => cases h1
        | some v => exact congrArg some h1
      rw [h1]
      exact ⟨true, rfl, iteT ⟨_, rfl, o, _, rfl, hoh _ h2, _, .ty "str", _, _, true, rfl, .ty _, .base (.str y), kit_ty (by decide +kernel), _, rfl, iteF (k _ e4)⟩⟩
abbrev nDflt : List Str := ["action", "dest", "options", "defaults", "argument_default"]
theorem scDflt : FnScope nDflt nDflt (defScope sDflt) := ⟨rfl, rfl, rfl, by decide +kernel, rfl, by decide +kernel, by decide +kernel⟩
theorem ok_dflt {f fCp aW aC aO aN aL aA : Addr} {fd fdCp : FuncData} (F : Fun K "default_of" "default_of" sDflt f fd) (Z : TxtK K mg aW aC aO aN aL aA) (Cp : At P w K mg base "copied" 4 ["value"] (spCop 3) fCp fdCp) : FnOk P w K mg base CX0 5 f fd nDflt spDflt := by
  refine F.ok scDflt (fun vs H Q E h => ?_) (fun cdv A outer s H vs Q E hr h => ?_)
  · obtain ⟨z, d, o, dd, io, kvs, ld, rfl, _⟩ := h
    rfl
  · obtain ⟨z, d, o, dd, io, kvs, ld, rfl, hO, hK, hD, k⟩ := h
    have hu1 := hu_of hr
    obtain ⟨ts, hsup⟩ := Z.sup
    refine ⟨_, pss_cons (ps_if (pt_cmp (pc_din hu1 pe_str (pv 2))) (pss_one (ps_ret (pe_call Cp.ok hr rfl Cp.m Cp.k Cp.b .nil pass0 (pa_cons (pe_dget hu1 (pv 2) pe_str (fun _ _ => rfl)) pa_nil)))) pss_nil)
      (pss_cons (ps_if (pt_cmpR op_in_seq (pv 0) (pe_tup (pa_cons pe_str (pa_cons pe_str pa_nil))) (by rfl)) (pss_one (ps_ret (pe_glob (v := .str "==SUPPRESS==") rfl hsup ⟨ts, rfl⟩))) pss_nil)
      (pss_cons (ps_if (pt_cmp (pc_din hu1 (pv 1) (pv 3))) pss_never pss_nil)
      (pss_cons (ps_if (pt_cmp (pc_notN (pv 4))) pss_never pss_nil)
      (pss_one (ps_ret (pe_ifExp (pt_cmpR op_in_seq (pv 0) (pe_tup (pa_cons pe_str (pa_cons pe_str pa_nil))) (by rfl)) (pe_cmpR op_eq (pv 0) pe_str (nomark _)) pe_non)))))), ?_⟩
    obtain ⟨ov, g1, g2⟩ := hO.get "default"
    have hdf := hK.get "default"
    refine ⟨_, rfl, o, _, rfl, g1, _, rfl, ?_⟩
    rcases g2 with ⟨q1, rfl⟩ | ⟨dv, v, q1, rfl, q3⟩
    rotate_left
    · have e : gD ld "default" = dv := by
        unfold gD
        rw [q1]
        rfl
      rw [e] at hdf
      refine iteT ⟨_, rfl, o, _, rfl, g1, v, dv, rfl, q3, by have := hdf.1; omega, hdf.2.1, fun v' N H' e' F t => k v' N H' e' F ?_⟩
      unfold deD
      rw [q1]
      exact t
    refine iteF ⟨_, rfl, (by show 2 ≤ sizeLine; decide), fun p hp => ?_⟩
    have e1 := same_upd (o := .tup [.str "help", .str "version"]) hp
    have hp1 : (upd H p (.tup [.str "help", .str "version"])) p = some (.tup ((["help", "version"] : List Str).map V.str)) := upd_same
    generalize upd H p (.tup [.str "help", .str "version"]) = H1 at e1 hp1
    refine ⟨p, _, rfl, .inr (SqT.of hp1), rfl, flat_strs _, _, rfl, ?_⟩
    rw [if_neg Bool.false_ne_true, inV_strs]
    refine ite2 (fun hc => ?_) (fun hc => ?_)
    · have hc' : z = "help" ∨ z = "version" := by
        have := of_decide_eq_true hc
        simpa using this
      refine k _ emp H1 e1 fresh_emp ?_
      unfold deD
      rw [q1]
      show Dt emp _ (if z = "help" ∨ z = "version" then .str SUP else _)
      rw [if_pos hc']
      exact .str _
    have hc' : ¬ (z = "help" ∨ z = "version") := fun q => hc (decide_eq_true (by simpa using q))
    refine ⟨_, rfl, _, rfl, dd, _, rfl, DGet.k (k := (Sum.inr d : Key)) (e1 _ _ hD), _, rfl, iteF ?_⟩
    refine ⟨_, rfl, false, rfl, iteF ?_⟩
    refine ⟨_, rfl, (by show 2 ≤ sizeLine; decide), fun q hq => ?_⟩
    have e2 := same_upd (o := .tup [.str "store_true", .str "store_false"]) hq
    have hq1 : (upd H1 q (.tup [.str "store_true", .str "store_false"])) q = some (.tup ((["store_true", "store_false"] : List Str).map V.str)) := upd_same
    generalize upd H1 q (.tup [.str "store_true", .str "store_false"]) = H2 at e2 hq1
    refine ⟨q, _, rfl, .inr (SqT.of hq1), rfl, flat_strs _, _, rfl, ?_⟩
    rw [if_neg Bool.false_ne_true, inV_strs]
    have ee : deD z ld = if z = "store_true" ∨ z = "store_false" then .bool (decide (z = "store_false")) else .none := by
      unfold deD
      rw [q1]
      show (if z = "help" ∨ z = "version" then PyData.str SUP else _) = _
      rw [if_neg hc']
    refine ite2 (fun h => ?_) (fun h => ?_)
    · have h' : z = "store_true" ∨ z = "store_false" := by
        have := of_decide_eq_true h
        simpa using this
      refine ⟨_, rfl, rfl, k _ emp H2 (e1.trans e2) fresh_emp ?_⟩
      rw [ee, if_pos h']
      have : decide (V.str z = V.str "store_false") = decide (z = "store_false") := decide_eq_decide.mpr ⟨fun x => V.str.inj x, fun x => congrArg V.str x⟩
      rw [this]
      exact .bl _
    · have h' : ¬ (z = "store_true" ∨ z = "store_false") := fun q => h (decide_eq_true (by simpa using q))
      refine k _ emp H2 (e1.trans e2) fresh_emp ?_
      rw [ee, if_neg h']
      exact .non
end
end K46

namespace K46
open PySem L2 PyProof.Rows
/-! ### an argument made -/
def flt (N : Hp) : Hp := fun b => match N b with
  | some (.lst xs) => some (.lst xs)
  | some (.tup xs) => some (.tup xs)
  | _ => none
theorem flt_sub (N : Hp) : Same (flt N) N := fun b o h => by
  unfold flt at h
  cases e : N b with
  | none =>
    rw [e] at h
    cases h
  | some u =>
    rw [e] at h
    cases u <;> first | exact h | cases h
theorem flt_is {N : Hp} {b : Addr} {o : HO} (h : flt N b = some o) : (∃ xs, o = .lst xs) ∨ ∃ xs, o = .tup xs := by
  unfold flt at h
  cases e : N b with
  | none =>
    rw [e] at h
    cases h
  | some u =>
    rw [e] at h
    cases u <;> first | (cases h; exact .inl ⟨_, rfl⟩) | (cases h; exact .inr ⟨_, rfl⟩) | cases h
mutual
theorem Dt.flt {N : Hp} : ∀ (d : PyData) (v : V), Dt N v d → Dt (flt N) v d
  | .none, _, h => by cases h; exact .non
  | .bool b, _, h => by cases h; exact .bl b
  | .int i, _, h => by cases h; exact .int i
  | .str x, _, h => by cases h; exact .str x
  | .list ds, _, h => by
    cases h with
    | lst ha hs =>
      refine .lst ?_ (DtAll.flt ds _ hs)
      unfold K46.flt
      rw [ha]
  | .tuple ds, _, h => by
    cases h with
    | tup ha hs =>
      refine .tup ?_ (DtAll.flt ds _ hs)
      unfold K46.flt
      rw [ha]
  | .dict _, _, h => by cases h
theorem DtAll.flt {N : Hp} : ∀ (ds : List PyData) (vs : List V), DtAll N vs ds → DtAll (flt N) vs ds
  | [], _, h => by cases h; exact .nil
  | d :: ds, _, h => by
    cases h with
    | cons a b => exact .cons (Dt.flt d _ a) (DtAll.flt ds _ b)
end
def argF : List Str := ["flags", "dest", "action", "is_option", "nargs", "const", "default", "kind", "choices", "required", "help", "metavar", "version", "commands", "fellows"]
/-- an argument's fields -/
def aFs (fl d s io nn co de ki ch re he me ve cm fe : V) : List (Str × V) := [("flags", fl), ("dest", d), ("action", s), ("is_option", io), ("nargs", nn), ("const", co), ("default", de), ("kind", ki), ("choices", ch), ("required", re), ("help", he), ("metavar", me), ("version", ve), ("commands", cm), ("fellows", fe)]
def spArgI (C : Addr) : Sp := fun vs H Q _ => ∃ (x dx T : Addr) (fl : List Str) (d s : Str), vs = [.ref x, .ref T, .str d, .str s] ∧ H x = some (.ins C dx []) ∧ H T = some (.tup (fl.map V.str)) ∧ (∀ x ∈ fl, PyData.strOk x = true) ∧
  ∀ H', (∀ b o, H b = some o → b ≠ x → H' b = some o) → H' x = some (.ins C dx (aFs (.ref T) (.str d) (.str s) (.bl (!fl.isEmpty)) .non .non .non .non .non (.bl false) .non .non .non .non (.bl false))) → Q .non H'

section
variable {P : Program} {w : World} {K : PySem.W.Frag} {mg : Str → Option Value} {base : Heap}
theorem scArgI : FnScope ["self", "flags", "dest", "action"] ["self", "flags", "dest", "action"] (defScope sArgI) := ⟨rfl, rfl, rfl, by decide +kernel, rfl, by decide +kernel, by decide +kernel⟩
theorem ok_argI {f C : Addr} {fd : FuncData} (F : Fun K "__init__" "Argument.__init__" sArgI f fd) (c : ClsN K C argF) : FnOk P w K mg base CX0 1 f fd ["self", "flags", "dest", "action"] (spArgI C) := by
  refine F.ok scArgI (fun vs H Q E h => ?_) (fun cdv A outer s H vs Q E hr h => ?_)
  · obtain ⟨x, dx, T, fl, d, z, rfl, _⟩ := h
    rfl
  · obtain ⟨x, dx, T, fl, d, z, rfl, hx, hT, fA, k⟩ := h
    have hu : (A.deeper (PyProof.Rows.envOfC "Argument.__init__" (defScope sArgI) s.heap.objs.size f cdv)).units + 64 < cLine := hr.units
    refine ⟨_, pss_cons (ps_fld (pv 0) (pv 1) rfl) (pss_cons (ps_fld (pv 0) (pv 2) rfl) (pss_cons (ps_fld (pv 0) (pv 3) rfl) (pss_mid (ps_fld (pv 0) (pe_cmpR (op_neD hu) (pv 1) (pe_tup pa_nil) (nomark _)) rfl) (pss_cons (ps_fld (pv 0) pe_non rfl) (pss_cons (ps_fld (pv 0) pe_non rfl) (pss_cons (ps_fld (pv 0) pe_non rfl) (pss_cons (ps_fld (pv 0) pe_non rfl) (pss_cons (ps_fld (pv 0) pe_non rfl) (pss_cons (ps_fld (pv 0) pe_bl rfl) (pss_cons (ps_fld (pv 0) pe_non rfl) (pss_cons (ps_fld (pv 0) pe_non rfl) (pss_cons (ps_fld (pv 0) pe_non rfl) (pss_cons (ps_fld (pv 0) pe_non rfl) (pss_one (ps_fld (pv 0) pe_bl rfl))))))))))))))), ?_⟩
    have m : ∀ f ∈ argF, NoAttr K C f := c.no
    have nTx : T ≠ x := ne_of hT hx (by intro z; cases z)
    refine ⟨_, rfl, _, rfl, x, C, dx, _, rfl, hx, c.cl, m _ (by decide +kernel), (by show 0 < 1000; decide), ?_⟩
    refine ⟨_, rfl, _, rfl, x, C, dx, _, rfl, upd_same, c.cl, m _ (by decide +kernel), (by show 1 < 1000; decide), ?_⟩
    refine ⟨_, rfl, _, rfl, x, C, dx, _, rfl, upd_same, c.cl, m _ (by decide +kernel), (by show 2 < 1000; decide), ?_⟩
    refine ⟨fun σ' H' => σ' = [some (.ref x), some (.ref T), some (.str d), some (.str z)] ∧ (∀ b o, H b = some o → b ≠ x → H' b = some o) ∧ H' x = some (.ins C dx [("flags", .ref T), ("dest", .str d), ("action", .str z), ("is_option", .bl (!fl.isEmpty))]), ?_, ?_⟩
    · refine ⟨_, rfl, (by show 0 ≤ sizeLine; decide), fun p hp => ?_⟩
      have e1 := same_upd (o := .tup []) hp
      refine ⟨.tuple (fl.map PyData.str), .tuple [], .tup (SqT.of (e1 _ _ (by rw [upd_ne nTx, upd_ne nTx, upd_ne nTx]; exact hT))) (dpAll_strs fl), .tup (SqT.of upd_same) .nil, strs_shaped fA, by decide, ?_⟩
      refine ⟨_, rfl, x, C, dx, _, rfl, e1 _ _ upd_same, c.cl, m _ (by decide +kernel), (by show 3 < 1000; decide), rfl, fun b o e nb => ?_, ?_⟩
      · rw [upd_ne nb]
        refine e1 _ _ ?_
        rw [upd_ne nb, upd_ne nb, upd_ne nb]
        exact e
      · have hb : (!PyData.eqv (.tuple (fl.map PyData.str)) (.tuple [])) = !fl.isEmpty := by
          cases fl with
          | nil => rfl
          | cons y ys => rfl
        rw [upd_same, hb]
        rfl
    rintro _ G ⟨rfl, kp, g⟩
    refine ⟨_, rfl, x, C, dx, _, rfl, g, c.cl, m _ (by decide +kernel), (by show 4 < 1000; decide), ?_⟩
    refine ⟨_, rfl, x, C, dx, _, rfl, upd_same, c.cl, m _ (by decide +kernel), (by show 5 < 1000; decide), ?_⟩
    refine ⟨_, rfl, x, C, dx, _, rfl, upd_same, c.cl, m _ (by decide +kernel), (by show 6 < 1000; decide), ?_⟩
    refine ⟨_, rfl, x, C, dx, _, rfl, upd_same, c.cl, m _ (by decide +kernel), (by show 7 < 1000; decide), ?_⟩
    refine ⟨_, rfl, x, C, dx, _, rfl, upd_same, c.cl, m _ (by decide +kernel), (by show 8 < 1000; decide), ?_⟩
    refine ⟨_, rfl, x, C, dx, _, rfl, upd_same, c.cl, m _ (by decide +kernel), (by show 9 < 1000; decide), ?_⟩
    refine ⟨_, rfl, x, C, dx, _, rfl, upd_same, c.cl, m _ (by decide +kernel), (by show 10 < 1000; decide), ?_⟩
    refine ⟨_, rfl, x, C, dx, _, rfl, upd_same, c.cl, m _ (by decide +kernel), (by show 11 < 1000; decide), ?_⟩
    refine ⟨_, rfl, x, C, dx, _, rfl, upd_same, c.cl, m _ (by decide +kernel), (by show 12 < 1000; decide), ?_⟩
    refine ⟨_, rfl, x, C, dx, _, rfl, upd_same, c.cl, m _ (by decide +kernel), (by show 13 < 1000; decide), ?_⟩
    refine ⟨_, rfl, x, C, dx, _, rfl, upd_same, c.cl, m _ (by decide +kernel), (by show 14 < 1000; decide), ?_⟩
    refine k _ (fun b o e nb => ?_) ?_
    · iterate 11 rw [upd_ne nb]
      exact kp _ _ e nb
    · rw [upd_same]
      rfl
end
end K46

namespace K46
open PySem L2 PyProof.Rows
/-! ### made_argument -/
def parF : List Str := ["prog", "usage", "description", "epilog", "layout", "width", "prefix_chars", "file_signs", "files", "argument_default", "conflict_handler", "allow_abbrev", "exit_on_error", "arguments", "flags", "exclusives", "defaults", "commands_argument", "sections"]
/-- what made_argument reads of the parser -/
structure PaAt (CP : Addr) (H : Hp) (p dd : Addr) (pf : Str) : Prop where
  ex : ∃ dx fs, H p = some (.ins CP dx fs) ∧ fs.lookup ("prefix_chars" : Str) = some (V.str pf) ∧ fs.lookup ("defaults" : Str) = some (V.ref dd) ∧ fs.lookup ("argument_default" : Str) = some V.non
  d : H dd = some (.dK [])
theorem PaAt.keep {CP : Addr} {H H' : Hp} {p dd : Addr} {pf : Str} (h : PaAt CP H p dd pf) (e : Same H H') : PaAt CP H' p dd pf := by
  obtain ⟨dx, fs, h1, h2⟩ := h.ex
  exact ⟨⟨dx, fs, e _ _ h1, h2⟩, e _ _ h.d⟩
/-- data whose lists and tuples are new beside H -/
def DtR (H H' : Hp) (v : V) (d : PyData) : Prop := ∃ N, Dt N v d ∧ Same N H' ∧ (∀ b o, N b = some o → H b = none) ∧ ∀ b C dx fs, N b ≠ some (.ins C dx fs)
theorem DtR.of {H Hi H' N : Hp} {v : V} {d : PyData} (e : Same H Hi) (F : Fresh Hi H' N) (h : Dt N v d) : DtR H H' v d :=
  ⟨flt N, Dt.flt _ _ h, (flt_sub N).trans F.sub, fun b o q => Same.free e (F.new b o (flt_sub N _ _ q)), fun b C dx fs q => by rcases flt_is q with ⟨xs, z⟩ | ⟨xs, z⟩ <;> cases z⟩
theorem DtR.keep {H H' H2 : Hp} {v : V} {d : PyData} (h : DtR H H' v d) (e : Same H' H2) : DtR H H2 v d := by
  obtain ⟨N, h1, h2, h3, h4⟩ := h
  exact ⟨N, h1, h2.trans e, h3, h4⟩
theorem DtR.kp {H H' H2 : Hp} {v : V} {d : PyData} {A C dx : Addr} {fs : List (Str × V)} (h : DtR H H' v d) (hA : H' A = some (.ins C dx fs)) (e : ∀ b o, H' b = some o → b ≠ A → H2 b = some o) : DtR H H2 v d := by
  obtain ⟨N, h1, h2, h3, h4⟩ := h
  exact ⟨N, h1, fun b o q => e b o (h2 b o q) fun z => by
    subst z
    have := h2 _ _ q
    rw [hA] at this
    exact h4 b C dx fs (by rw [q, ← this]), h3, h4⟩
theorem DtR.dt {H H' : Hp} {v : V} {d : PyData} (h : DtR H H' v d) : Dt H' v d := by
  obtain ⟨N, h1, h2, _⟩ := h
  exact Dt.mono h2 _ _ h1
theorem dt_emp {H : Hp} {v : V} {d : PyData} (h : Dt H v d) (hd : d = .none ∨ (∃ b, d = .bool b) ∨ (∃ i, d = .int i) ∨ ∃ x, d = .str x) : Dt emp v d := by
  rcases hd with rfl | ⟨b, rfl⟩ | ⟨b, rfl⟩ | ⟨b, rfl⟩ <;> cases h
  · exact .non
  · exact .bl b
  · exact .int b
  · exact .str b
theorem dt_flat {v : V} {d : PyData} (h : Dt emp v d) : flatV v = true := by
  cases h with
  | lst h1 _ => cases h1
  | tup h1 _ => cases h1
  | _ => rfl
/-- an argument in the making: its fields are af -/
structure Msd (H H' : Hp) (CA A dx U : Addr) (fl : List Str) (af : List (Str × V)) : Prop where
  same : Same H H'
  tt : H' U = some (.tup (fl.map V.str))
  ex : H' A = some (.ins CA dx af)
theorem Msd.keep {H H' H2 : Hp} {CA A dx T : Addr} {fl : List Str} {af : List (Str × V)} (m : Msd H H' CA A dx T fl af) (e : Same H' H2) : Msd H H2 CA A dx T fl af := ⟨m.same.trans e, e _ _ m.tt, e _ _ m.ex⟩
def putS : List Str := ["fellows", "nargs", "const", "default", "kind", "choices", "required", "help", "version", "metavar"]
theorem Msd.put {K : PySem.W.Frag} {Y : Hp → Prop} {H H' : Hp} {CA A dx T : Addr} {fl : List Str} {af : List (Str × V)} {f : Str} {v : V} (m : Msd H H' CA A dx T fl af) (c : ClsN K CA argF) (nA : H A = none) (hf : f ∈ putS) (k : ∀ H2, Msd H H2 CA A dx T fl (putF f v af) → (∀ b o, H' b = some o → b ≠ A → H2 b = some o) → Y H2) (hl : af.length < 1000 := by (show 15 < 1000; decide)) :
    ∃ a C dx fs, V.ref A = .ref a ∧ H' a = some (.ins C dx fs) ∧ Cls K C ∧ NoAttr K C f ∧ fs.length < 1000 ∧ Y (upd H' a (.ins C dx (putF f v fs))) := by
  have h := m.ex
  refine ⟨A, CA, dx, _, rfl, h, c.cl, c.no _ ?_, hl, k _ ⟨same_mut m.same nA, ?_, upd_same⟩ fun b o e nb => by rw [upd_ne nb]; exact e⟩
  · exact (by decide +kernel : ∀ f ∈ putS, f ∈ argF) f hf
  · rw [upd_ne (ne_of m.tt h (by intro z; cases z))]
    exact m.tt
theorem Msd.putG {K : PySem.W.Frag} {Q : L2.St → Hp → Prop} {σ : L2.St} {H H' : Hp} {CA A dx T : Addr} {fl : List Str} {af : List (Str × V)} {f : Str} {v : V} (m : Msd H H' CA A dx T fl af) (c : ClsN K CA argF) (nA : H A = none) (hf : f ∈ putS) (h9 : σ[9]? = some (some (.ref A))) (k : ∀ H2, Msd H H2 CA A dx T fl (putF f v af) → (∀ b o, H' b = some o → b ≠ A → H2 b = some o) → Q σ H2) (hl : af.length < 1000 := by (show 15 < 1000; decide)) :
    gFld K (tVar 9) f v σ H' Q := ⟨_, h9, m.put (Y := fun H2 => Q σ H2) c nA hf k hl⟩
/-! what the fields are -/
def dedup (fl : List Str) : List Str := fl.foldl (fun f x => f ++ [x].filter fun y => decide (y ∉ f)) []
def flD (pf : Str) (gs : List Str) (io : Bool) (act : Str) : List Str := if act = "yes_no" then fellows pf (flOf gs io) else dedup (flOf gs io)
def nnD (act : Str) (ld : DD) : PyData := if act ∈ WWs then gD ld "nargs" else .int 0
def coD (act : Str) (ld : DD) : PyData := if act = "store_true" ∨ act = "store_false" then .bool (decide (act = "store_true")) else gD ld "const"
def needD : PyData → Bool
  | .str x => !(decide (x = "?" ∨ x = "*" ∨ x = "..."))
  | _ => true
def reD (io : Bool) (act : Str) (ld : DD) : PyData := if io then (lookD ld "required").getD (.bool false) else .bool (needD (nnD act ld))
def heD (act : Str) (ld : DD) : PyData := match gD ld "help" with
  | .none => if act = "version" then .str VH else .none
  | d => d
def meD (ld : DD) : PyData := match gD ld "metavar" with
  | .list l => .tuple l
  | d => d
structure AV where
  (nn co de ki ch re he me ve fe : V)
def AV.fs (U : Addr) (r act : Str) (b : Bool) (v : AV) : List (Str × V) := aFs (.ref U) (.str r) (.str act) (.bl b) v.nn v.co v.de v.ki v.ch v.re v.he v.me v.ve .non v.fe
structure AG (H H' : Hp) (io : Bool) (act : Str) (ld : DD) (hd : PyData) (v : AV) (n : Nat) : Prop where
  nn : 1 ≤ n → Dt emp v.nn (nnD act ld)
  co : 2 ≤ n → DtR H H' v.co (coD act ld)
  de : 3 ≤ n → DtR H H' v.de (deD act ld)
  ki : 4 ≤ n → DtR H H' v.ki (gD ld "kind")
  ch : 4 ≤ n → DtR H H' v.ch (gD ld "choices")
  re : 5 ≤ n → Dt emp v.re (reD io act ld)
  he : 6 ≤ n → Dt emp v.he hd
  ve : 6 ≤ n → Dt emp v.ve (gD ld "version")
theorem AG.keep {H H' H2 : Hp} {io : Bool} {act : Str} {ld : DD} {hd : PyData} {v : AV} {n : Nat} (h : AG H H' io act ld hd v n) (e : Same H' H2) : AG H H2 io act ld hd v n :=
  ⟨h.nn, fun q => (h.co q).keep e, fun q => (h.de q).keep e, fun q => (h.ki q).keep e, fun q => (h.ch q).keep e, h.re, h.he, h.ve⟩
theorem AG.kp {H H' H2 : Hp} {io : Bool} {act : Str} {ld : DD} {hd : PyData} {v : AV} {n : Nat} {A C dx : Addr} {fs : List (Str × V)} (h : AG H H' io act ld hd v n) (hA : H' A = some (.ins C dx fs)) (e : ∀ b o, H' b = some o → b ≠ A → H2 b = some o) : AG H H2 io act ld hd v n :=
  ⟨h.nn, fun q => (h.co q).kp hA e, fun q => (h.de q).kp hA e, fun q => (h.ki q).kp hA e, fun q => (h.ch q).kp hA e, h.re, h.he, h.ve⟩
/-- a metavar as it is kept -/
def MeAt (H : Hp) (v : V) (d : PyData) : Prop := Dt emp v d ∨ ∃ (a : Addr) (l : List Str), v = .ref a ∧ d = .tuple (l.map PyData.str) ∧ H a = some (.tup (l.map V.str))
/-- an argument that is made -/
structure MadeA (CA : Addr) (H H' : Hp) (A : Addr) (pf : Str) (gs : List Str) (io : Bool) (act : Str) (ld : DD) : Prop where
  same : Same H H'
  nA : H A = none
  ex : ∃ (dx U : Addr) (v : AV), H U = none ∧ Msd H H' CA A dx U (flD pf gs io act) (v.fs U (destOf pf gs io ld) act io) ∧ AG H H' io act ld (heD act ld) v 6 ∧ MeAt H' v.me (meD ld)
theorem dedup_mem : ∀ {fl : List Str} {x : Str}, x ∈ dedup fl ↔ x ∈ fl := by
  have key : ∀ (fl f : List Str) (x : Str), x ∈ fl.foldl (fun f x => f ++ [x].filter fun y => decide (y ∉ f)) f ↔ x ∈ f ∨ x ∈ fl := by
    intro fl
    induction fl with
    | nil => intro f x; simp
    | cons y fl ih =>
      intro f x
      rw [List.foldl_cons, ih, List.mem_append, List.mem_cons]
      by_cases h : y ∈ f
      · simp [h]
        constructor
        · rintro (h1 | h1)
          · exact .inl h1
          · exact .inr (.inr h1)
        · rintro (h1 | rfl | h1)
          · exact .inl h1
          · exact .inl h
          · exact .inr h1
      · simp [h]
        constructor
        · rintro ((h1 | h1) | h1)
          · exact .inl h1
          · exact .inr (.inl h1)
          · exact .inr (.inr h1)
        · rintro (h1 | h1 | h1)
          · exact .inl (.inl h1)
          · exact .inl (.inr h1)
          · exact .inr h1
  intro fl x
  unfold dedup
  rw [key]
  simp
theorem dedup_more {fl : List Str} {i : Nat} {x : Str} (h : fl[i]? = some x) : dedup (fl.take (i + 1)) = dedup (fl.take i) ++ (if decide (x ∉ fl.take i) = true then [x] else []) := by
  have e : dedup (fl.take (i + 1)) = dedup (fl.take i) ++ [x].filter fun y => decide (y ∉ dedup (fl.take i)) := by
    unfold dedup
    rw [take_more' h, List.foldl_append]
    rfl
  rw [e]
  congr 1
  have : decide (x ∉ dedup (fl.take i)) = decide (x ∉ fl.take i) := decide_eq_decide.mpr (not_congr dedup_mem)
  rw [List.filter_cons, this]
  rfl
theorem dedup_len (fl : List Str) : (dedup fl).length ≤ fl.length := by
  have key : ∀ (fl f : List Str), (fl.foldl (fun f x => f ++ [x].filter fun y => decide (y ∉ f)) f).length ≤ f.length + fl.length := by
    intro fl
    induction fl with
    | nil => intro f; exact Nat.le_refl _
    | cons y fl ih =>
      intro f
      have h1 := ih (f ++ [y].filter fun z => decide (z ∉ f))
      have h2 := List.length_filter_le (fun z => decide (z ∉ f)) [y]
      rw [List.length_append] at h1
      rw [List.foldl_cons, List.length_cons]
      have h3 : ([y] : List Str).length = 1 := rfl
      omega
  have := key fl []
  unfold dedup
  simpa using this
theorem fellows_mem {pf : Str} : ∀ {fl : List Str} {y : Str}, y ∈ fellows pf fl → ∃ x ∈ fl, y = x ∨ y = noF x := by
  have key : ∀ (fl f : List Str) (y : Str), y ∈ fl.foldl (felStep pf) f → y ∈ f ∨ ∃ x ∈ fl, y = x ∨ y = noF x := by
    intro fl
    induction fl with
    | nil => intro f y h; exact .inl h
    | cons z fl ih =>
      intro f y h
      rw [List.foldl_cons] at h
      rcases ih _ _ h with h | ⟨x, hx, h⟩
      · unfold felStep at h
        rcases List.mem_append.mp h with h | h
        · exact .inl h
        · have := (List.mem_filter.mp h).1
          unfold fel1 at this
          split at this
          · rcases List.mem_cons.mp this with rfl | this
            · exact .inr ⟨_, List.mem_cons_self, .inl rfl⟩
            · exact .inr ⟨z, List.mem_cons_self, .inr (List.mem_singleton.mp this)⟩
          · exact .inr ⟨z, List.mem_cons_self, .inl (List.mem_singleton.mp this)⟩
      · exact .inr ⟨x, List.mem_cons_of_mem _ hx, h⟩
  intro fl y h
  rcases key fl [] y h with h | h
  · exact nomatch h
  · exact h
theorem fellows_head {pf : Str} {x : Str} {fl : List Str} : fellows pf (x :: fl) ≠ [] := by
  have key : ∀ (fl f : List Str), f ≠ [] → fl.foldl (felStep pf) f ≠ [] := by
    intro fl
    induction fl with
    | nil => intro f h; exact h
    | cons z fl ih =>
      intro f h
      rw [List.foldl_cons]
      refine ih _ ?_
      unfold felStep
      exact fun q => h (List.append_eq_nil_iff.mp q).1
  refine key fl (felStep pf [] x) ?_
  unfold felStep fel1
  split <;> simp
theorem flD_ne {pf : Str} {gs : List Str} {io : Bool} {act : Str} (h : Gv pf gs io) : (flD pf gs io act).isEmpty = !io := by
  unfold flD flOf
  cases io with
  | false => split <;> rfl
  | true =>
    obtain ⟨h0, _⟩ := h.op rfl
    cases gs with
    | nil => exact absurd rfl h0
    | cons x gs =>
      show (if act = "yes_no" then fellows pf (x :: gs) else dedup (x :: gs)).isEmpty = false
      split
      · cases e : fellows pf (x :: gs) with
        | nil => exact absurd e fellows_head
        | cons a b => rfl
      · cases e : dedup (x :: gs) with
        | nil =>
          have : x ∈ dedup (x :: gs) := dedup_mem.mpr List.mem_cons_self
          rw [e] at this
          exact nomatch this
        | cons a b => rfl
theorem flD_so {pf : Str} {gs : List Str} {io : Bool} {act : Str} (h : Gv pf gs io) : ∀ x ∈ flD pf gs io act, PyData.strOk x = true := fun x hx => by
  unfold flD at hx
  split at hx
  · obtain ⟨y, hy, e⟩ := fellows_mem hx
    cases io with
    | false => exact nomatch hy
    | true =>
      have := (h.op rfl).2 y hy
      rcases e with rfl | rfl
      · exact this.so
      · exact this.no
  · exact flOf_so h x (dedup_mem.mp hx)
theorem cut_take {xs : List V} {i : Nat} (h : i ≤ xs.length) : cutV xs none (some (i : Int)) = xs.take i := by
  unfold cutV
  rw [HT.sIx_nat, HT.sIx_none, Nat.min_eq_left h]
  simp
def spMade (CA CP : Addr) : Sp := fun vs H Q _ => ∃ (a p dd : Addr) (gv : V) (pf : Str) (gs : List Str) (io : Bool) (act : Str) (ld : DD), vs = [.ref a, gv, .ref p, .bl false] ∧ SeqF H a (gs.map V.str) ∧ Gv pf gs io ∧ ((gv = .non ∧ ld = []) ∨ ∃ (o : Addr) (kvs : List (Key × V)), gv = .ref o ∧ OpH H o kvs ld) ∧ Nmd gs io ld ∧ OkO io act ld ∧ PaAt CP H p dd pf ∧
  ∀ (A : Addr) (H' : Hp), MadeA CA H H' A pf gs io act ld → Q (.ref A) H'
end K46

namespace K46
open PySem L2 PyProof.Rows
section
variable {P : Program} {w : World} {K : PySem.W.Frag} {mg : Str → Option Value} {base : Heap}
abbrev nMade : List Str := ["flags", "given", "parser", "is_exclusive", "options", "made", "dest", "action", "unique", "argument", "metavar", "at", "flag"]
theorem scMade : FnScope nMade ["flags", "given", "parser", "is_exclusive"] (defScope sMadeArg) := ⟨rfl, rfl, rfl, by decide +kernel, rfl, by decide +kernel, by decide +kernel⟩
theorem ok_made {f fCh fNa fCo fDf fCp fR fAI fWf CA CP aW aC aO aN aL aA : Addr} {fd fdCh fdNa fdCo fdDf fdCp fdR fdAI fdWf : FuncData} (F : Fun K "made_argument" "made_argument" sMadeArg f fd) (T : TxtB mg) (Z : TxtK K mg aW aC aO aN aL aA) (cP : ClsN K CP parF) (cA : ClsN K CA argF)
    (Ch : At P w K mg base "checked_flags" 3 ["flags", "prefix_chars"] (spChk K) fCh fdCh) (Na : At P w K mg base "named" 1 ["flags", "made", "options", "prefix_chars"] spNamed fNa fdNa) (Co : At P w K mg base "check_options" 6 ["action", "options", "is_positional"] spChkO fCo fdCo) (Df : At P w K mg base "default_of" 5 nDflt spDflt fDf fdDf) (Cp : At P w K mg base "copied" 4 ["value"] (spCop 3) fCp fdCp) (R : At P w K mg base "is_row" 1 ["thing"] (spIsRow K) fR fdR)
    (Wf : At P w K mg base "with_fellows" 1 ["flags", "prefix_chars"] spWithF fWf fdWf)
    (mA : mg "Argument" = some (.ref CA)) (MA : Mk K CA fAI) (GA : FnOk P w K mg base CX0 1 fAI fdAI ["self", "flags", "dest", "action"] (spArgI CA)) (bA : Binds K fdAI ["self", "flags", "dest", "action"] []) :
    FnOk P w K mg base CX0 7 f fd ["flags", "given", "parser", "is_exclusive"] (spMade CA CP) := by
  refine F.ok scMade (fun vs H Q E h => ?_) (fun cdv A0 outer s H vs Q E hr h => ?_)
  · obtain ⟨a, p, dd, gv, pf, gs, io, act, ld, rfl, _⟩ := h
    rfl
  · obtain ⟨a, p, dd, gv, pf, gs, io, act, ld, rfl, ha, hG, hgv, hNm, hK, hP, k⟩ := h
    have hu : (A0.deeper (PyProof.Rows.envOfC "made_argument" (defScope sMadeArg) s.heap.objs.size f cdv)).units + 64 < cLine := hr.units
    have hu1 := hu_of hr
    have r1 : Room 1 (A0.deeper (PyProof.Rows.envOfC "made_argument" (defScope sMadeArg) s.heap.objs.size f cdv)) := hr.mono (by decide)
    have r2 : Room 2 (A0.deeper (PyProof.Rows.envOfC "made_argument" (defScope sMadeArg) s.heap.objs.size f cdv)) := hr.mono (by decide)
    have r3 : Room 3 (A0.deeper (PyProof.Rows.envOfC "made_argument" (defScope sMadeArg) s.heap.objs.size f cdv)) := hr.mono (by decide)
    have r4 : Room 4 (A0.deeper (PyProof.Rows.envOfC "made_argument" (defScope sMadeArg) s.heap.objs.size f cdv)) := hr.mono (by decide)
    have r5 : Room 5 (A0.deeper (PyProof.Rows.envOfC "made_argument" (defScope sMadeArg) s.heap.objs.size f cdv)) := hr.mono (by decide)
    obtain ⟨tvh, hvh⟩ := Z.vh
    refine ⟨_, (pss_mid (ps_set (i := 4) scMade.nd rfl (Or.inl rfl) (pe_ifExp (pt_cmp (pc_isN (pv 1))) pe_dnewK (pv 1)))
      (pss_mid (ps_set (i := 5) scMade.nd rfl (Or.inr rfl) (pe_call Ch.ok r3 rfl Ch.m Ch.k Ch.b .nil pass0 (pa_cons (pv 0) (pa_cons (pe_fld (pv 2) rfl) pa_nil))))
      (pss_mid (ps_set (i := 6) scMade.nd rfl (Or.inl rfl) (pe_call Na.ok r1 rfl Na.m Na.k Na.b .nil pass0 (pa_cons (pv 0) (pa_cons (pv 5) (pa_cons (pv 4) (pa_cons (pe_fld (pv 2) rfl) pa_nil))))))
      (pss_mid (ps_set (i := 7) scMade.nd rfl (Or.inl rfl) (pe_dget2 hu1 (pv 4) pe_str pe_str ⟨rfl, rfl, rfl, rfl⟩))
      (pss_mid (ps_expr (pe_call Co.ok hr rfl Co.m Co.k Co.b .nil pass0 (pa_cons (pv 7) (pa_cons (pv 4) (pa_cons (pe_cmpR (op_eqD hu) (pv 5) (pe_tup pa_nil) (nomark _)) pa_nil)))))
      (pss_mid (ps_set (i := 8) scMade.nd rfl (Or.inl rfl) (pe_callTy call_tuple_of (by rfl) T.tuple (by decide +kernel) (pa_cons (pe_lc (own := [("at", 11), ("flag", 12)]) (g := gTup K 2 (gCons (gName 11) (gCons (gName 12) gNil))) (tt := tTest (tOp (rIn K true) (tVar 12) (tSl (rSlT K) (tVar 5) tNoPart (tPart (tVar 11))))) (te := tVar 12) rfl scMade.nd (pi_enumT rfl Z.enum (pa_cons (pv 5) pa_nil)) (blkOk_by (N := nMade) (sc := defScope sMadeArg) (by decide +kernel)) (fun _ _ _ _ _ => pg_tup rfl (pgs_cons (pg_name (i := 11) scMade.nd rfl (Or.inl rfl)) (pgs_cons (pg_name (i := 12) scMade.nd rfl (Or.inl rfl)) pgs_nil)))
 (fun _ _ _ _ _ => by exact pts_one (pt_cmpR op_notIn_seq (pv 12) (by exact pe_slice sl_tup (pv 5) po_none (po_some (pv 11))) (by rfl))) (fun _ _ _ _ _ => by exact pv 12)) pa_nil)))
      (pss_mid (ps_set (i := 9) scMade.nd rfl (Or.inl rfl) (pe_make MA GA r2 rfl mA bA .nil pass0 (pa_cons (pe_ifExp (pt_cmpR op_eq (pv 7) pe_str (nomark _)) (pe_call Wf.ok r1 rfl Wf.m Wf.k Wf.b .nil pass0 (pa_cons (pv 5) (pa_cons (pe_fld (pv 2) rfl) pa_nil))) (pv 8)) (pa_cons (pv 6) (pa_cons (pv 7) pa_nil)))))
      (pss_mid (ps_fld (pv 9) (pe_and (pe_cmpR op_eq (pv 7) pe_str (nomark _)) (pe_one (pe_cmpR op_gt (pe_callB call_len_seq (by rfl) T.len PySem.boot_len (pa_cons (pe_fld (pv 9) rfl) pa_nil)) (pe_callB call_len_seq (by rfl) T.len PySem.boot_len (pa_cons (pv 8) pa_nil)) (nomark _)))) rfl)
      (pss_mid (ps_fld (pv 9) (pe_ifExp (pt_cmpR op_in_seq (pv 7) (pe_glob (v := .ref aW) rfl Z.W.m rfl) (by rfl)) (pe_dget1 hu1 (pv 4) pe_str ⟨rfl, rfl, rfl, rfl⟩) pe_int) rfl)
      (pss_mid (ps_fld (pv 9) (pe_ifExp (pt_cmpR op_in_seq (pv 7) (pe_tup (pa_cons pe_str (pa_cons pe_str pa_nil))) (by rfl)) (pe_cmpR op_eq (pv 7) pe_str (nomark _)) (pe_call Cp.ok r4 rfl Cp.m Cp.k Cp.b .nil pass0 (pa_cons (pe_dget1 hu1 (pv 4) pe_str ⟨rfl, rfl, rfl, rfl⟩) pa_nil))) rfl)
      (pss_mid (ps_fld (pv 9) (pe_call Df.ok r5 rfl Df.m Df.k Df.b .nil pass0 (pa_cons (pv 7) (pa_cons (pv 6) (pa_cons (pv 4) (pa_cons (pe_fld (pv 2) rfl) (pa_cons (pe_fld (pv 2) rfl) pa_nil)))))) rfl)
      (pss_mid (ps_asg (pe_tup (pa_cons (pe_call Cp.ok r4 rfl Cp.m Cp.k Cp.b .nil pass0 (pa_cons (pe_dget1 hu1 (pv 4) pe_str ⟨rfl, rfl, rfl, rfl⟩) pa_nil)) (pa_cons (pe_call Cp.ok r4 rfl Cp.m Cp.k Cp.b .nil pass0 (pa_cons (pe_dget1 hu1 (pv 4) pe_str ⟨rfl, rfl, rfl, rfl⟩) pa_nil)) pa_nil))) (pg_tup rfl (pgs_cons (pg_fld (pv 9)) (pgs_cons (pg_fld (pv 9)) pgs_nil))))
      (pss_mid (ps_fld (pv 9) (pe_ifExp (pt_cmpR (op_neD hu) (pv 5) (pe_tup pa_nil) (nomark _)) (pe_dget2 hu1 (pv 4) pe_str pe_bl ⟨rfl, rfl, rfl, rfl⟩) (pe_cmpR op_notIn_seq (pe_fld (pv 9) rfl) (pe_tup (pa_cons pe_str (pa_cons pe_str (pa_cons pe_str pa_nil)))) (by rfl))) rfl)
      (pss_mid (ps_asg (pe_tup (pa_cons (pe_dget1 hu1 (pv 4) pe_str ⟨rfl, rfl, rfl, rfl⟩) (pa_cons (pe_dget1 hu1 (pv 4) pe_str ⟨rfl, rfl, rfl, rfl⟩) pa_nil))) (pg_tup rfl (pgs_cons (pg_fld (pv 9)) (pgs_cons (pg_fld (pv 9)) pgs_nil))))
      (pss_mid (ps_if (PW.pt (pw_and (pt_cmpR op_eq (pv 7) pe_str (nomark _)) (pw_and1 (pt_cmp (pc_isN (pe_fld (pv 9) rfl)))))) (pss_one (ps_fld (pv 9) (pe_glob (v := .str VH) rfl hvh ⟨tvh, rfl⟩) rfl)) pss_nil)
      (pss_mid (ps_set (i := 10) scMade.nd rfl (Or.inl rfl) (pe_dget1 hu1 (pv 4) pe_str ⟨rfl, rfl, rfl, rfl⟩))
      (pss_mid (ps_fld (pv 9) (pe_ifExp (pt_val (pe_call R.ok r1 rfl R.m R.k R.b .nil pass0 (pa_cons (pv 10) pa_nil))) (pe_callTy call_tuple_of (by rfl) T.tuple (by decide +kernel) (pa_cons (pv 10) pa_nil)) (pv 10)) rfl)
      (pss_cons (ps_if (PW.pt (pw_and (pt_val (pv 3)) pw_never)) pss_never pss_nil)
      (pss_one (ps_ret (pv 9))))))))))))))))))))), ?_⟩
    obtain ⟨dxp, pfs, p1, pp, pd, pa⟩ := hP.ex
    have pD := hP.d
    have nP1 : NoAttr K CP "prefix_chars" := cP.no _ (by decide +kernel)
    have nP2 : NoAttr K CP "defaults" := cP.no _ (by decide +kernel)
    have nP3 : NoAttr K CP "argument_default" := cP.no _ (by decide +kernel)
    have hfln : (flOf gs io).length ≤ 20 := by
      have := hG.n
      unfold flOf
      split
      · exact this
      · exact Nat.zero_le _
    have hso := flOf_so hG
    have hb : PyData.eqv (.tuple ((flOf gs io).map PyData.str)) (.tuple []) = !io := by
      cases io with
      | false => rfl
      | true =>
        cases gs with
        | nil => exact absurd rfl (hG.op rfl).1
        | cons z zs => rfl
    generalize hr0 : destOf pf gs io ld = r
    -- options
    refine ⟨fun σ' H' => ∃ (o : Addr) (kvs : List (Key × V)), σ' = [some (.ref a), some gv, some (.ref p), some (.bl false), some (.ref o), none, none, none, none, none, none, none, none] ∧ Same H H' ∧ OpH H' o kvs ld, ?_, ?_⟩
    · rcases hgv with ⟨rfl, rfl⟩ | ⟨o, kvs, rfl, hO⟩
      · exact ⟨_, rfl, true, rfl, iteT fun o ho => ⟨o, [], rfl, same_upd ho, upd_same, .nil⟩⟩
      · exact ⟨_, rfl, false, rfl, iteF ⟨_, rfl, o, kvs, rfl, Same.refl _, hO⟩⟩
    rintro _ H0 ⟨o, kvs, rfl, e0, hO⟩
    -- made
    refine ⟨fun σ' H' => ∃ T : Addr, σ' = [some (.ref a), some gv, some (.ref p), some (.bl false), some (.ref o), some (.ref T), none, none, none, none, none, none, none] ∧ Same H0 H' ∧ H' T = some (.tup ((flOf gs io).map V.str)), ?_, ?_⟩
    · exact ⟨_, rfl, _, rfl, p, CP, dxp, pfs, _, rfl, e0 _ _ p1, cP.cl, nP1, pp, a, pf, gs, io, rfl, ha.keep e0, hG, fun T H1 e1 hT => ⟨T, rfl, e1, hT⟩⟩
    rintro _ H1 ⟨T, rfl, e01, hT⟩
    have e1 := e0.trans e01
    have hO1 := hO.keep e01
    -- dest
    refine ⟨fun σ' H' => σ' = [some (.ref a), some gv, some (.ref p), some (.bl false), some (.ref o), some (.ref T), some (.str r), none, none, none, none, none, none] ∧ Same H1 H', ?_, ?_⟩
    · exact ⟨_, rfl, _, rfl, _, rfl, _, rfl, p, CP, dxp, pfs, _, rfl, e1 _ _ p1, cP.cl, nP1, pp, a, T, o, pf, gs, io, kvs, ld, rfl, ha.keep e1, hT, hG, hO1, hNm, fun H2 e2 => ⟨by rw [hr0]; rfl, e2⟩⟩
    rintro _ H2 ⟨rfl, e12⟩
    have e2 := e1.trans e12
    have hO2 := hO1.keep e12
    have hT2 := e12 _ _ hT
    -- action
    refine ⟨fun σ' H' => σ' = [some (.ref a), some gv, some (.ref p), some (.bl false), some (.ref o), some (.ref T), some (.str r), some (.str act), none, none, none, none, none] ∧ H2 = H', ?_, ?_⟩
    · obtain ⟨ov, g1, g2⟩ := hO2.get "action"
      refine ⟨_, rfl, o, rfl, hO2.iD, ov, g1, ?_, rfl⟩
      have hal := hK.al
      rcases g2 with ⟨q1, rfl⟩ | ⟨d, v, q1, rfl, q3⟩
      · rw [q1] at hal
        rw [PyData.str.inj hal]
        rfl
      · rw [q1] at hal
        have hal' : d = .str act := hal
        subst hal'
        cases q3
        rfl
    rintro _ _ ⟨rfl, rfl⟩
    -- check_options
    refine ⟨fun σ' H' => σ' = [some (.ref a), some gv, some (.ref p), some (.bl false), some (.ref o), some (.ref T), some (.str r), some (.str act), none, none, none, none, none] ∧ Same H2 H', ?_, ?_⟩
    · refine ⟨_, rfl, _, rfl, _, rfl, (by show 0 ≤ sizeLine; decide), fun q hq => ?_⟩
      have eq := same_upd (o := .tup []) hq
      refine ⟨_, .tuple [], .tup (SqT.of (eq _ _ hT2)) (dpAll_strs _), .tup (SqT.of upd_same) .nil, strs_shaped hso, by decide, ?_⟩
      rw [hb]
      exact ⟨o, act, io, kvs, ld, rfl, hO2.keep eq, hK, fun H' e => ⟨rfl, eq.trans e⟩⟩
    rintro _ H3 ⟨rfl, e23⟩
    have e3 := e2.trans e23
    have hT3 := e23 _ _ hT2
    have hO3 := hO2.keep e23
    -- unique
    refine ⟨fun σ' H' => ∃ U : Addr, σ' = [some (.ref a), some gv, some (.ref p), some (.bl false), some (.ref o), some (.ref T), some (.str r), some (.str act), some (.ref U), none, none, none, none] ∧ Same H3 H' ∧ H U = none ∧ H' U = some (.tup ((dedup (flOf gs io)).map V.str)), ?_, ?_⟩
    · refine ⟨_, rfl, T, _, rfl, SqT.of hT3, fun D hD => ?_⟩
      refine lc_it walk_enumT (fun i H' => Same H3 H' ∧ H' D = some (.lst ((dedup ((flOf gs io).take i)).map V.str))) ⟨same_upd hD, upd_same⟩ (fun i H' _ h => SqT.of (h.1 _ _ hT3)) (fun i v H' H'' hi h y => ?_) (fun H' h => ?_)
      · obtain ⟨Tn, x, y, rfl, hTn, rfl, hx, hy⟩ := y
        cases hx
        obtain ⟨w, hw, rfl⟩ := str_at hy
        have nD : D ≠ Tn := ne_of_none h.2 hTn
        have eT := same_upd (o := .tup [.int (i : Nat), .str w]) hTn
        have hil : i < (flOf gs io).length := (List.getElem?_eq_some_iff.mp hw).1
        refine ⟨Tn, _, rfl, SqT.of upd_same, rfl, _, _, rfl, _, _, rfl, rfl, rfl, _, rfl, _, rfl, _, rfl, ?_⟩
        have ht : i ≤ ((flOf gs io).map V.str).length := by
          rw [List.length_map]
          omega
        refine ⟨_, rfl, T, _, rfl, SqT.of (eT _ _ (h.1 _ _ hT3)), (fun z => ?_), fun q hq => ⟨q, _, rfl, .inr (SqT.of upd_same), rfl, ?_, _, rfl, ?_⟩⟩
        · have z2 := z.2
          rw [HT.sIx_nat, List.length_map] at z2
          omega
        · rw [cut_take ht, ← List.map_take]
          exact flat_strs _
        have eq2 := same_upd (o := .tup (((flOf gs io).take i).map V.str)) hq
        rw [if_pos rfl, cut_take ht, ← List.map_take, inV_strs, dedup_more hw]
        have hle : ((dedup ((flOf gs io).take i)).map V.str).length < sizeLine := by
          have := dedup_len ((flOf gs io).take i)
          rw [List.length_take] at this
          rw [List.length_map, PySem.sizeLine_eq]
          omega
        by_cases hc : w ∈ (flOf gs io).take i
        · rw [decide_eq_true hc]
          refine iteF ⟨h.1.trans (eT.trans eq2), ?_⟩
          rw [if_neg (by rw [decide_eq_false (fun q => q hc)]; exact Bool.false_ne_true), List.append_nil]
          exact eq2 _ _ (eT _ _ h.2)
        · rw [decide_eq_false hc]
          refine iteT ⟨_, rfl, _, eq2 _ _ (eT _ _ h.2), hle, same_mut (h.1.trans (eT.trans eq2)) hD, ?_⟩
          rw [upd_same, if_pos (decide_eq_true hc), List.map_append]
          rfl
      · obtain ⟨s1, hl⟩ := h
        rw [List.length_map, List.take_length] at hl
        exact ⟨D, _, rfl, .inl ⟨SqL.of hl, fun U hU => ⟨U, rfl, same_upd2 s1 hU, Same.free (e3.trans s1) hU, upd_same⟩⟩⟩
    rintro _ H4 ⟨U0, rfl, e34, nU0, hU0⟩
    have e4 := e3.trans e34
    have hO4 := hO3.keep e34
    have hT4 := e34 _ _ hT3
    -- the argument
    refine ⟨fun σ' H' => ∃ A dx U : Addr, σ' = [some (.ref a), some gv, some (.ref p), some (.bl false), some (.ref o), some (.ref T), some (.str r), some (.str act), some (.ref U0), some (.ref A), none, none, none] ∧ H4 A = none ∧ H U = none ∧ Msd H4 H' CA A dx U (flD pf gs io act) (AV.fs U r act io ⟨.non, .non, .non, .non, .non, .bl false, .non, .non, .non, .bl false⟩), ?_, ?_⟩
    · refine ⟨_, rfl, rfl, _, rfl, ?_⟩
      refine ite2 (fun hc => ?_) (fun hc => ?_)
      · have hy := V.str.inj (of_decide_eq_true hc)
        have hio : io = true := by
          cases io with
          | true => rfl
          | false =>
            have := hK.ap rfl
            rw [hy] at this
            exact absurd this (by decide)
        refine ⟨_, rfl, _, rfl, p, CP, dxp, pfs, _, rfl, e4 _ _ p1, cP.cl, nP1, pp, T, pf, flOf gs io, rfl, hT4, ?_, hfln, fun U H5 e5 nU5 hU5 => ?_⟩
        · rw [hio]
          exact (hG.op hio).2
        have nU : H U = none := Same.free e4 nU5
        have hU : H5 U = some (.tup ((flD pf gs io act).map V.str)) := by
          unfold flD
          rw [if_pos hy]
          exact hU5
        refine ⟨_, rfl, _, rfl, fun A dx hAn hdx ne => ?_⟩
        have eA : Same H5 (upd (upd H5 dx (.own A)) A (.ins CA dx [])) := same_upd2 (same_upd hdx) (by rw [upd_ne ne.symm]; exact hAn)
        refine ⟨A, dx, U, flD pf gs io act, r, act, rfl, upd_same, eA _ _ hU, flD_so hG, fun H' kp hA' => ⟨rfl, A, dx, U, rfl, Same.free e5 hAn, nU, ?_, ?_, ?_⟩⟩
        · exact fun b u e => kp b u (eA _ _ (e5 _ _ e)) (ne_of_none (e5 _ _ e) hAn)
        · exact kp _ _ (eA _ _ hU) (ne_of_none hU hAn)
        · rw [hA', flD_ne hG, Bool.not_not]
          rfl
      · have hy : act ≠ "yes_no" := fun q => hc (decide_eq_true (congrArg V.str q))
        have e5 := Same.refl H4
        have nU := nU0
        have hU : H4 U0 = some (.tup ((flD pf gs io act).map V.str)) := by
          unfold flD
          rw [if_neg hy]
          exact hU0
        refine ⟨_, rfl, _, rfl, _, rfl, fun A dx hAn hdx ne => ?_⟩
        have eA : Same H4 (upd (upd H4 dx (.own A)) A (.ins CA dx [])) := same_upd2 (same_upd hdx) (by rw [upd_ne ne.symm]; exact hAn)
        refine ⟨A, dx, U0, flD pf gs io act, r, act, rfl, upd_same, eA _ _ hU, flD_so hG, fun H' kp hA' => ⟨rfl, A, dx, U0, rfl, Same.free e5 hAn, nU, ?_, ?_, ?_⟩⟩
        · exact fun b u e => kp b u (eA _ _ (e5 _ _ e)) (ne_of_none (e5 _ _ e) hAn)
        · exact kp _ _ (eA _ _ hU) (ne_of_none hU hAn)
        · rw [hA', flD_ne hG, Bool.not_not]
          rfl
    rintro _ H5 ⟨A, dx, U, rfl, nA4, nU, M5⟩
    have nA : H A = none := Same.free e4 nA4
    generalize hσ : ([some (.ref a), some gv, some (.ref p), some (.bl false), some (.ref o), some (.ref T), some (.str r), some (.str act), some (.ref U0), some (.ref A), none, none, none] : L2.St) = σ5
    have s2 : σ5[2]? = some (some (.ref p)) := by rw [← hσ]; rfl
    have s3 : σ5[3]? = some (some (.bl false)) := by rw [← hσ]; rfl
    have s4 : σ5[4]? = some (some (.ref o)) := by rw [← hσ]; rfl
    have s5 : σ5[5]? = some (some (.ref T)) := by rw [← hσ]; rfl
    have s6 : σ5[6]? = some (some (.str r)) := by rw [← hσ]; rfl
    have s7 : σ5[7]? = some (some (.str act)) := by rw [← hσ]; rfl
    have s8 : σ5[8]? = some (some (.ref U0)) := by rw [← hσ]; rfl
    have s9 : σ5[9]? = some (some (.ref A)) := by rw [← hσ]; rfl
    have hOX : ∀ {H' : Hp}, Same H4 H' → OpH H' o kvs ld := fun e => hO4.keep e
    have i1 : inV (.str act) wW = decide (act ∈ WWs) := inV_strs act WWs
    -- fellows
    refine ⟨fun σ' H' => σ5 = σ' ∧ ∃ v : AV, v.me = .non ∧ Msd H4 H' CA A dx U (flD pf gs io act) (v.fs U r act io) ∧ AG H H' io act ld (gD ld "help") v 0, ?_, ?_⟩
    · have g0 : ∀ (fe : V) (H' : Hp), AG H H' io act ld (gD ld "help") ⟨.non, .non, .non, .non, .non, .bl false, .non, .non, .non, fe⟩ 0 := fun fe H' => ⟨fun q => absurd q (by decide), fun q => absurd q (by decide), fun q => absurd q (by decide), fun q => absurd q (by decide), fun q => absurd q (by decide), fun q => absurd q (by decide), fun q => absurd q (by decide), fun q => absurd q (by decide)⟩
      refine ⟨_, s7, rfl, _, rfl, ?_⟩
      refine ite2 (fun hc => ?_) (fun hc => ?_)
      · have hA5 := M5.ex
        refine ⟨_, s9, A, CA, dx, _, .ref U, rfl, hA5, cA.cl, cA.no _ (by decide +kernel), rfl, U, _, rfl, .inr (SqT.of M5.tt), _, s8, U0, _, rfl, .inr (SqT.of (M5.same _ _ hU0)), _, _, rfl, rfl, _, s9, M5.put cA nA4 (by decide +kernel) fun H' M kp => ⟨rfl, ⟨.non, .non, .non, .non, .non, .bl false, .non, .non, .non, .bl (decide ((((dedup (flOf gs io)).map V.str).length : Int) < (((flD pf gs io act).map V.str).length : Int)))⟩, rfl, M, g0 _ _⟩⟩
      · exact ⟨_, s9, M5.put cA nA4 (by decide +kernel) fun H' M kp => ⟨rfl, ⟨.non, .non, .non, .non, .non, .bl false, .non, .non, .non, _⟩, rfl, M, g0 _ _⟩⟩
    rintro _ H6 ⟨rfl, v6, m6, M6, G6⟩
    -- nargs
    refine ⟨fun σ' H' => σ5 = σ' ∧ ∃ v : AV, v.me = .non ∧ Msd H4 H' CA A dx U (flD pf gs io act) (v.fs U r act io) ∧ AG H H' io act ld (gD ld "help") v 1, ?_, ?_⟩
    · have nx : ∀ (x : V) (H' H2 : Hp), Dt emp x (nnD act ld) → Same H6 H' → Msd H4 H2 CA A dx U (flD pf gs io act) (AV.fs U r act io { v6 with nn := x }) → (∀ b o, H' b = some o → b ≠ A → H2 b = some o) → ∃ v : AV, v.me = .non ∧ Msd H4 H2 CA A dx U (flD pf gs io act) (v.fs U r act io) ∧ AG H H2 io act ld (gD ld "help") v 1 := fun x H' H2 hx e M kp =>
        ⟨{ v6 with nn := x }, m6, M, ⟨fun _ => hx, fun q => absurd q (by decide), fun q => absurd q (by decide), fun q => absurd q (by decide), fun q => absurd q (by decide), fun q => absurd q (by decide), fun q => absurd q (by decide), fun q => absurd q (by decide)⟩⟩
      refine ⟨_, s7, aW, wW, rfl, .inr (Z.W.q _), rfl, by decide +kernel, _, rfl, ?_⟩
      rw [if_neg Bool.false_ne_true, i1]
      refine ite2 (fun h => ?_) (fun h => ?_)
      · have hw := of_decide_eq_true h
        obtain ⟨nv, hnv, hn1, _⟩ := hK.na hw
        have hO6 := hOX M6.same
        obtain ⟨ov, g1, g2⟩ := hO6.getN "nargs"
        have hd : Dt emp (ov.getD .non) (nnD act ld) := by
          unfold nnD
          rw [if_pos hw]
          refine dt_emp g2 ?_
          rw [hn1]
          cases nv <;> first | exact .inl rfl | exact .inr (.inl ⟨_, rfl⟩) | exact .inr (.inr (.inl ⟨_, rfl⟩)) | exact .inr (.inr (.inr ⟨_, rfl⟩))
        exact ⟨_, s4, o, rfl, hO6.iD, ov, g1, _, s9, M6.put cA nA4 (by decide +kernel) fun H' M kp => ⟨rfl, nx _ H6 H' hd (Same.refl _) M kp⟩⟩
      · have hw : act ∉ WWs := fun q => h (decide_eq_true q)
        have hd : Dt emp (.int 0) (nnD act ld) := by
          unfold nnD
          rw [if_neg hw]
          exact .int 0
        exact ⟨_, s9, M6.put cA nA4 (by decide +kernel) fun H' M kp => ⟨rfl, nx _ H6 H' hd (Same.refl _) M kp⟩⟩
    rintro _ H7 ⟨rfl, v7, m7, M7, G7⟩
    -- const
    refine ⟨fun σ' H' => σ5 = σ' ∧ ∃ v : AV, v.me = .non ∧ Msd H4 H' CA A dx U (flD pf gs io act) (v.fs U r act io) ∧ AG H H' io act ld (gD ld "help") v 2, ?_, ?_⟩
    · have nx : ∀ (x : V) (H' H2 : Hp), DtR H H' x (coD act ld) → Same H7 H' → Msd H4 H' CA A dx U (flD pf gs io act) (v7.fs U r act io) → Msd H4 H2 CA A dx U (flD pf gs io act) (AV.fs U r act io { v7 with co := x }) → (∀ b o, H' b = some o → b ≠ A → H2 b = some o) → ∃ v : AV, v.me = .non ∧ Msd H4 H2 CA A dx U (flD pf gs io act) (v.fs U r act io) ∧ AG H H2 io act ld (gD ld "help") v 2 := fun x H' H2 hx e M1 M kp =>
        ⟨{ v7 with co := x }, m7, M, ⟨fun _ => G7.nn (by decide), fun _ => hx.kp M1.ex kp, fun q => absurd q (by decide), fun q => absurd q (by decide), fun q => absurd q (by decide), fun q => absurd q (by decide), fun q => absurd q (by decide), fun q => absurd q (by decide)⟩⟩
      refine ⟨_, s7, (by show 2 ≤ sizeLine; decide), fun q hq => ?_⟩
      have eq := same_upd (o := .tup [.str "store_true", .str "store_false"]) hq
      have hq1 : (upd H7 q (.tup [.str "store_true", .str "store_false"])) q = some (.tup ((["store_true", "store_false"] : List Str).map V.str)) := upd_same
      generalize upd H7 q (.tup [.str "store_true", .str "store_false"]) = G at eq hq1
      have M := M7.keep eq
      refine ⟨q, _, rfl, .inr (SqT.of hq1), rfl, flat_strs _, _, rfl, ?_⟩
      rw [if_neg Bool.false_ne_true, inV_strs]
      refine ite2 (fun h => ?_) (fun h => ?_)
      · have h' : act = "store_true" ∨ act = "store_false" := by
          have := of_decide_eq_true h
          simpa using this
        have hd : DtR H G (.bl (decide (V.str act = V.str "store_true"))) (coD act ld) := by
          refine ⟨emp, ?_, (fun b o q => (nomatch q)), (fun b o q => (nomatch q)), (fun b C dx fs q => (nomatch q))⟩
          unfold coD
          rw [if_pos h', show decide (V.str act = V.str "store_true") = decide (act = "store_true") from decide_eq_decide.mpr ⟨fun x => V.str.inj x, fun x => congrArg V.str x⟩]
          exact .bl _
        exact ⟨_, s7, rfl, _, s9, M.put cA nA4 (by decide +kernel) fun H' M' kp => ⟨rfl, nx _ G H' hd eq M M' kp⟩⟩
      · have h' : ¬ (act = "store_true" ∨ act = "store_false") := fun q => h (decide_eq_true (by simpa using q))
        have hO7 := hOX M.same
        obtain ⟨ov, g1, g2⟩ := hO7.getN "const"
        obtain ⟨c1, c2, _⟩ := hK.get "const"
        refine ⟨_, s4, o, rfl, hO7.iD, ov, g1, _, _, rfl, g2, by omega, c2, fun v' N H' e Fr t => ?_⟩
        have M2 := M.keep e
        have hd : DtR H H' v' (coD act ld) := by
          unfold coD
          rw [if_neg h']
          exact DtR.of (e4.trans M.same) Fr t
        exact ⟨_, s9, M2.put cA nA4 (by decide +kernel) fun H2 M' kp => ⟨rfl, nx _ H' H2 hd (eq.trans e) M2 M' kp⟩⟩
    rintro _ H8 ⟨rfl, v8, m8, M8, G8⟩
    -- default
    refine ⟨fun σ' H' => σ5 = σ' ∧ ∃ v : AV, v.me = .non ∧ Msd H4 H' CA A dx U (flD pf gs io act) (v.fs U r act io) ∧ AG H H' io act ld (gD ld "help") v 3, ?_, ?_⟩
    · refine ⟨_, s7, _, s6, _, s4, _, s2, p, CP, dxp, pfs, _, rfl, M8.same _ _ (e4 _ _ p1), cP.cl, nP2, pd, _, s2, p, CP, dxp, pfs, _, rfl, M8.same _ _ (e4 _ _ p1), cP.cl, nP3, pa, act, r, o, dd, io, kvs, ld, rfl, hOX M8.same, hK, M8.same _ _ (e4 _ _ pD), fun v' N H' e Fr t => ?_⟩
      have M2 := M8.keep e
      have G2 := G8.keep e
      exact ⟨_, s9, M2.put cA nA4 (by decide +kernel) fun H2 M' kp => ⟨rfl, { v8 with de := v' }, m8, M', ⟨fun _ => G8.nn (by decide), fun _ => (G2.co (by decide)).kp M2.ex kp, fun _ => (DtR.of (e4.trans M8.same) Fr t).kp M2.ex kp, fun q => absurd q (by decide), fun q => absurd q (by decide), fun q => absurd q (by decide), fun q => absurd q (by decide), fun q => absurd q (by decide)⟩⟩⟩
    rintro _ H9 ⟨rfl, v9, m9, M9, G9⟩
    -- kind, choices
    refine ⟨fun σ' H' => σ5 = σ' ∧ ∃ v : AV, v.me = .non ∧ Msd H4 H' CA A dx U (flD pf gs io act) (v.fs U r act io) ∧ AG H H' io act ld (gD ld "help") v 4, ?_, ?_⟩
    · have hO9 := hOX M9.same
      obtain ⟨ov1, g1, g2⟩ := hO9.getN "kind"
      obtain ⟨c1, c2, _⟩ := hK.get "kind"
      refine ⟨_, s4, o, rfl, hO9.iD, ov1, g1, _, _, rfl, g2, by omega, c2, fun v1 N1 G1 f1 F1 t1 => ?_⟩
      have Ma := M9.keep f1
      have hOa := hOX Ma.same
      obtain ⟨ov2, g3, g4⟩ := hOa.getN "choices"
      obtain ⟨c3, c4, _⟩ := hK.get "choices"
      refine ⟨_, s4, o, rfl, hOa.iD, ov2, g3, _, _, rfl, g4, by omega, c4, fun v2 N2 G2 f2 F2 t2 => ⟨(by show 2 ≤ sizeLine; decide), fun W hW => ?_⟩⟩
      have ew := same_upd (o := .tup [v1, v2]) hW
      have Mb := (Ma.keep f2).keep ew
      have hk := ((DtR.of (e4.trans M9.same) F1 t1).keep f2).keep ew
      have hc := (DtR.of (e4.trans Ma.same) F2 t2).keep ew
      have Gb := ((G9.keep f1).keep f2).keep ew
      exact ⟨W, _, rfl, SqT.of upd_same, rfl, _, _, rfl, Mb.putG cA nA4 (by decide +kernel) s9 fun H' M' kp => ⟨_, _, rfl, M'.putG cA nA4 (by decide +kernel) s9 fun H2 M'' kp2 => ⟨rfl, rfl, { v9 with ki := v1, ch := v2 }, m9, M'', ⟨fun _ => G9.nn (by decide), fun _ => ((Gb.co (by decide)).kp Mb.ex kp).kp M'.ex kp2, fun _ => ((Gb.de (by decide)).kp Mb.ex kp).kp M'.ex kp2, fun _ => (hk.kp Mb.ex kp).kp M'.ex kp2, fun _ => (hc.kp Mb.ex kp).kp M'.ex kp2, fun q => absurd q (by decide), fun q => absurd q (by decide), fun q => absurd q (by decide)⟩⟩⟩⟩
    rintro _ H10 ⟨rfl, v10, m10, M10, G10⟩
    -- required
    refine ⟨fun σ' H' => σ5 = σ' ∧ ∃ v : AV, v.me = .non ∧ Msd H4 H' CA A dx U (flD pf gs io act) (v.fs U r act io) ∧ AG H H' io act ld (gD ld "help") v 5, ?_, ?_⟩
    · have nx : ∀ (x : V) (H' H2 : Hp), Dt emp x (reD io act ld) → Same H10 H' → Msd H4 H2 CA A dx U (flD pf gs io act) (AV.fs U r act io { v10 with re := x }) → (∀ b o, H' b = some o → b ≠ A → H2 b = some o) → ∃ v : AV, v.me = .non ∧ Msd H4 H2 CA A dx U (flD pf gs io act) (v.fs U r act io) ∧ AG H H2 io act ld (gD ld "help") v 5 := fun x H' H2 hx e M kp =>
        have Gk := (G10.keep e).kp (M10.keep e).ex kp
        ⟨{ v10 with re := x }, m10, M, ⟨fun _ => G10.nn (by decide), fun _ => Gk.co (by decide), fun _ => Gk.de (by decide), fun _ => Gk.ki (by decide), fun _ => Gk.ch (by decide), fun _ => hx, fun q => absurd q (by decide), fun q => absurd q (by decide)⟩⟩
      refine ⟨_, s5, (by show 0 ≤ sizeLine; decide), fun q hq => ?_⟩
      have eq := same_upd (o := .tup []) hq
      have M := M10.keep eq
      refine ⟨_, .tuple [], .tup (SqT.of (M.same _ _ hT4)) (dpAll_strs _), .tup (SqT.of upd_same) .nil, strs_shaped hso, by decide, _, rfl, ?_⟩
      rw [hb, Bool.not_not]
      refine ite2 (fun h => ?_) (fun h => ?_)
      · have hOa := hOX M.same
        obtain ⟨ov, g1, g2⟩ := hOa.get "required"
        have hd : Dt emp (ov.getD (.bl false)) (reD io act ld) := by
          unfold reD
          rw [h, if_pos rfl]
          rcases g2 with ⟨q1, rfl⟩ | ⟨d, v, q1, rfl, q3⟩
          · rw [q1]
            exact .bl false
          · obtain ⟨_, b, rfl⟩ := hK.rq d q1
            rw [q1]
            cases q3
            exact .bl b
        exact ⟨_, s4, o, rfl, hOa.iD, ov, g1, _, s9, M.put cA nA4 (by decide +kernel) fun H' M' kp => ⟨rfl, nx _ _ H' hd eq M' kp⟩⟩
      · have hio : io = false := by
          cases io with
          | true => exact absurd rfl h
          | false => rfl
        have hw := hK.ap hio
        have hA2 := M.ex
        have hnn := G10.nn (by decide)
        obtain ⟨nv, hnv, hn1, _⟩ := hK.na hw
        have hnv2 : v10.nn = nv := by
          unfold nnD at hnn
          rw [if_pos hw, hn1] at hnn
          exact dt_n hnv hnn
        have hd : Dt emp (.bl (!(inV nv [.str "?", .str "*", .str "..."]))) (reD io act ld) := by
          have : reD io act ld = .bool (!(inV nv [.str "?", .str "*", .str "..."])) := by
            unfold reD nnD
            rw [hio, if_neg Bool.false_ne_true, if_pos hw, hn1]
            exact congrArg PyData.bool ((by decide +kernel : ∀ v ∈ nMenu, needD (scD v) = !(inV v [.str "?", .str "*", .str "..."])) nv hnv)
          rw [this]
          exact .bl _
        refine ⟨_, s9, A, CA, dx, _, v10.nn, rfl, hA2, cA.cl, cA.no _ (by decide +kernel), rfl, (by show 3 ≤ sizeLine; decide), fun q2 hq2 => ⟨q2, _, rfl, .inr (SqT.of upd_same), dt_flat hnn, by decide +kernel, ?_⟩⟩
        rw [if_pos rfl, hnv2]
        have eq2 := same_upd (o := .tup [.str "?", .str "*", .str "..."]) hq2
        exact ⟨_, s9, (M.keep eq2).put cA nA4 (by decide +kernel) fun H' M' kp => ⟨rfl, nx _ _ H' hd (eq.trans eq2) M' kp⟩⟩
    rintro _ H11 ⟨rfl, v11, m11, M11, G11⟩
    -- help, version
    refine ⟨fun σ' H' => σ5 = σ' ∧ ∃ v : AV, v.me = .non ∧ Msd H4 H' CA A dx U (flD pf gs io act) (v.fs U r act io) ∧ AG H H' io act ld (gD ld "help") v 6, ?_, ?_⟩
    · have hOa := hOX M11.same
      obtain ⟨ov1, g1, g2⟩ := hOa.getN "help"
      obtain ⟨ov2, g3, g4⟩ := hOa.getN "version"
      have hh : Dt emp (ov1.getD .non) (gD ld "help") := dt_emp g2 (hK.he.imp id fun ⟨z, q⟩ => .inr (.inr ⟨z, q⟩))
      have hv : Dt emp (ov2.getD .non) (gD ld "version") := by
        refine dt_emp g4 ?_
        by_cases hc : act = "version"
        · obtain ⟨z, q⟩ := hK.ve hc
          refine .inr (.inr (.inr ⟨z, ?_⟩))
          unfold gD
          rw [q]
          rfl
        · refine .inl ?_
          unfold gD
          rw [hK.no ?_]
          · rfl
          · intro q
            unfold keysS at q
            repeat' split at q
            all_goals first
              | exact hc (by assumption)
              | (revert q; decide)
      refine ⟨_, s4, o, rfl, hOa.iD, ov1, g1, _, s4, o, rfl, hOa.iD, ov2, g3, (by show 2 ≤ sizeLine; decide), fun W hW => ?_⟩
      have ew := same_upd (o := .tup [ov1.getD .non, ov2.getD .non]) hW
      have Mb := M11.keep ew
      have Gb := G11.keep ew
      exact ⟨W, _, rfl, SqT.of upd_same, rfl, _, _, rfl, Mb.putG cA nA4 (by decide +kernel) s9 fun H' M' kp => ⟨_, _, rfl, M'.putG cA nA4 (by decide +kernel) s9 fun H2 M'' kp2 => ⟨rfl, rfl, { v11 with he := ov1.getD .non, ve := ov2.getD .non }, m11, M'', ⟨fun _ => G11.nn (by decide), fun _ => ((Gb.co (by decide)).kp Mb.ex kp).kp M'.ex kp2, fun _ => ((Gb.de (by decide)).kp Mb.ex kp).kp M'.ex kp2, fun _ => ((Gb.ki (by decide)).kp Mb.ex kp).kp M'.ex kp2, fun _ => ((Gb.ch (by decide)).kp Mb.ex kp).kp M'.ex kp2, fun _ => G11.re (by decide), fun _ => hh, fun _ => hv⟩⟩⟩⟩
    rintro _ H12 ⟨rfl, v12, m12, M12, G12⟩
    -- the help of a version
    refine ⟨fun σ' H' => σ5 = σ' ∧ ∃ v : AV, v.me = .non ∧ Msd H4 H' CA A dx U (flD pf gs io act) (v.fs U r act io) ∧ AG H H' io act ld (heD act ld) v 6, ?_, ?_⟩
    · have hh := G12.he (by decide)
      have stay : heD act ld = gD ld "help" → ∃ v : AV, v.me = .non ∧ Msd H4 H12 CA A dx U (flD pf gs io act) (v.fs U r act io) ∧ AG H H12 io act ld (heD act ld) v 6 := fun q => ⟨v12, m12, M12, by rw [q]; exact G12⟩
      refine ⟨_, s7, rfl, _, rfl, ?_⟩
      refine ite2 (fun hc => ?_) (fun hc => iteF ⟨rfl, stay ?_⟩)
      · have hv := V.str.inj (of_decide_eq_true hc)
        have hA2 := M12.ex
        refine ⟨_, s9, A, CA, dx, _, v12.he, rfl, hA2, cA.cl, cA.no _ (by decide +kernel), rfl, _, rfl, ?_⟩
        rcases hK.he with q | ⟨z, q⟩
        · rw [q] at hh
          have hn : v12.he = .non := by
            generalize v12.he = x at hh
            cases hh
            rfl
          rw [hn]
          refine iteT ⟨_, s9, M12.put cA nA4 (by decide +kernel) fun H' M' kp => ⟨rfl, { v12 with he := .str VH }, m12, M', ?_⟩⟩
          have Gk := G12.kp hA2 kp
          refine ⟨Gk.nn, Gk.co, Gk.de, Gk.ki, Gk.ch, Gk.re, fun _ => ?_, Gk.ve⟩
          unfold heD
          rw [q]
          show Dt emp (.str VH) (if act = "version" then .str VH else .none)
          rw [if_pos hv]
          exact .str _
        · rw [q] at hh
          have hn : v12.he = .str z := by
            generalize v12.he = x at hh
            cases hh
            rfl
          rw [hn]
          refine iteF ⟨rfl, stay ?_⟩
          unfold heD
          rw [q]
      · unfold heD
        rcases hK.he with q | ⟨z, q⟩
        · rw [q]
          show (if act = "version" then PyData.str VH else .none) = .none
          rw [if_neg fun x => hc (decide_eq_true (congrArg V.str x))]
        · rw [q]
    rintro _ H13 ⟨rfl, v13, m13, M13, G13⟩
    subst hσ
    -- metavar
    have hO13 := hOX M13.same
    obtain ⟨ov, g1, g2⟩ := hO13.getN "metavar"
    refine ⟨fun σ' H' => σ' = [some (.ref a), some gv, some (.ref p), some (.bl false), some (.ref o), some (.ref T), some (.str r), some (.str act), some (.ref U0), some (.ref A), some (ov.getD .non), none, none] ∧ H13 = H', ⟨_, rfl, o, rfl, hO13.iD, ov, g1, rfl, rfl⟩, ?_⟩
    rintro _ _ ⟨rfl, rfl⟩
    generalize ov.getD .non = mv at g2
    refine ⟨fun σ' H' => σ' = [some (.ref a), some gv, some (.ref p), some (.bl false), some (.ref o), some (.ref T), some (.str r), some (.str act), some (.ref U0), some (.ref A), some mv, none, none] ∧ ∃ v : AV, Msd H4 H' CA A dx U (flD pf gs io act) (v.fs U r act io) ∧ AG H H' io act ld (heD act ld) v 6 ∧ MeAt H' v.me (meD ld), ?_, ?_⟩
    · have nx : ∀ (x : V) (H' H2 : Hp), MeAt H' x (meD ld) → Same H13 H' → Msd H4 H2 CA A dx U (flD pf gs io act) (AV.fs U r act io { v13 with me := x }) → (∀ b o, H' b = some o → b ≠ A → H2 b = some o) → ∃ v : AV, Msd H4 H2 CA A dx U (flD pf gs io act) (v.fs U r act io) ∧ AG H H2 io act ld (heD act ld) v 6 ∧ MeAt H2 v.me (meD ld) := fun x H' H2 hx e M kp =>
        have Gk := (G13.keep e).kp (M13.keep e).ex kp
        ⟨{ v13 with me := x }, M, ⟨Gk.nn, Gk.co, Gk.de, Gk.ki, Gk.ch, Gk.re, Gk.he, Gk.ve⟩, hx.imp id fun ⟨b, l, q1, q2, q3⟩ => ⟨b, l, q1, q2, kp _ _ q3 (ne_of q3 (M13.keep e).ex (by intro z; cases z))⟩⟩
      have hmd : gD ld "metavar" = .none ∨ (∃ z, gD ld "metavar" = .str z) ∨ ∃ l : List Str, gD ld "metavar" = .list (l.map PyData.str) ∨ gD ld "metavar" = .tuple (l.map PyData.str) := by
        by_cases hw : act ∈ WWs
        · obtain ⟨nv, _, _, _, _, hf⟩ := hK.na hw
          rcases hf with q | ⟨z, q, _⟩ | ⟨l, q, _⟩
          · exact .inl q
          · exact .inr (.inl ⟨z, q⟩)
          · exact .inr (.inr ⟨l, q⟩)
        · refine .inl ?_
          unfold gD
          rw [hK.no ?_]
          · rfl
          · intro q
            unfold keysS at q
            rw [if_neg hw] at q
            repeat' split at q
            all_goals (revert q; decide)
      rcases hmd with q | ⟨z, q⟩ | ⟨l, q⟩
      · rw [q] at g2
        cases g2
        have hd : MeAt H13 .non (meD ld) := by
          refine .inl ?_
          unfold meD
          rw [q]
          exact .non
        exact ⟨_, rfl, _, "NoneType", false, rfl, .base .non, by decide +kernel, fun H' e => ⟨_, rfl, iteF ⟨_, rfl, _, rfl, (M13.keep e).put cA nA4 (by decide +kernel) fun H2 M' kp => ⟨rfl, nx _ H' H2 (hd.imp id fun ⟨b, l, x1, x2, x3⟩ => ⟨b, l, x1, x2, e _ _ x3⟩) e M' kp⟩⟩⟩⟩
      · rw [q] at g2
        cases g2
        have hd : MeAt H13 (.str z) (meD ld) := by
          refine .inl ?_
          unfold meD
          rw [q]
          exact .str z
        exact ⟨_, rfl, _, "str", false, rfl, .base (.str z), by decide +kernel, fun H' e => ⟨_, rfl, iteF ⟨_, rfl, _, rfl, (M13.keep e).put cA nA4 (by decide +kernel) fun H2 M' kp => ⟨rfl, nx _ H' H2 (hd.imp id fun ⟨b, l, x1, x2, x3⟩ => ⟨b, l, x1, x2, e _ _ x3⟩) e M' kp⟩⟩⟩⟩
      · have hm : meD ld = .tuple (l.map PyData.str) := by
          unfold meD
          rcases q with q | q <;> rw [q]
        rcases q with q | q
        · rw [q] at g2
          cases g2 with
          | @lst b xs _ h1 h2 =>
            obtain rfl := dts_lst h2
            refine ⟨_, rfl, _, "list", true, rfl, .base (.lst h1), by decide +kernel, fun H' e => ⟨_, rfl, iteT ⟨_, rfl, b, _, rfl, .inl ⟨SqL.of (e _ _ h1), fun c hc => ?_⟩⟩⟩⟩
            have ec := same_upd (o := .tup (l.map V.str)) hc
            exact ⟨_, rfl, ((M13.keep e).keep ec).put cA nA4 (by decide +kernel) fun H2 M' kp => ⟨rfl, nx _ _ H2 (.inr ⟨c, l, rfl, hm, upd_same⟩) (e.trans ec) M' kp⟩⟩
        · rw [q] at g2
          cases g2 with
          | @tup b xs _ h1 h2 =>
            obtain rfl := dts_lst h2
            exact ⟨_, rfl, _, "tuple", true, rfl, .base (.tup h1), by decide +kernel, fun H' e => ⟨_, rfl, iteT ⟨_, rfl, b, _, rfl, .inr ⟨SqT.of (e _ _ h1), _, rfl, (M13.keep e).put cA nA4 (by decide +kernel) fun H2 M' kp => ⟨rfl, nx _ H' H2 (.inr ⟨b, l, rfl, hm, e _ _ h1⟩) e M' kp⟩⟩⟩⟩⟩
    rintro _ H14 ⟨rfl, v14, M14, G14, hme⟩
    refine ⟨_, rfl, _, rfl, iteF (iteF ?_)⟩
    refine ⟨_, rfl, k A _ ⟨e4.trans M14.same, nA, dx, U, v14, nU, ⟨e4.trans M14.same, M14.tt, ?_⟩, G14, hme⟩⟩
    rw [hr0]
    exact M14.ex
end
end K46

namespace K46
open PySem L2 PyProof.Rows
/-! ### a section, signs -/
def secF : List Str := ["home", "title", "description", "members"]
def sFs (v1 v2 v3 : V) (m : Addr) : List (Str × V) := [("home", v1), ("title", v2), ("description", v3), ("members", .ref m)]
def spSecI (C : Addr) : Sp := fun vs H Q _ => ∃ (x dx : Addr) (v1 v2 v3 : V), vs = [.ref x, v1, v2, v3] ∧ H x = some (.ins C dx []) ∧
  ∀ (m : Addr) (H' : Hp), (∀ b o, H b = some o → b ≠ x → H' b = some o) → H m = none → H' m = some (.lst []) → H' x = some (.ins C dx (sFs v1 v2 v3 m)) → Q .non H'
def sgns : List Nat := [43, 45, 47, 58, 64]
def sgK (x : Str) : List (Key × V) := x.cps.toList.map fun c => (Sum.inr (⟨#[c]⟩ : Str), V.bl true)
/-- signs that are right -/
structure SgOk (x : Str) : Prop where
  c : ∀ c ∈ x.cps.toList, c ∈ sgns
  l : x.cps.toList.length ≤ 5
  n : x.length ≤ 5
  d : decide (((mergeK [] (sgK x)).length : Int) < (x.length : Int)) = false
theorem sg_none : SgOk "" := ⟨by decide, by decide, by decide, by decide⟩
def spSigns : Sp := fun vs H Q _ => ∃ x : Str, vs = [.str x] ∧ SgOk x ∧ ∀ H', Same H H' → Q (.bl true) H'
section
variable {P : Program} {w : World} {K : PySem.W.Frag} {mg : Str → Option Value} {base : Heap}
theorem scSecI : FnScope ["self", "home", "title", "description"] ["self", "home", "title", "description"] (defScope sSecI) := ⟨rfl, rfl, rfl, by decide +kernel, rfl, by decide +kernel, by decide +kernel⟩
theorem ok_secI {f C : Addr} {fd : FuncData} (F : Fun K "__init__" "Section.__init__" sSecI f fd) (c : ClsN K C secF) : FnOk P w K mg base CX0 1 f fd ["self", "home", "title", "description"] (spSecI C) := by
  refine F.ok scSecI (fun vs H Q E h => ?_) (fun cdv A outer s H vs Q E hr h => ?_)
  · obtain ⟨x, dx, v1, v2, v3, rfl, _⟩ := h
    rfl
  · obtain ⟨x, dx, v1, v2, v3, rfl, hx, k⟩ := h
    have m : ∀ f ∈ secF, NoAttr K C f := c.no
    refine ⟨_, pss_cons (ps_fld (pv 0) (pv 1) rfl) (pss_cons (ps_fld (pv 0) (pv 2) rfl) (pss_cons (ps_fld (pv 0) (pv 3) rfl) (pss_one (ps_fld (pv 0) (pe_lst pa_nil) rfl)))), ?_⟩
    refine ⟨_, rfl, _, rfl, x, C, dx, _, rfl, hx, c.cl, m _ (by decide +kernel), (by show 0 < 1000; decide), ?_⟩
    refine ⟨_, rfl, _, rfl, x, C, dx, _, rfl, upd_same, c.cl, m _ (by decide +kernel), (by show 1 < 1000; decide), ?_⟩
    refine ⟨_, rfl, _, rfl, x, C, dx, _, rfl, upd_same, c.cl, m _ (by decide +kernel), (by show 2 < 1000; decide), ?_⟩
    refine ⟨(by show 0 ≤ sizeLine; decide), fun q hq => ⟨_, rfl, x, C, dx, _, rfl, same_upd hq _ _ upd_same, c.cl, m _ (by decide +kernel), (by show 3 < 1000; decide), ?_⟩⟩
    have nx : x ≠ q := ne_of_none upd_same hq
    refine k q _ (fun b o e nb => ?_) ?_ ?_ ?_
    · rw [upd_ne nb]
      refine same_upd hq _ _ ?_
      rw [upd_ne nb, upd_ne nb, upd_ne nb]
      exact e
    · rw [upd_ne nx.symm, upd_ne nx.symm, upd_ne nx.symm] at hq
      exact hq
    · rw [upd_ne nx.symm, upd_same]
    · rw [upd_same]
      rfl
theorem paired_snoc {α β : Type} {R : α → β → Prop} : ∀ {xs : List α} {ys : List β} {x : α} {y : β}, PySem.Paired R xs ys → R x y → PySem.Paired R (xs ++ [x]) (ys ++ [y])
  | _, _, _, _, .nil, h => .cons h .nil
  | _, _, _, _, .cons r t, h => .cons r (paired_snoc t h)
theorem paired_map {α β : Type} {R S : α → β → Prop} (f : ∀ a b, R a b → S a b) : ∀ {xs : List α} {ys : List β}, PySem.Paired R xs ys → PySem.Paired S xs ys
  | _, _, .nil => .nil
  | _, _, .cons r t => .cons (f _ _ r) (paired_map f t)
theorem any_ff {α : Type} (xs : List α) : (xs.map fun _ => false).any id = false := by
  induction xs with
  | nil => rfl
  | cons x xs ih => exact ih
theorem scSigns : FnScope ["thing", "sign"] ["thing"] (defScope sIsSigns) := ⟨rfl, rfl, rfl, by decide +kernel, rfl, by decide +kernel, by decide +kernel⟩
theorem ok_signs {f : Addr} {fd : FuncData} {no : Str} {tn : Tok} (F : Fun K "is_signs" "is_signs" sIsSigns f fd) (T : TxtB mg) (zStr : mg "str" = none) (zAny : mg "any" = none) (hN : mg "NO_SIGNS" = some (.str no tn)) (hno : ∀ c ∈ sgns, (Builtin.Str.occurrences no (⟨#[c]⟩ : Str) 0 no.length 1).isEmpty = true) : FnOk P w K mg base CX0 1 f fd ["thing"] spSigns := by
  refine F.ok scSigns (fun vs H Q E h => ?_) (fun cdv A outer s H vs Q E hr h => ?_)
  · obtain ⟨x, rfl, _⟩ := h
    rfl
  · obtain ⟨x, rfl, hx, k⟩ := h
    refine ⟨_, pss_cons (ps_if (PW.pt (pw_or (pt_not (pt_val (pe_callB call_isi (by rfl) T.isinstance (by decide +kernel) (pa_cons (pv 0) (pa_cons (pe_bltn (v := .ty "str") (by rfl) zStr (by decide +kernel) rfl) pa_nil))))) (pw_or1 (pt_cmpR op_lt (pe_callB call_lenD (by rfl) T.len PySem.boot_len (pa_cons (pe_callTy (call_dictP rfl) (by rfl) T.dict (by decide +kernel) (pa_cons (pe_lc (own := [("sign", 1)]) (g := gName 1) (tt := tYes) (te := tTup (tCons (tVar 1) (tCons (tC (.bl true)) tNil))) rfl scSigns.nd (pi_str (pv 0)) (blkOk_by (N := ["thing", "sign"]) (sc := defScope sIsSigns) (by decide +kernel)) (fun _ _ _ _ _ => pg_name (i := 1) scSigns.nd rfl (Or.inl rfl)) (fun _ _ _ _ _ => pts_nil)
        (fun _ _ _ _ _ => by exact pe_tup (pa_cons (pv 1) (pa_cons pe_bl pa_nil)))) pa_nil)) pa_nil)) (pe_callB call_len_str (by rfl) T.len PySem.boot_len (pa_cons (pv 0) pa_nil)) (nomark _))))) (pss_one (ps_ret pe_bl)) pss_nil)
      (pss_one (ps_ret (pe_not (pe_callB (cr_any rfl) (by rfl) zAny (by decide +kernel) (pa_cons (pe_lc (own := [("sign", 1)]) (g := gName 1) (tt := tYes) (te := tOp (fun x y H Q => ∃ i j, x = .str i ∧ y = .str j ∧ Q (.bl (!(Builtin.Str.occurrences j i 0 j.length 1).isEmpty)) H) (tVar 1) (tC (.str no))) rfl scSigns.nd (pi_str (pv 0)) (blkOk_by (N := ["thing", "sign"]) (sc := defScope sIsSigns) (by decide +kernel)) (fun _ _ _ _ _ => pg_name (i := 1) scSigns.nd rfl (Or.inl rfl)) (fun _ _ _ _ _ => pts_nil)
        (fun _ _ _ _ _ => by exact pe_cmpR op_in_str (pv 1) (pe_glob (v := .str no) rfl hN ⟨tn, rfl⟩) (by rfl))) pa_nil))))), ?_⟩
    have hc := hx.c
    have hl : x.cps.toList.length ≤ 5 ∧ x.length ≤ 5 ∧ decide (((mergeK [] (sgK x)).length : Int) < (x.length : Int)) = false := ⟨hx.l, hx.n, hx.d⟩
    refine ⟨_, rfl, _, .ty "str", _, _, true, rfl, .ty _, .base (.str x), kit_ty (by decide +kernel), _, rfl, iteF ?_⟩
    refine ⟨_, rfl, x, rfl, fun D hD => ?_⟩
    refine lc_it walk_str (fun i H' => Same H H' ∧ ∃ ts : List Addr, ts.length = i ∧ H' D = some (.lst (ts.map V.ref)) ∧ PySem.Paired (fun (t : Addr) (kv : Key × V) => H' t = some (.tup [kV kv.1, kv.2])) ts ((sgK x).take i)) ⟨same_upd hD, [], rfl, upd_same, .nil⟩ (fun _ _ _ _ => trivial) (fun i v H' H'' hi h y => ?_) (fun H1 h => ?_)
    · obtain ⟨rfl, c, hcc, rfl⟩ := y
      obtain ⟨s1, ts, lt, hD1, pp⟩ := h
      have hk : (sgK x)[i]? = some (Sum.inr (⟨#[c]⟩ : Str), V.bl true) := by
        unfold sgK
        rw [List.getElem?_map, Array.getElem?_toList, hcc]
        rfl
      refine ⟨rfl, _, rfl, (by show 2 ≤ sizeLine; decide), fun U hU => ?_⟩
      have eU := same_upd (o := .tup [.str ⟨#[c]⟩, .bl true]) hU
      have nDU : D ≠ U := ne_of_none hD1 hU
      have hil : i < x.cps.toList.length := by simpa using hi
      refine ⟨_, eU _ _ hD1, sz_lt1 (by rw [List.length_map]; exact lt) (show i < 1001 by omega), same_mut (s1.trans eU) hD, ts ++ [U], by rw [List.length_append, lt]; rfl, by rw [upd_same, List.map_append]; rfl, ?_⟩
      rw [take_more' hk]
      refine paired_snoc (paired_map (fun t kv q => ?_) pp) (by rw [upd_ne nDU.symm]; exact upd_same)
      rw [upd_ne (ne_of q hD1 (by intro z; cases z))]
      exact eU _ _ q
    · obtain ⟨s1, ts, lt, hD1, pp⟩ := h
      have ek : (sgK x).take x.cps.size = sgK x := List.take_of_length_le (by unfold sgK; rw [List.length_map]; simp)
      rw [ek] at pp
      refine ⟨D, ts, sgK x, rfl, SqL.of hD1, paired_map (fun t kv q => SqT.of q) pp, fun q hq => ⟨q, _, rfl, upd_same, _, rfl, x, rfl, (by rw [PySem.sizeLine_eq]; omega), _, _, rfl, rfl, _, rfl, ?_⟩⟩
      rw [hl.2.2]
      refine iteF ?_
      have e1 := same_upd2 (o := .dK (mergeK [] (sgK x))) s1 hq
      generalize upd H1 q (.dK (mergeK [] (sgK x))) = G at e1
      refine ⟨_, rfl, x, rfl, fun D2 hD2 => ?_⟩
      refine lc_it walk_str (BlI (fun _ => false) G D2 x.cps.toList) (blI0 hD2) (fun _ _ _ _ => trivial) (fun i v H' H'' hi h y => ?_) (fun H2 h => ?_)
      · obtain ⟨rfl, c, hcc, rfl⟩ := y
        have hcs : c ∈ sgns := hc c (List.mem_of_getElem? (by rw [Array.getElem?_toList]; exact hcc))
        exact ⟨rfl, _, rfl, _, _, rfl, rfl, blI_step hD2 (by rw [Array.getElem?_toList]; exact hcc) h (Same.refl _) (by rw [hno c hcs]; rfl) (by omega)⟩
      · obtain ⟨e2, hD3⟩ := blI_end (by simp) h
        refine ⟨D2, _, rfl, SqL.of hD3, ?_⟩
        rw [any_ff]
        exact ⟨_, rfl, k _ (e1.trans e2)⟩
end
end K46

namespace K46
open PySem L2 PyProof.Rows
/-! ### a parser anew -/
/-- a parser's fields -/
def pFs (pr pf cf : Str) (us ds ep : V) (wd : Int) (ab ee : Bool) (aL fi la lf le dd ls : Addr) : List (Str × V) :=
  [("prog", .str pr), ("usage", us), ("description", ds), ("epilog", ep), ("layout", .ref aL), ("width", .int wd), ("prefix_chars", .str pf), ("file_signs", .str ""), ("files", .ref fi), ("argument_default", .non), ("conflict_handler", .str cf), ("allow_abbrev", .bl ab), ("exit_on_error", .bl ee), ("arguments", .ref la), ("flags", .ref lf), ("exclusives", .ref le), ("defaults", .ref dd), ("commands_argument", .non), ("sections", .ref ls)]
/-- x, an instance in the making: all else that stood is kept -/
structure Bld (CP : Addr) (H H' : Hp) (x dx : Addr) (fs : List (Str × V)) : Prop where
  kp : ∀ b o, H b = some o → b ≠ x → H' b = some o
  at_ : H' x = some (.ins CP dx fs)
theorem Bld.put {K : PySem.W.Frag} {Q : L2.St → Hp → Prop} {σ : L2.St} {CP : Addr} {H H' : Hp} {x dx : Addr} {fs : List (Str × V)} {f : Str} {v : V} {N : List Str} (m : Bld CP H H' x dx fs) (c : ClsN K CP N) (hf : f ∈ N) (hl : fs.length < 1000) (h0 : σ[0]? = some (some (.ref x))) (k : ∀ H2, Bld CP H H2 x dx (putF f v fs) → Q σ H2) :
    gFld K (tVar 0) f v σ H' Q := ⟨_, h0, x, CP, dx, fs, rfl, m.at_, c.cl, c.no _ hf, hl, k _ ⟨fun b o e nb => by rw [upd_ne nb]; exact m.kp b o e nb, upd_same⟩⟩
theorem Bld.keep {CP : Addr} {H H' H2 : Hp} {x dx : Addr} {fs : List (Str × V)} (m : Bld CP H H' x dx fs) (e : Same H' H2) : Bld CP H H2 x dx fs := ⟨fun b o h nb => e _ _ (m.kp b o h nb), e _ _ m.at_⟩
/-- new ones, all apart -/
structure Nw (H H' : Hp) (xs : List Addr) : Prop where
  new : ∀ b ∈ xs, H b = none ∧ ∃ o, H' b = some o
  nd : xs.Nodup
theorem Nw.keep {H H' H2 : Hp} {xs : List Addr} (h : Nw H H' xs) (e : ∀ b o, H' b = some o → ∃ o', H2 b = some o') : Nw H H2 xs := ⟨fun b hb => ⟨(h.new b hb).1, by obtain ⟨o, ho⟩ := (h.new b hb).2; exact e b o ho⟩, h.nd⟩
theorem Nw.same {H H' H2 : Hp} {xs : List Addr} (h : Nw H H' xs) (e : Same H' H2) : Nw H H2 xs := h.keep fun b o q => ⟨o, e _ _ q⟩
theorem Nw.add {H H' : Hp} {xs : List Addr} {p : Addr} {o : HO} (h : Nw H H' xs) (hp : H' p = none) (h0 : H p = none) : Nw H (upd H' p o) (p :: xs) := by
  refine ⟨fun b hb => ?_, List.nodup_cons.mpr ⟨fun q => ?_, h.nd⟩⟩
  · rcases List.mem_cons.mp hb with rfl | hb
    · exact ⟨h0, o, upd_same⟩
    · obtain ⟨o', ho⟩ := (h.new b hb).2
      exact ⟨(h.new b hb).1, o', same_upd hp _ _ ho⟩
  · obtain ⟨o', ho⟩ := (h.new p q).2
    rw [hp] at ho
    cases ho
theorem Nw.grow {H H1 H2 : Hp} {xs : List Addr} {p : Addr} (h : Nw H H1 xs) (e : ∀ b o, H1 b = some o → ∃ o', H2 b = some o') (h0 : H p = none) (h1 : H1 p = none) (h2 : ∃ o, H2 p = some o) : Nw H H2 (p :: xs) := by
  refine ⟨fun b hb => ?_, List.nodup_cons.mpr ⟨fun q => ?_, h.nd⟩⟩
  · rcases List.mem_cons.mp hb with rfl | hb
    · exact ⟨h0, h2⟩
    · exact (h.keep e).new b hb
  · obtain ⟨o', ho⟩ := (h.new p q).2
    rw [h1] at ho
    cases ho
theorem Bld.free {CP : Addr} {H H' : Hp} {x dx p : Addr} {fs : List (Str × V)} (m : Bld CP H H' x dx fs) (h : H' p = none) : H p = none := by
  cases e : H p with
  | none => rfl
  | some o =>
    by_cases nb : p = x
    · rw [nb, m.at_] at h
      cases h
    · rw [m.kp p o e nb] at h
      cases h
abbrev TiO : Type := { v : V // v = .str "options" }
structure ParNew (CP CS : Addr) (H H' : Hp) (x dx : Addr) (pr pf cf : Str) (us ds ep : V) (wd : Int) (ab ee : Bool) (aL la lf le dd ls s0 s1 m0 m1 : Addr) : Prop where
  kp : ∀ b o, H b = some o → b ≠ x → H' b = some o
  px : ∃ fi, H' x = some (.ins CP dx (pFs pr pf cf us ds ep wd ab ee aL fi la lf le dd ls))
  h_la : H' la = some (.lst [])
  h_lf : H' lf = some (.dK [])
  h_le : H' le = some (.lst [])
  h_dd : H' dd = some (.dK [])
  h_ls : H' ls = some (.lst [.ref s0, .ref s1])
  h_s0 : ∃ d v2, H' s0 = some (.ins CS d (sFs (.ref x) v2 .non m0))
  h_s1 : ∃ (d : Addr) (v2 : TiO), H' s1 = some (.ins CS d (sFs (.ref x) v2.1 .non m1))
  h_m0 : H' m0 = some (.lst [])
  h_m1 : H' m1 = some (.lst [])
  nw : Nw H H' [ls, m1, s1, m0, s0, dd, le, lf, la]
def spParI (CP CS aP aL : Addr) : Sp := fun vs H Q _ => ∃ (x dx : Addr) (pr pf cf : Str) (us ds ep : V) (wd : Int) (ab ee : Bool), 1 ≤ wd ∧ SgOk pf ∧ pf ≠ "" ∧ vs = [.ref x, .str pr, us, ds, ep, .ref aP, .ref aL, .int wd, .str pf, .str "", .non, .non, .str cf, .bl false, .bl ab, .bl ee] ∧ H x = some (.ins CP dx []) ∧ (cf = "error" ∨ cf = "resolve") ∧
  ∀ (la lf le dd ls s0 s1 m0 m1 : Addr) (H' : Hp), ParNew CP CS H H' x dx pr pf cf us ds ep wd ab ee aL la lf le dd ls s0 s1 m0 m1 → Q .non H'
section
variable {P : Program} {w : World} {K : PySem.W.Frag} {mg : Str → Option Value} {base : Heap}
abbrev pParI : List Str := ["self", "prog", "usage", "description", "epilog", "parents", "layout", "width", "prefix_chars", "fromfile_prefix_chars", "files", "argument_default", "conflict_handler", "add_help", "allow_abbrev", "exit_on_error"]
abbrev nParI : List Str := pParI ++ (["sign", "options", "parent", "word"] : List Str)
theorem scParI : FnScope nParI pParI (defScope sParI) := ⟨rfl, rfl, rfl, by decide +kernel, rfl, by decide +kernel, by decide +kernel⟩
theorem ok_parI {dvs : List V} {kws : List (Str × V)} {f fR fI fG fCp fS CP CS aP aL : Addr} {fd fdR fdI fdG fdCp fdS : FuncData} (F : FunD K "__init__" "Parser.__init__" (defArgs sParI) (defBody sParI) (defScope sParI) dvs kws f fd) (T : TxtB mg) (zStr : mg "str" = none) (cP : ClsN K CP parF)
    (hP : ∀ H, SqT K H aP []) (hL : ∀ H, SqT K H aL []) (tL : ∀ H, TyX K H (.ref aL) (.type "tuple"))
    (R : At P w K mg base "is_row" 1 ["thing"] (spIsRow K) fR fdR) (I : At P w K mg base "is_integer" 1 ["thing"] (spIsInt K) fI fdI) (G : At P w K mg base "is_signs" 1 ["thing"] spSigns fG fdG) (Cp : At P w K mg base "copied" 4 ["value"] (spCop 3) fCp fdCp)
    (mS : mg "Section" = some (.ref CS)) (MS : Mk K CS fS) (GS : FnOk P w K mg base CX0 1 fS fdS ["self", "home", "title", "description"] (spSecI CS)) (bS : Binds K fdS ["self", "home", "title", "description"] []) :
    FnOk P w K mg base CX0 5 f fd pParI (spParI CP CS aP aL) := by
  refine F.ok scParI (fun vs H Q E h => ?_) (fun cdv A0 outer s H vs Q E hr h => ?_)
  · obtain ⟨x, dx, pr, pf, cf, us, ds, ep, wd, ab, ee, _, _, _, rfl, _⟩ := h
    rfl
  · obtain ⟨x, dx, pr, pf, cf, us, ds, ep, wd, ab, ee, hwd, hsg, hpn, rfl, hx, hcf, k⟩ := h
    have r1 : Room 1 (A0.deeper (PyProof.Rows.envOfC "Parser.__init__" (defScope sParI) s.heap.objs.size f cdv)) := hr.mono (by decide)
    have r2 : Room 2 (A0.deeper (PyProof.Rows.envOfC "Parser.__init__" (defScope sParI) s.heap.objs.size f cdv)) := hr.mono (by decide)
    refine ⟨_, PSs.nox (pss_cons (ps_if (PW.pt (pw_or (pt_not (pt_val (pe_call R.ok r1 rfl R.m R.k R.b .nil pass0 (pa_cons (pv 6) pa_nil)))) (pw_or1 (pt_not (pt_val (pe_callB (cr_all rfl) (by rfl) T.all (by decide +kernel) (pa_cons (pe_lc (own := [("word", 19)]) (g := gName 19) (tt := tYes) (te := fun _ _ _ => False) rfl scParI.nd (pi_tup (pv 6)) (blkOk_by (N := nParI) (sc := defScope sParI) (by decide +kernel)) (fun _ _ _ _ _ => pg_name (i := 19) scParI.nd rfl (Or.inl rfl)) (fun _ _ _ _ _ => pts_nil)
        (fun _ _ _ _ _ => by exact pe_never)) pa_nil))))))) pss_never pss_nil)
      (pss_cons (ps_if (PW.pt (pw_or (pt_not (pt_val (pe_call I.ok r1 rfl I.m I.k I.b .nil pass0 (pa_cons (pv 7) pa_nil)))) (pw_or1 (pt_cmpR op_lt (pv 7) pe_int (nomark _))))) pss_never pss_nil)
      (pss_cons (ps_if (PW.pt (pw_or (pt_not (pt_val (pe_call G.ok r1 rfl G.m G.k G.b .nil pass0 (pa_cons (pv 8) pa_nil)))) (pw_or1 (pt_cmpR op_eq (pv 8) pe_str (nomark _))))) pss_never pss_nil)
      (pss_cons (ps_if (pt_not (pt_val (pe_call G.ok r1 rfl G.m G.k G.b .nil pass0 (pa_cons (pv 9) pa_nil)))) pss_never pss_nil)
      (pss_cons (ps_if (PW.pt (pw_or (pt_not (pt_val (pe_callB call_isi (by rfl) T.isinstance (by decide +kernel) (pa_cons (pv 12) (pa_cons (pe_bltn (v := .ty "str") (by rfl) zStr (by decide +kernel) rfl) pa_nil))))) (pw_or1 (pt_cmpR op_notIn_seq (pv 12) (pe_tup (pa_cons pe_str (pa_cons pe_str pa_nil))) (by rfl))))) pss_never pss_nil)
      (pss_mid (ps_asg (pe_tup (pa_cons (pv 1) (pa_cons (pv 2) (pa_cons (pv 3) (pa_cons (pv 4) pa_nil))))) (pg_tup rfl (pgs_cons (pg_fld (pv 0)) (pgs_cons (pg_fld (pv 0)) (pgs_cons (pg_fld (pv 0)) (pgs_cons (pg_fld (pv 0)) pgs_nil))))))
      (pss_mid (ps_asg (pe_tup (pa_cons (pe_callTy call_tuple_of (by rfl) T.tuple (by decide +kernel) (pa_cons (pv 6) pa_nil)) (pa_cons (pv 7) (pa_cons (pv 8) pa_nil)))) (pg_tup rfl (pgs_cons (pg_fld (pv 0)) (pgs_cons (pg_fld (pv 0)) (pgs_cons (pg_fld (pv 0)) pgs_nil)))))
      (pss_mid (ps_asg (pe_tup (pa_cons (pv 9) (pa_cons (pe_ifExp (pt_cmp (pc_isN (pv 10))) pe_dnewK pe_never) pa_nil))) (pg_tup rfl (pgs_cons (pg_fld (pv 0)) (pgs_cons (pg_fld (pv 0)) pgs_nil))))
      (pss_mid (ps_asg (pe_tup (pa_cons (pe_call Cp.ok hr rfl Cp.m Cp.k Cp.b .nil pass0 (pa_cons (pv 11) pa_nil)) (pa_cons (pv 12) pa_nil))) (pg_tup rfl (pgs_cons (pg_fld (pv 0)) (pgs_cons (pg_fld (pv 0)) pgs_nil))))
      (pss_mid (ps_asg (pe_tup (pa_cons (pv 14) (pa_cons (pv 15) pa_nil))) (pg_tup rfl (pgs_cons (pg_fld (pv 0)) (pgs_cons (pg_fld (pv 0)) pgs_nil))))
      (pss_mid (ps_asg (pe_tup (pa_cons (pe_lst pa_nil) (pa_cons pe_dnewK (pa_cons (pe_lst pa_nil) (pa_cons pe_dnewK pa_nil))))) (pg_tup rfl (pgs_cons (pg_fld (pv 0)) (pgs_cons (pg_fld (pv 0)) (pgs_cons (pg_fld (pv 0)) (pgs_cons (pg_fld (pv 0)) pgs_nil))))))
      (pss_mid (ps_fld (pv 0) pe_non rfl)
      (pss_mid (ps_fld (pv 0) (pe_lst (pa_cons (pe_make MS GS r2 rfl mS bS .nil pass0 (pa_cons (pv 0) (pa_cons pe_str (pa_cons pe_non pa_nil)))) (pa_cons (pe_make MS GS r2 rfl mS bS .nil pass0 (pa_cons (pv 0) (pa_cons pe_str (pa_cons pe_non pa_nil)))) pa_nil))) rfl)
      (pss_cons (ps_if (pt_val (pv 13)) pss_never pss_nil)
      (pss_one (ps_for PassesOwn.never rfl (pi_tup (pv 5)) (pg_name (i := 18) scParI.nd rfl (Or.inl rfl)) pss_never)))))))))))))))), ?_⟩
    -- layout
    refine ⟨_, rfl, .ref aL, "tuple", true, rfl, tL H, by decide +kernel, fun H1 e1 => ⟨_, rfl, iteF ?_⟩⟩
    refine ⟨_, rfl, aL, rfl, ⟨[], hL _⟩, fun D hD => ?_⟩
    refine lc_tup (K := K) (a := aL) (xs := []) (g := gName 19) (tt := tYes) (te := fun _ _ _ => False) (vs := [19]) (fun _ H' => Same H1 H' ∧ H' D = some (.lst [])) ⟨same_upd hD, upd_same⟩ (fun i H' _ _ => hL _) (fun i x H' hx h => by simp at hx) (fun H2 h => ?_)
    obtain ⟨e2, hl⟩ := h
    refine ⟨D, [], rfl, SqL.of hl, ⟨_, rfl, iteF ?_⟩⟩
    have e12 := e1.trans e2
    -- width
    refine ⟨_, rfl, .int wd, "int", true, false, rfl, .base (.int wd), by decide +kernel, by decide +kernel, ⟨_, rfl, iteF ?_⟩⟩
    refine ⟨_, rfl, _, _, rfl, rfl, false, congrArg V.bl (decide_eq_false (by omega)), iteF ?_⟩
    -- signs
    refine ⟨_, rfl, pf, rfl, hsg, fun H3 e3 => ⟨_, rfl, iteF ?_⟩⟩
    refine ⟨_, rfl, rfl, false, congrArg V.bl (decide_eq_false fun q => hpn (V.str.inj q)), iteF ?_⟩
    refine ⟨_, rfl, "", rfl, sg_none, fun H4 e4 => ⟨_, rfl, iteF ?_⟩⟩
    -- handler
    refine ⟨_, rfl, _, .ty "str", _, _, true, rfl, .ty _, .base (.str cf), kit_ty (by decide +kernel), _, rfl, iteF ?_⟩
    refine ⟨_, rfl, (by show 2 ≤ sizeLine; decide), fun p hp => ⟨p, _, rfl, .inr (SqT.of upd_same), rfl, by decide +kernel, false, ?_, iteF ?_⟩⟩
    · rcases hcf with rfl | rfl <;> rfl
    have e5 := (e12.trans (e3.trans e4)).trans (same_upd (o := .tup [.str "error", .str "resolve"]) hp)
    generalize upd H4 p (.tup [.str "error", .str "resolve"]) = H5 at e5
    have B5 : Bld CP H H5 x dx [] := ⟨fun b o e _ => e5 _ _ e, e5 _ _ hx⟩
    generalize hσ : (start nParI [.ref x, .str pr, us, ds, ep, .ref aP, .ref aL, .int wd, .str pf, .str "", .non, .non, .str cf, .bl false, .bl ab, .bl ee] : L2.St) = σ5
    have s0 : σ5[0]? = some (some (.ref x)) := by rw [← hσ]; rfl
    have s1 : σ5[1]? = some (some (.str pr)) := by rw [← hσ]; rfl
    have s2 : σ5[2]? = some (some us) := by rw [← hσ]; rfl
    have s3 : σ5[3]? = some (some ds) := by rw [← hσ]; rfl
    have s4 : σ5[4]? = some (some ep) := by rw [← hσ]; rfl
    have s5 : σ5[5]? = some (some (.ref aP)) := by rw [← hσ]; rfl
    have s6 : σ5[6]? = some (some (.ref aL)) := by rw [← hσ]; rfl
    have s7 : σ5[7]? = some (some (.int wd)) := by rw [← hσ]; rfl
    have s8 : σ5[8]? = some (some (.str pf)) := by rw [← hσ]; rfl
    have s9 : σ5[9]? = some (some (.str "")) := by rw [← hσ]; rfl
    have s10 : σ5[10]? = some (some (.non)) := by rw [← hσ]; rfl
    have s11 : σ5[11]? = some (some (.non)) := by rw [← hσ]; rfl
    have s12 : σ5[12]? = some (some (.str cf)) := by rw [← hσ]; rfl
    have s13 : σ5[13]? = some (some (.bl false)) := by rw [← hσ]; rfl
    have s14 : σ5[14]? = some (some (.bl ab)) := by rw [← hσ]; rfl
    have s15 : σ5[15]? = some (some (.bl ee)) := by rw [← hσ]; rfl
    -- prog ..
    refine ⟨fun σ' H' => σ5 = σ' ∧ Bld CP H H' x dx ([("prog", .str pr), ("usage", us), ("description", ds), ("epilog", ep)]), ?_, ?_⟩
    · refine ⟨_, s1, _, s2, _, s3, _, s4, (by show 4 ≤ sizeLine; decide), fun W hW => ?_⟩
      have M := B5.keep (same_upd (o := .tup [.str pr, us, ds, ep]) hW)
      exact ⟨W, _, rfl, SqT.of upd_same, rfl, _, _, rfl, M.put cP (by decide +kernel) (by show 0 < 1000; decide) s0 fun H' M1 => ⟨_, _, rfl, M1.put cP (by decide +kernel) (by show 1 < 1000; decide) s0 fun H' M2 => ⟨_, _, rfl, M2.put cP (by decide +kernel) (by show 2 < 1000; decide) s0 fun H' M3 => ⟨_, _, rfl, M3.put cP (by decide +kernel) (by show 3 < 1000; decide) s0 fun H' M4 => ⟨rfl, rfl, M4⟩⟩⟩⟩⟩
    rintro _ H6 ⟨rfl, B6⟩
    -- layout ..
    refine ⟨fun σ' H' => σ5 = σ' ∧ Bld CP H H' x dx ([("prog", .str pr), ("usage", us), ("description", ds), ("epilog", ep), ("layout", .ref aL), ("width", .int wd), ("prefix_chars", .str pf)]), ?_, ?_⟩
    · refine ⟨_, s6, aL, _, rfl, .inr ⟨hL _, _, s7, _, s8, (by show 3 ≤ sizeLine; decide), fun W hW => ?_⟩⟩
      have M := B6.keep (same_upd (o := .tup [.ref aL, .int wd, .str pf]) hW)
      exact ⟨W, _, rfl, SqT.of upd_same, rfl, _, _, rfl, M.put cP (by decide +kernel) (by show 4 < 1000; decide) s0 fun H' M5 => ⟨_, _, rfl, M5.put cP (by decide +kernel) (by show 5 < 1000; decide) s0 fun H' M6 => ⟨_, _, rfl, M6.put cP (by decide +kernel) (by show 6 < 1000; decide) s0 fun H' M7 => ⟨rfl, rfl, M7⟩⟩⟩⟩
    rintro _ H7 ⟨rfl, B7⟩
    -- files
    refine ⟨fun σ' H' => σ5 = σ' ∧ ∃ fi, Bld CP H H' x dx ([("prog", .str pr), ("usage", us), ("description", ds), ("epilog", ep), ("layout", .ref aL), ("width", .int wd), ("prefix_chars", .str pf), ("file_signs", .str ""), ("files", .ref fi)]), ?_, ?_⟩
    · refine ⟨_, s9, _, s10, true, rfl, iteT fun fi hfi => ⟨(by show 2 ≤ sizeLine; decide), fun W hW => ?_⟩⟩
      have M := (B7.keep (same_upd (o := .dK []) hfi)).keep (same_upd (o := .tup [.str "", .ref fi]) hW)
      exact ⟨W, _, rfl, SqT.of upd_same, rfl, _, _, rfl, M.put cP (by decide +kernel) (by show 7 < 1000; decide) s0 fun H' M8 => ⟨_, _, rfl, M8.put cP (by decide +kernel) (by show 8 < 1000; decide) s0 fun H' M9 => ⟨rfl, rfl, fi, M9⟩⟩⟩
    rintro _ H8 ⟨rfl, fi, B8⟩
    -- argument_default
    refine ⟨fun σ' H' => σ5 = σ' ∧ Bld CP H H' x dx ([("prog", .str pr), ("usage", us), ("description", ds), ("epilog", ep), ("layout", .ref aL), ("width", .int wd), ("prefix_chars", .str pf), ("file_signs", .str ""), ("files", .ref fi), ("argument_default", .non), ("conflict_handler", .str cf)]), ?_, ?_⟩
    · refine ⟨_, s11, .non, .none, rfl, .non, Nat.zero_le _, rfl, fun v' N H' e F t => ?_⟩
      cases t
      refine ⟨_, s12, (by show 2 ≤ sizeLine; decide), fun W hW => ?_⟩
      have M := (B8.keep e).keep (same_upd (o := .tup [.non, .str cf]) hW)
      exact ⟨W, _, rfl, SqT.of upd_same, rfl, _, _, rfl, M.put cP (by decide +kernel) (by show 9 < 1000; decide) s0 fun H' M10 => ⟨_, _, rfl, M10.put cP (by decide +kernel) (by show 10 < 1000; decide) s0 fun H' M11 => ⟨rfl, rfl, M11⟩⟩⟩
    rintro _ H9 ⟨rfl, B9⟩
    -- allow_abbrev
    refine ⟨fun σ' H' => σ5 = σ' ∧ Bld CP H H' x dx ([("prog", .str pr), ("usage", us), ("description", ds), ("epilog", ep), ("layout", .ref aL), ("width", .int wd), ("prefix_chars", .str pf), ("file_signs", .str ""), ("files", .ref fi), ("argument_default", .non), ("conflict_handler", .str cf), ("allow_abbrev", .bl ab), ("exit_on_error", .bl ee)]), ?_, ?_⟩
    · refine ⟨_, s14, _, s15, (by show 2 ≤ sizeLine; decide), fun W hW => ?_⟩
      have M := B9.keep (same_upd (o := .tup [.bl ab, .bl ee]) hW)
      exact ⟨W, _, rfl, SqT.of upd_same, rfl, _, _, rfl, M.put cP (by decide +kernel) (by show 11 < 1000; decide) s0 fun H' M12 => ⟨_, _, rfl, M12.put cP (by decide +kernel) (by show 12 < 1000; decide) s0 fun H' M13 => ⟨rfl, rfl, M13⟩⟩⟩
    rintro _ H10 ⟨rfl, B10⟩
    -- the lists
    refine ⟨fun σ' H' => σ5 = σ' ∧ ∃ G la lf le dd, Bld CP H G x dx ([("prog", .str pr), ("usage", us), ("description", ds), ("epilog", ep), ("layout", .ref aL), ("width", .int wd), ("prefix_chars", .str pf), ("file_signs", .str ""), ("files", .ref fi), ("argument_default", .non), ("conflict_handler", .str cf), ("allow_abbrev", .bl ab), ("exit_on_error", .bl ee)]) ∧ Bld CP G H' x dx ([("prog", .str pr), ("usage", us), ("description", ds), ("epilog", ep), ("layout", .ref aL), ("width", .int wd), ("prefix_chars", .str pf), ("file_signs", .str ""), ("files", .ref fi), ("argument_default", .non), ("conflict_handler", .str cf), ("allow_abbrev", .bl ab), ("exit_on_error", .bl ee), ("arguments", .ref la), ("flags", .ref lf), ("exclusives", .ref le), ("defaults", .ref dd)]) ∧ G la = some (.lst []) ∧ G lf = some (.dK []) ∧ G le = some (.lst []) ∧ G dd = some (.dK []) ∧ Nw H G [dd, le, lf, la], ?_, ?_⟩
    · refine ⟨(by show 0 ≤ sizeLine; decide), fun la hla lf hlf => ⟨(by show 0 ≤ sizeLine; decide), fun le hle dd hdd => ⟨(by show 4 ≤ sizeLine; decide), fun W hW => ?_⟩⟩⟩
      have N0 : Nw H H10 [] := ⟨(fun b hb => nomatch hb), List.nodup_nil⟩
      have M1 := B10.keep (same_upd (o := .lst []) hla)
      have N1 := N0.add (o := .lst []) hla (B10.free hla)
      have t1 : upd H10 la (.lst []) la = _ := upd_same
      generalize upd H10 la (.lst []) = G1 at *
      have M2 := M1.keep (same_upd (o := .dK []) hlf)
      have N2 := N1.add (o := .dK []) hlf (M1.free hlf)
      have t2 := same_upd (o := .dK []) hlf _ _ t1
      have t3 : upd G1 lf (.dK []) lf = _ := upd_same
      generalize upd G1 lf (.dK []) = G2 at *
      have M3 := M2.keep (same_upd (o := .lst []) hle)
      have N3 := N2.add (o := .lst []) hle (M2.free hle)
      have e3 := same_upd (o := .lst []) hle
      have t4 : upd G2 le (.lst []) le = _ := upd_same
      generalize upd G2 le (.lst []) = G3 at *
      have M4 := M3.keep (same_upd (o := .dK []) hdd)
      have N4 := N3.add (o := .dK []) hdd (M3.free hdd)
      have e4 := same_upd (o := .dK []) hdd
      have t5 : upd G3 dd (.dK []) dd = _ := upd_same
      generalize upd G3 dd (.dK []) = G4 at *
      have e5 := same_upd (o := .tup [.ref la, .ref lf, .ref le, .ref dd]) hW
      have eG := (e3.trans e4).trans e5
      have M5 := M4.keep e5
      refine ⟨W, _, rfl, SqT.of upd_same, rfl, _, _, rfl, ?_⟩
      have N5 := N4.same e5
      have M : Bld CP _ _ x dx _ := ⟨fun b o e _ => e, M5.at_⟩
      exact M.put cP (by decide +kernel) (by show 13 < 1000; decide) s0 fun H' M14 => ⟨_, _, rfl, M14.put cP (by decide +kernel) (by show 14 < 1000; decide) s0 fun H' M15 => ⟨_, _, rfl, M15.put cP (by decide +kernel) (by show 15 < 1000; decide) s0 fun H' M16 => ⟨_, _, rfl, M16.put cP (by decide +kernel) (by show 16 < 1000; decide) s0 fun H' M17 => ⟨rfl, rfl, _, la, lf, le, dd, M5, M17, eG _ _ t2, eG _ _ t3, (e4.trans e5) _ _ t4, e5 _ _ t5, N5⟩⟩⟩⟩
    rintro _ H11 ⟨rfl, G, la, lf, le, dd, BG, B11, g1, g2, g3, g4, N⟩
    -- commands_argument
    refine ⟨fun σ' H' => σ5 = σ' ∧ Bld CP G H' x dx ([("prog", .str pr), ("usage", us), ("description", ds), ("epilog", ep), ("layout", .ref aL), ("width", .int wd), ("prefix_chars", .str pf), ("file_signs", .str ""), ("files", .ref fi), ("argument_default", .non), ("conflict_handler", .str cf), ("allow_abbrev", .bl ab), ("exit_on_error", .bl ee), ("arguments", .ref la), ("flags", .ref lf), ("exclusives", .ref le), ("defaults", .ref dd), ("commands_argument", .non)]), ?_, ?_⟩
    · exact B11.put cP (by decide +kernel) (by show 17 < 1000; decide) s0 fun H' M => ⟨rfl, M⟩
    rintro _ H12 ⟨rfl, B12⟩
    have N12 : Nw H H12 [dd, le, lf, la] := N.keep fun b o e => by
      by_cases nb : b = x
      · exact ⟨_, by rw [nb]; exact B12.at_⟩
      · exact ⟨_, B12.kp b o e nb⟩
    have fr : ∀ {p}, H12 p = none → H p = none := fun e => BG.free (B12.free e)
    -- sections
    refine ⟨fun σ' H' => σ5 = σ' ∧ ∃ ls s0 s1 m0 m1, ParNew CP CS H H' x dx pr pf cf us ds ep wd ab ee aL la lf le dd ls s0 s1 m0 m1, ?_, ?_⟩
    · refine ⟨_, s0, fun a0 d0 ha0 hd0 ne0 => ⟨a0, d0, _, _, _, rfl, upd_same, fun m0 K1 kp1 nm0 hm0 hs0 => ⟨rfl, ?_⟩⟩⟩
      have q1 : Same H12 (upd (upd H12 d0 (.own a0)) a0 (.ins CS d0 [])) := same_upd2 (same_upd hd0) (by rw [upd_ne ne0.symm]; exact ha0)
      have N13 := N12.grow (p := a0) (fun b o e => ⟨o, q1 _ _ e⟩) (fr ha0) ha0 ⟨_, upd_same⟩
      have N14 := N13.grow (p := m0) (H2 := K1) (fun b o e => by
        by_cases nb : b = a0
        · exact ⟨_, by rw [nb]; exact hs0⟩
        · exact ⟨_, kp1 b o e nb⟩) (fr (Same.free q1 nm0)) nm0 ⟨_, hm0⟩
      have q2 : Same H12 K1 := fun b o e => kp1 _ _ (q1 _ _ e) (ne_of_none e ha0)
      have fr2 : ∀ {p}, K1 p = none → H p = none := fun e => fr (Same.free q2 e)
      clear kp1 q1 N13
      refine ⟨_, s0, fun a1 d1 ha1 hd1 ne1 => ⟨a1, d1, _, _, _, rfl, upd_same, fun m1 K2 kp2 nm1 hm1 hs1 => ⟨rfl, ?_⟩⟩⟩
      have q3 : Same K1 (upd (upd K1 d1 (.own a1)) a1 (.ins CS d1 [])) := same_upd2 (same_upd hd1) (by rw [upd_ne ne1.symm]; exact ha1)
      have N15 := N14.grow (p := a1) (fun b o e => ⟨o, q3 _ _ e⟩) (fr2 ha1) ha1 ⟨_, upd_same⟩
      have N16 := N15.grow (p := m1) (H2 := K2) (fun b o e => by
        by_cases nb : b = a1
        · exact ⟨_, by rw [nb]; exact hs1⟩
        · exact ⟨_, kp2 b o e nb⟩) (fr2 (Same.free q3 nm1)) nm1 ⟨_, hm1⟩
      have q4 : Same K1 K2 := fun b o e => kp2 _ _ (q3 _ _ e) (ne_of_none e ha1)
      clear kp2 q3 N15
      refine ⟨(by show 2 ≤ sizeLine; decide), fun ls hls => ?_⟩
      have N17 := N16.add (o := .lst [.ref a0, .ref a1]) hls (fr2 (Same.free q4 hls))
      have q5 := same_upd (o := .lst [.ref a0, .ref a1]) hls
      have tl : upd K2 ls (.lst [.ref a0, .ref a1]) ls = _ := upd_same
      generalize upd K2 ls (.lst [.ref a0, .ref a1]) = K3 at *
      have q6 := q4.trans q5
      have q7 := q2.trans q6
      have M := B12.keep q7
      have M0 : Bld CP K3 K3 x dx _ := ⟨fun b o e _ => e, M.at_⟩
      have nx : ∀ {b}, b ∈ [ls, m1, a1, m0, a0, dd, le, lf, la] → b ≠ x := fun hb z => by
        have := (N17.new _ hb).1
        rw [z, hx] at this
        cases this
      refine M0.put cP (by decide +kernel) (by show 18 < 1000; decide) s0 fun K4 M4 => ⟨rfl, ls, a0, a1, m0, m1, ?_⟩
      have gg : ∀ {b o}, b ∈ [ls, m1, a1, m0, a0, dd, le, lf, la] → G b = some o → K4 b = some o := fun hb e => M4.kp _ _ (q7 _ _ (B12.kp _ _ e (nx hb))) (nx hb)
      exact ⟨fun b o e nb => M4.kp _ _ (q7 _ _ (B12.kp _ _ (BG.kp _ _ e nb) nb)) nb, ⟨fi, M4.at_⟩, gg (by simp) g1, gg (by simp) g2, gg (by simp) g3, gg (by simp) g4, M4.kp _ _ tl (nx (by simp)), ⟨d0, _, M4.kp _ _ (q6 _ _ hs0) (nx (by simp))⟩, ⟨d1, ⟨_, rfl⟩, M4.kp _ _ (q5 _ _ hs1) (nx (by simp))⟩, M4.kp _ _ (q6 _ _ hm0) (nx (by simp)), M4.kp _ _ (q5 _ _ hm1) (nx (by simp)), N17.keep fun b o e => by
        by_cases nb : b = x
        · exact ⟨_, by rw [nb]; exact M4.at_⟩
        · exact ⟨_, M4.kp b o e nb⟩⟩
    rintro _ H13 ⟨rfl, ls, sa, sb, m0, m1, PN⟩
    refine ⟨_, s13, _, rfl, iteF ⟨_, s5, aP, rfl, ⟨[], hP _⟩, ?_⟩⟩
    exact for_tup (K := K) (a := aP) (xs := []) (g := gName 18) (tb := fun _ _ _ => False) (D := { nx := fun _ H' => Q .non H', rt := Q }) (fun _ _ H' => H' = H13) rfl (fun _ _ _ _ _ => hP _) (fun i y _ _ hy _ => by simp at hy) (fun _ H' e => by subst e; exact k la lf le dd ls sa sb m0 m1 _ PN)
end
end K46

namespace K46
open PySem L2 PyProof PyProof.Rows
/-! ### words laid out in lines -/
theorem len_tl (x : Str) : x.cps.toList.length = x.length := by simp [Str.length]
theorem cutS_from (w : Str) (z : Nat) : (cutS w (some (z : Int)) none).cps.toList = w.cps.toList.drop z := by
  unfold cutS
  have q : HT.sIx w.length 0 (some (z : Int)) = min z w.length := HT.sIx_nat w.length 0 z
  have q2 : HT.sIx w.length w.length none = w.length := rfl
  rw [q, q2]
  show (w.cps.toList.drop (min z w.length)).take (w.length - min z w.length) = _
  have hl := len_tl w
  by_cases h : z ≤ w.length
  · rw [Nat.min_eq_left h, List.take_of_length_le (by rw [List.length_drop, hl]; exact Nat.le_refl _)]
  · rw [Nat.min_eq_right (by omega), Nat.sub_self, List.take_zero, List.drop_eq_nil_of_le (by omega)]
theorem cutS_to (w : Str) (z : Nat) : (cutS w none (some (z : Int))).cps.toList = w.cps.toList.take z := by
  unfold cutS
  have q : HT.sIx w.length w.length (some (z : Int)) = min z w.length := HT.sIx_nat w.length w.length z
  have q2 : HT.sIx w.length 0 none = 0 := rfl
  rw [q, q2]
  show (w.cps.toList.drop 0).take (min z w.length - 0) = _
  have hl := len_tl w
  rw [List.drop_zero, Nat.sub_zero]
  by_cases h : z ≤ w.length
  · rw [Nat.min_eq_left h]
  · rw [Nat.min_eq_right (by omega), List.take_of_length_le (by omega), List.take_of_length_le (by omega)]
theorem cutS_from_len (w : Str) (z : Nat) : (cutS w (some (z : Int)) none).length = w.length - z := by rw [← len_tl, cutS_from, List.length_drop, len_tl]
theorem cutS_to_len (w : Str) (z : Nat) : (cutS w none (some (z : Int))).length ≤ z := by
  rw [← len_tl, cutS_to, List.length_take]
  omega
def chop (z : Nat) : Nat → Str → List Str × Str
  | 0, w => ([], w)
  | n + 1, w => if z < w.length then (cutS w none (some (z : Int)) :: (chop z n (cutS w (some (z : Int)) none)).1, (chop z n (cutS w (some (z : Int)) none)).2) else ([], w)
def roomOf (z : Nat) (line : Str) : Nat := z - line.length - 1
def filledL (z : Nat) (line w : Str) : Str := line ++ (if 0 < roomOf z line then " " ++ cutS w none (some (roomOf z line : Int)) else "")
def layStep (z : Nat) (st : List Str × Str) (w : Str) : List Str × Str :=
  if st.2 ≠ "" ∧ st.2.length + 1 + w.length ≤ z then (st.1, st.2 ++ " " ++ w) else
  if st.2 ≠ "" ∧ z < w.length then
    ((if filledL z st.2 w ≠ "" then st.1 ++ [filledL z st.2 w] else st.1) ++ (chop z w.length (cutS w (some (roomOf z st.2 : Int)) none)).1, (chop z w.length (cutS w (some (roomOf z st.2 : Int)) none)).2)
  else ((if st.2 ≠ "" then st.1 ++ [st.2] else st.1) ++ (chop z w.length w).1, (chop z w.length w).2)
def laidF (z : Nat) (ws : List Str) : List Str := if (ws.foldl (layStep z) ([], "")).2 ≠ "" then (ws.foldl (layStep z) ([], "")).1 ++ [(ws.foldl (layStep z) ([], "")).2] else (ws.foldl (layStep z) ([], "")).1
theorem chop_zero {z : Nat} {w : Str} (h : ¬ z < w.length) : ∀ n, chop z n w = ([], w)
  | 0 => rfl
  | n + 1 => by unfold chop; rw [if_neg h]
theorem chop_more {z : Nat} (hz : 1 ≤ z) : ∀ (n m : Nat) (w : Str), w.length ≤ n → w.length ≤ m → chop z n w = chop z m w
  | 0, m, w, h1, h2 => by rw [chop_zero (by omega), chop_zero (by omega)]
  | n + 1, 0, w, h1, h2 => by rw [chop_zero (by omega), chop_zero (by omega)]
  | n + 1, m + 1, w, h1, h2 => by
    unfold chop
    by_cases h : z < w.length
    · rw [if_pos h, if_pos h]
      have l := cutS_from_len w z
      rw [chop_more hz n m (cutS w (some (z : Int)) none) (by omega) (by omega)]
    · rw [if_neg h, if_neg h]
theorem chop_step {z : Nat} (hz : 1 ≤ z) {n : Nat} {w : Str} (h : z < w.length) (hn : w.length ≤ n) : chop z n w = (cutS w none (some (z : Int)) :: (chop z n (cutS w (some (z : Int)) none)).1, (chop z n (cutS w (some (z : Int)) none)).2) := by
  have l := cutS_from_len w z
  cases n with
  | zero => omega
  | succ n =>
    rw [chop_more hz (n + 1) n (cutS w (some (z : Int)) none) (by omega) (by omega)]
    show (if z < w.length then _ else _) = _
    rw [if_pos h]
def wsm (ws : List Str) : Nat := (ws.map (·.length)).sum + ws.length
theorem wsm_snoc (ws : List Str) (w : Str) : wsm (ws ++ [w]) = wsm ws + w.length + 1 := by
  unfold wsm
  rw [List.map_append, List.sum_append, List.length_append]
  simp
  omega
theorem wsm_take (ws : List Str) (i : Nat) : wsm (ws.take i) ≤ wsm ws := by
  have h : ∀ (a b : List Str), wsm (a ++ b) = wsm a + wsm b := fun a b => by
    unfold wsm
    rw [List.map_append, List.sum_append, List.length_append]
    omega
  have := h (ws.take i) (ws.drop i)
  rw [List.take_append_drop] at this
  omega
theorem chop_len {z : Nat} (hz : 1 ≤ z) : ∀ (n : Nat) (w : Str), w.length ≤ n → (chop z n w).1.length ≤ w.length ∧ (chop z n w).2.length ≤ w.length
  | 0, w, h => ⟨Nat.zero_le _, Nat.le_refl _⟩
  | n + 1, w, h => by
    unfold chop
    by_cases q : z < w.length
    · rw [if_pos q]
      have l := cutS_from_len w z
      obtain ⟨a, b⟩ := chop_len hz n (cutS w (some (z : Int)) none) (by omega)
      exact ⟨by show (chop z n _).1.length + 1 ≤ _; omega, by show (chop z n _).2.length ≤ _; omega⟩
    · rw [if_neg q]
      exact ⟨Nat.zero_le _, Nat.le_refl _⟩
theorem filled_len (z : Nat) (line w : Str) : (filledL z line w).length ≤ line.length + 1 + w.length := by
  unfold filledL
  rw [Str.length_append]
  split
  · rw [Str.length_append]
    have h1 : (" " : Str).length = 1 := rfl
    have h2 : (cutS w none (some (roomOf z line : Int))).length ≤ w.length := by
      rw [← len_tl, cutS_to, List.length_take, len_tl]
      omega
    omega
  · show line.length + 0 ≤ _
    omega
theorem lay_len {z : Nat} (hz : 1 ≤ z) {st : List Str × Str} {w : Str} {n : Nat} (h1 : st.1.length ≤ n) (h2 : st.2.length ≤ n) : (layStep z st w).1.length ≤ n + w.length + 1 ∧ (layStep z st w).2.length ≤ n + w.length + 1 := by
  unfold layStep
  split
  · refine ⟨by show st.1.length ≤ _; omega, ?_⟩
    show (st.2 ++ " " ++ w).length ≤ _
    rw [Str.length_append, Str.length_append]
    have : (" " : Str).length = 1 := rfl
    omega
  · split
    · have l := cutS_from_len w (roomOf z st.2)
      obtain ⟨a, b⟩ := chop_len hz w.length (cutS w (some (roomOf z st.2 : Int)) none) (by omega)
      refine ⟨?_, by show (chop z _ _).2.length ≤ _; omega⟩
      show (_ ++ (chop z _ _).1).length ≤ _
      rw [List.length_append]
      split
      · rw [List.length_append]
        show st.1.length + 1 + _ ≤ _
        omega
      · omega
    · obtain ⟨a, b⟩ := chop_len hz w.length w (Nat.le_refl _)
      refine ⟨?_, by show (chop z _ _).2.length ≤ _; omega⟩
      show (_ ++ (chop z _ _).1).length ≤ _
      rw [List.length_append]
      split
      · rw [List.length_append]
        show st.1.length + 1 + _ ≤ _
        omega
      · omega
theorem while_n {c : TT} {tb : TS} {D : Ends} {σ : L2.St} {H : Hp} (Pv : Nat → L2.St → Hp → Prop) (n0 : Nat) (h0 : Pv n0 σ H)
    (hs : ∀ n σ H, Pv n σ H → ∀ Y : Bool → Hp → Prop, (∀ H1, tb { D with nx := fun σ' H' => ∃ m, m < n ∧ Pv m σ' H', ct := fun σ' H' => ∃ m, m < n ∧ Pv m σ' H', bk := D.nx } σ H1 → Y true H1) → (∀ H1, D.nx σ H1 → Y false H1) → c σ H Y) : tWhile c tb D σ H :=
  ⟨Pv, ⟨n0, h0⟩, fun m σ H p => hs m σ H p _ (fun H1 q => by
    rw [if_pos rfl]
    exact ⟨_, fun _ _ h => h, q⟩) (fun H1 q => by
    rw [if_neg Bool.false_ne_true]
    exact q)⟩
/-- all but L is kept -/
def Kb (L : Addr) (H H' : Hp) : Prop := ∀ b u, H b = some u → b ≠ L → H' b = some u
theorem Kb.refl (L : Addr) (H : Hp) : Kb L H H := fun _ _ e _ => e
theorem Kb.trans {L : Addr} {H H1 H2 : Hp} (a : Kb L H H1) (b : Kb L H1 H2) : Kb L H H2 := fun c u e n => b c u (a c u e n) n
theorem Kb.upd {L : Addr} {H H1 : Hp} {o : HO} (a : Kb L H H1) : Kb L H (upd H1 L o) := fun c u e n => by
  rw [upd_ne n]
  exact a c u e n
theorem Kb.same {L : Addr} {H H1 H2 : Hp} (a : Kb L H H1) (e : Same H1 H2) : Kb L H H2 := fun c u h n => e _ _ (a c u h n)
theorem Kb.new {L : Addr} {H H' : Hp} (a : Kb L H H') (h : H L = none) : Same H H' := fun c u e => a c u e (ne_of_none e h)
theorem neS (a : Str) : (!decide (V.str a = V.str "")) = decide (a ≠ "") := by
  by_cases h : a = ""
  · subst h
    rfl
  · have h2 : ¬ V.str a = V.str "" := fun z => h (V.str.inj z)
    rw [decide_eq_false h2, decide_eq_true h]
    rfl
theorem skip {a R : Prop} (hR : R) (h : R → a) : a := h hR
def spLaid : Sp := fun vs H Q _ => ∃ (x : Str) (z : Nat), vs = [.str x, .int z] ∧ 1 ≤ z ∧ z ≤ 100000 ∧ x.length ≤ 100000 ∧ ∀ (D : Addr) (H' : Hp), Same H H' → H D = none → H' D = some (.lst ((laidF z (Txt.words x)).map V.str)) → Q (.ref D) H'
section
variable {P : Program} {w : World} {K : PySem.W.Frag} {mg : Str → Option Value} {base : Heap}
abbrev nLaid : List Str := ["text", "size", "found", "line", "word", "room"]
theorem scLaid : FnScope nLaid ["text", "size"] (defScope sLaidOut) := ⟨rfl, rfl, rfl, by decide +kernel, rfl, by decide +kernel, by decide +kernel⟩
theorem ok_laid {f : Addr} {fd : FuncData} (F : Fun K "laid_out" "laid_out" sLaidOut f fd) (T : TxtB mg) (zMax : mg "max" = none) : FnOk P w K mg base CX0 1 f fd ["text", "size"] spLaid := by
  refine F.ok scLaid (fun vs H Q E h => ?_) (fun cdv A outer s H vs Q E hr h => ?_)
  · obtain ⟨x, z, rfl, _⟩ := h
    rfl
  · obtain ⟨x, z, rfl, hz, hz2, hx, k⟩ := h
    refine ⟨_, pss_mid (ps_par (i := 2) (j := 3) (by rfl) scLaid.nd rfl rfl (by decide) rfl rfl (pa_cons (pe_lst pa_nil) (pa_cons pe_str pa_nil)) (by rfl))
      (pss_mid (ps_for PassesOwn.never rfl (pi_list (pe_bm0 PySem.F.plainAttrs_str PySem.F.slot_str_split PySem.F.type_str_split mt_words (pv 0))) (pg_name (i := 4) scLaid.nd rfl (Or.inl rfl))
        (pss_cons (ps_if (PW.pt (pw_and (pt_cmpR op_ne (pv 3) pe_str (nomark _)) (pw_and1 (pt_cmpR op_le (pe_op op_add (pe_op op_add (pe_callB call_len_str (by rfl) T.len PySem.boot_len (pa_cons (pv 3) pa_nil)) pe_int) (pe_callB call_len_str (by rfl) T.len PySem.boot_len (pa_cons (pv 4) pa_nil))) (pv 1) (nomark _)))))
            (pss_cons (ps_set (i := 3) scLaid.nd rfl (Or.inl rfl) (pe_op op_add_str (pe_op op_add_str (pv 3) pe_str) (pv 4))) (pss_one ps_continue)) pss_nil)
        (pss_mid (ps_if (PW.pt (pw_and (pt_cmpR op_ne (pv 3) pe_str (nomark _)) (pw_and1 (pt_cmpR op_gt (pe_callB call_len_str (by rfl) T.len PySem.boot_len (pa_cons (pv 4) pa_nil)) (pv 1) (nomark _)))))
            (pss_cons (ps_set (i := 5) scLaid.nd rfl (Or.inl rfl) (pe_callB (call_max2 rfl) (by rfl) zMax (by decide +kernel) (pa_cons pe_int (pa_cons (pe_op op_sub (pe_op op_sub (pv 1) (pe_callB call_len_str (by rfl) T.len PySem.boot_len (pa_cons (pv 3) pa_nil))) pe_int) pa_nil))))
            (pss_cons (ps_set (i := 3) scLaid.nd rfl (Or.inl rfl) (pe_op op_add_str (pv 3) (pe_ifExp (pt_cmpR op_gt (pv 5) pe_int (nomark _)) (pe_op op_add_str pe_str (pe_slice sl_str (pv 4) po_none (po_some (pv 5)))) pe_str)))
            (pss_one (ps_set (i := 4) scLaid.nd rfl (Or.inl rfl) (pe_slice sl_str (pv 4) (po_some (pv 5)) po_none))))) pss_nil)
        (pss_mid (ps_if (pt_cmpR op_ne (pv 3) pe_str (nomark _)) (pss_one (ps_expr (pe_bm PySem.F.plainAttrs_list PySem.F.slot_list_append PySem.F.type_list_append mt_append (pv 2) (pa_cons (pv 3) pa_nil)))) pss_nil)
        (pss_mid (ps_while PassesOwn.never (pt_cmpR op_gt (pe_callB call_len_str (by rfl) T.len PySem.boot_len (pa_cons (pv 4) pa_nil)) (pv 1) (nomark _))
            (pss_cons (ps_expr (pe_bm PySem.F.plainAttrs_list PySem.F.slot_list_append PySem.F.type_list_append mt_append (pv 2) (pa_cons (pe_slice sl_str (pv 4) po_none (po_some (pv 1))) pa_nil)))
            (pss_one (ps_set (i := 4) scLaid.nd rfl (Or.inl rfl) (pe_slice sl_str (pv 4) (po_some (pv 1)) po_none)))))
        (pss_one (ps_set (i := 3) scLaid.nd rfl (Or.inl rfl) (pv 4))))))))
      (pss_one (ps_ret (pe_ifExp (pt_cmpR op_ne (pv 3) pe_str (nomark _)) (pe_op op_cat (pv 2) (pe_lst (pa_cons (pv 3) pa_nil))) (pv 2))))), ?_⟩
    have hz6 : PySem.sizeLine = 16777216 := PySem.sizeLine_eq
    have hwt : wsm (Txt.words x) ≤ x.length + 1 := StrLaws.words_weight x
    refine ⟨fun σ' H' => ∃ L, H L = none ∧ σ' = [some (.str x), some (.int z), some (.ref L), some (.str ""), none, none] ∧ Same H H' ∧ H' L = some (.lst []), ?_, ?_⟩
    · exact ⟨(by show 0 ≤ sizeLine; decide), fun L hL => ⟨_, _, rfl, L, hL, rfl, same_upd hL, upd_same⟩⟩
    rintro _ H1 ⟨L, hL0, rfl, e1, hL⟩
    refine ⟨fun σ' H' => ∃ r4 r5, σ' = [some (.str x), some (.int z), some (.ref L), some (.str ((Txt.words x).foldl (layStep z) ([], "")).2), r4, r5] ∧ Kb L H H' ∧ H' L = some (.lst (((Txt.words x).foldl (layStep z) ([], "")).1.map V.str)) ∧ ((Txt.words x).foldl (layStep z) ([], "")).1.length ≤ 100001 ∧ ((Txt.words x).foldl (layStep z) ([], "")).2.length ≤ 100001, ?_, ?_⟩
    · refine ⟨_, rfl, rfl, x, rfl, rfl, (by omega), fun LW hLW => ⟨LW, rfl, ⟨_, SqL.of upd_same⟩, ?_⟩⟩
      have nLW : L ≠ LW := ne_of_none hL hLW
      have hLW2 : (upd H1 LW (.lst ((Txt.words x).map V.str))) LW = some (.lst ((Txt.words x).map V.str)) := upd_same
      have hL2 : (upd H1 LW (.lst ((Txt.words x).map V.str))) L = some (.lst []) := by rw [upd_ne nLW]; exact hL
      have kb2 : Kb L H (upd H1 LW (.lst ((Txt.words x).map V.str))) := fun b u e n => same_upd hLW _ _ (e1 _ _ e)
      generalize upd H1 LW (.lst ((Txt.words x).map V.str)) = G at hLW2 hL2 kb2
      refine for_list (K := K) (a := LW) (xs := (Txt.words x).map V.str) (fun i σ' H' => ∃ r4 r5, σ' = [some (.str x), some (.int z), some (.ref L), some (.str (((Txt.words x).take i).foldl (layStep z) ([], "")).2), r4, r5] ∧ Kb L H H' ∧ H' L = some (.lst ((((Txt.words x).take i).foldl (layStep z) ([], "")).1.map V.str)) ∧ (((Txt.words x).take i).foldl (layStep z) ([], "")).1.length ≤ wsm ((Txt.words x).take i) ∧ (((Txt.words x).take i).foldl (layStep z) ([], "")).2.length ≤ wsm ((Txt.words x).take i) ∧ H' LW = some (.lst ((Txt.words x).map V.str))) ⟨none, none, rfl, kb2, hL2, Nat.zero_le _, Nat.zero_le _, hLW2⟩ ?_ ?_ ?_
      · rintro i σ' H' _ ⟨_, _, _, _, _, _, _, h⟩
        exact SqL.of h
      · rintro i xv σ' H' hx' ⟨r4, r5, rfl, kb, hLh, b1, b2, hLWh⟩
        obtain ⟨y, hy, rfl⟩ := str_at hx'
        have hyl : y.length ≤ 100001 := by
          have hm := List.mem_of_getElem? hy
          have h1 := wsm_take (Txt.words x) (i + 1)
          rw [take_more' hy, wsm_snoc] at h1
          omega
        have htk : (Txt.words x).take (i + 1) = (Txt.words x).take i ++ [y] := take_more' hy
        have hw1 : wsm ((Txt.words x).take i) ≤ x.length + 1 := Nat.le_trans (wsm_take _ _) hwt
        have fin : ∀ (r4 r5 : Option V) (H2 : Hp) (st : List Str × Str), st = layStep z (((Txt.words x).take i).foldl (layStep z) ([], "")) y → Kb L H H2 → H2 L = some (.lst (st.1.map V.str)) → H2 LW = some (.lst ((Txt.words x).map V.str)) → ∃ r4' r5', ([some (.str x), some (.int z), some (.ref L), some (.str st.2), r4, r5] : L2.St) = [some (.str x), some (.int z), some (.ref L), some (.str (((Txt.words x).take (i + 1)).foldl (layStep z) ([], "")).2), r4', r5'] ∧ Kb L H H2 ∧ H2 L = some (.lst ((((Txt.words x).take (i + 1)).foldl (layStep z) ([], "")).1.map V.str)) ∧ (((Txt.words x).take (i + 1)).foldl (layStep z) ([], "")).1.length ≤ wsm ((Txt.words x).take (i + 1)) ∧ (((Txt.words x).take (i + 1)).foldl (layStep z) ([], "")).2.length ≤ wsm ((Txt.words x).take (i + 1)) ∧ H2 LW = some (.lst ((Txt.words x).map V.str)) := fun r4 r5 H2 st hst k1 k2 k3 => by
          have hf : ((Txt.words x).take (i + 1)).foldl (layStep z) ([], "") = st := by rw [htk, List.foldl_append, hst]; rfl
          rw [hf]
          have hln := lay_len hz (w := y) b1 b2
          rw [← hst] at hln
          have hws : wsm ((Txt.words x).take (i + 1)) = wsm ((Txt.words x).take i) + y.length + 1 := by rw [htk, wsm_snoc]
          exact ⟨r4, r5, rfl, k1, k2, by omega, by omega, k3⟩
        generalize hst0 : ((Txt.words x).take i).foldl (layStep z) ([], "") = st0 at fin b1 b2 hLh
        obtain ⟨fo, li⟩ := st0
        have b1' : fo.length ≤ 100001 := by have : fo.length ≤ _ := b1; omega
        have b2' : li.length ≤ 100001 := by have : li.length ≤ _ := b2; omega
        have hLh' : H' L = some (.lst (fo.map V.str)) := hLh
        clear hst0 hLh
        have hsp : (" " : Str).length = 1 := rfl
        refine ⟨_, rfl, rfl, _, rfl, ?_⟩
        rw [neS]
        by_cases h0 : li ≠ "" ∧ li.length + 1 + y.length ≤ z
        · refine ite2 (fun _ => ?_) (fun zz => absurd (decide_eq_true h0.1) zz)
          refine ⟨_, rfl, li, rfl, (by omega), _, _, rfl, rfl, _, rfl, y, rfl, (by omega), _, _, rfl, rfl, _, rfl, _, _, rfl, rfl, _, rfl, ?_⟩
          refine ite2 (fun _ => ?_) (fun zz => absurd (decide_eq_true (by have := h0.2; omega)) zz)
          refine ⟨_, rfl, _, _, rfl, rfl, (by rw [hsp]; omega), _, rfl, _, _, rfl, rfl, (by rw [Str.length_append, hsp]; omega), ?_⟩
          refine fin _ _ H' (fo, li ++ " " ++ y) ?_ kb hLh' hLWh
          unfold layStep
          rw [if_pos h0]
        refine skip ?rest (fun rest => ite2 (fun hne => ⟨_, rfl, li, rfl, (by omega), _, _, rfl, rfl, _, rfl, y, rfl, (by omega), _, _, rfl, rfl, _, rfl, _, _, rfl, rfl, _, rfl, ite2 (fun hle => absurd ⟨of_decide_eq_true hne, (by have := of_decide_eq_true hle; omega)⟩ h0) (fun _ => rest)⟩) (fun hne => iteF rest))
        have hz6' : z < 16777216 := by omega
        generalize hl2 : (if li ≠ "" ∧ z < y.length then filledL z li y else li) = li2
        generalize hw2 : (if li ≠ "" ∧ z < y.length then cutS y (some (roomOf z li : Int)) none else y) = w2
        have hli2 : li2.length ≤ 300000 := by
          rw [← hl2]
          split
          · have := filled_len z li y
            omega
          · omega
        have hw2l : w2.length ≤ y.length := by
          rw [← hw2]
          split
          · have := cutS_from_len y (roomOf z li)
            omega
          · exact Nat.le_refl _
        have hst : layStep z (fo, li) y = ((if li2 ≠ "" then fo ++ [li2] else fo) ++ (chop z y.length w2).1, (chop z y.length w2).2) := by
          unfold layStep
          rw [if_neg h0]
          by_cases hc : li ≠ "" ∧ z < y.length
          · rw [if_pos hc, ← hl2, ← hw2, if_pos hc, if_pos hc]
          · rw [if_neg hc, ← hl2, ← hw2, if_neg hc, if_neg hc]
        -- a word that is cut
        refine ⟨fun σ' H2 => ∃ r5, σ' = [some (.str x), some (.int z), some (.ref L), some (.str li2), some (.str w2), r5] ∧ H' = H2, ?_, ?_⟩
        · by_cases hc : li ≠ "" ∧ z < y.length
          · rw [if_pos hc] at hl2 hw2
            refine ⟨_, rfl, rfl, _, rfl, ?_⟩
            rw [neS]
            refine ite2 (fun _ => ?_) (fun zz => absurd (decide_eq_true hc.1) zz)
            refine ⟨_, rfl, y, rfl, (by omega), _, rfl, _, _, rfl, rfl, _, rfl, ?_⟩
            refine ite2 (fun _ => ?_) (fun zz => absurd (decide_eq_true (by have := hc.2; omega)) zz)
            have hroom : (if (z : Int) - (li.length : Int) - 1 > 0 then (z : Int) - (li.length : Int) - 1 else 0) = (roomOf z li : Int) := by
              unfold roomOf
              split <;> omega
            refine ⟨_, rfl, _, rfl, li, rfl, (by omega), _, _, rfl, rfl, _, _, rfl, rfl, _, _, rfl, ?_⟩
            rw [hroom]
            refine ⟨_, rfl, _, rfl, _, _, rfl, rfl, _, rfl, ?_⟩
            subst hl2 hw2
            have hct := cutS_to_len y (roomOf z li)
            have hrl : roomOf z li ≤ 100000 := by
              unfold roomOf
              omega
            refine ite2 (fun hr => ?_) (fun hr => ?_)
            · have e : filledL z li y = li ++ (" " ++ cutS y none (some (roomOf z li : Int))) := by
                unfold filledL
                rw [if_pos (by have := of_decide_eq_true hr; omega)]
              rw [e]
              refine ⟨_, rfl, _, rfl, _, rfl, y, rfl, (by omega), _, _, rfl, rfl, (by rw [hsp]; omega), _, _, rfl, rfl, (by rw [Str.length_append, hsp]; show li.length + _ ≤ _; omega), ?_⟩
              exact ⟨_, rfl, _, rfl, _, rfl, y, rfl, (by omega), _, rfl, rfl⟩
            · have e : filledL z li y = li ++ "" := by
                unfold filledL
                rw [if_neg (fun zz => hr (decide_eq_true (by omega)))]
              rw [e]
              refine ⟨_, _, rfl, rfl, (by show li.length + 0 ≤ _; omega), ?_⟩
              exact ⟨_, rfl, _, rfl, _, rfl, y, rfl, (by omega), _, rfl, rfl⟩
          · rw [if_neg hc] at hl2 hw2
            subst hl2 hw2
            refine ⟨_, rfl, rfl, _, rfl, ?_⟩
            rw [neS]
            refine ite2 (fun hne => ⟨_, rfl, y, rfl, (by omega), _, rfl, _, _, rfl, rfl, _, rfl, ite2 (fun hq => absurd ⟨of_decide_eq_true hne, (by have := of_decide_eq_true hq; omega)⟩ hc) (fun _ => ⟨_, rfl, rfl⟩)⟩) (fun hne => iteF ⟨_, rfl, rfl⟩)
        rintro _ _ ⟨q5, rfl, rfl⟩
        -- the line is closed
        refine ⟨fun σ' H2 => σ' = [some (.str x), some (.int z), some (.ref L), some (.str li2), some (.str w2), q5] ∧ Kb L H H2 ∧ H2 L = some (.lst ((if li2 ≠ "" then fo ++ [li2] else fo).map V.str)) ∧ H2 LW = some (.lst ((Txt.words x).map V.str)), ?_, ?_⟩
        · refine ⟨_, rfl, rfl, _, rfl, ?_⟩
          rw [neS]
          refine ite2 (fun hne => ?_) (fun hne => ?_)
          · refine ⟨_, rfl, .inl ⟨rfl, _, SqL.of hLh'⟩, _, rfl, L, _, _, rfl, rfl, hLh', (by rw [List.length_map]; omega), rfl, kb.upd, ?_, ?_⟩
            · rw [upd_same, if_pos (of_decide_eq_true hne), List.map_append]
              rfl
            · rw [upd_ne nLW.symm]
              exact hLWh
          · rw [if_neg (fun q => hne (decide_eq_true q))]
            exact ⟨rfl, kb, hLh', hLWh⟩
        rintro _ H2 ⟨rfl, kb2, hL2, hLW2⟩
        generalize hfo2 : (if li2 ≠ "" then fo ++ [li2] else fo) = fo2 at hst hL2
        have hfo2l : fo2.length ≤ 100002 := by
          rw [← hfo2]
          split
          · rw [List.length_append]
            show fo.length + 1 ≤ _
            omega
          · omega
        -- pieces of a long word
        refine ⟨fun σ' H3 => ∃ w3 cs, σ' = [some (.str x), some (.int z), some (.ref L), some (.str li2), some (.str w3), q5] ∧ Kb L H H3 ∧ H3 L = some (.lst ((fo2 ++ cs).map V.str)) ∧ H3 LW = some (.lst ((Txt.words x).map V.str)) ∧ chop z y.length w2 = (cs, w3), ?_, ?_⟩
        · refine while_n (fun n σ' H3 => ∃ w3 cs, σ' = [some (.str x), some (.int z), some (.ref L), some (.str li2), some (.str w3), q5] ∧ n = w3.length ∧ w3.length + cs.length ≤ y.length ∧ Kb L H H3 ∧ H3 L = some (.lst ((fo2 ++ cs).map V.str)) ∧ H3 LW = some (.lst ((Txt.words x).map V.str)) ∧ chop z y.length w2 = (cs ++ (chop z y.length w3).1, (chop z y.length w3).2)) w2.length ⟨w2, [], rfl, rfl, by simpa using hw2l, kb2, by rw [List.append_nil]; exact hL2, hLW2, rfl⟩ ?_
          rintro n σ' H3 ⟨w3, cs, rfl, rfl, hlen, kb3, hL3, hLW3, hch⟩ Y hY1 hY0
          refine ⟨_, rfl, w3, rfl, (by omega), _, rfl, _, _, rfl, rfl, _, rfl, ?_⟩
          by_cases hlt : z < w3.length
          · have hd : decide ((z : Int) < (w3.length : Int)) = true := decide_eq_true (by omega)
            show Y (decide ((z : Int) < (w3.length : Int))) H3
            rw [hd]
            refine hY1 H3 ?_
            have hc1 := cutS_from_len w3 z
            have hc2 := cutS_to_len w3 z
            refine ⟨_, rfl, .inl ⟨rfl, _, SqL.of hL3⟩, _, rfl, _, rfl, _, rfl, w3, rfl, (by omega), L, _, _, rfl, rfl, hL3, (by rw [List.length_map, List.length_append]; omega), ?_⟩
            refine ⟨_, rfl, _, rfl, _, rfl, w3, rfl, (by omega), ?_⟩
            refine ⟨_, ?_, cutS w3 (some (z : Int)) none, cs ++ [cutS w3 none (some (z : Int))], rfl, rfl, ?_, kb3.upd, ?_, ?_, ?_⟩
            · show (cutS w3 (some (z : Int)) none).length < w3.length
              omega
            · rw [List.length_append]
              show _ + (cs.length + 1) ≤ _
              omega
            · rw [upd_same]
              show some (HO.lst ((fo2 ++ cs).map V.str ++ [cutS w3 none (some (z : Int))].map V.str)) = _
              rw [← List.map_append, List.append_assoc]
            · rw [upd_ne nLW.symm]
              exact hLW3
            · rw [hch, chop_step hz hlt (by omega)]
              show (cs ++ (_ :: _), _) = ((cs ++ [_]) ++ _, _)
              rw [List.append_assoc]
              first | done | rfl
          · have hd : decide ((z : Int) < (w3.length : Int)) = false := decide_eq_false (by omega)
            show Y (decide ((z : Int) < (w3.length : Int))) H3
            rw [hd]
            refine hY0 H3 ⟨w3, cs, rfl, kb3, hL3, hLW3, ?_⟩
            rw [hch, chop_zero hlt, List.append_nil]
        rintro _ H3 ⟨w3, cs, rfl, kb3, hL3, hLW3, hch⟩
        rw [hch] at hst
        exact ⟨_, rfl, fin _ _ H3 _ hst.symm kb3 hL3 hLW3⟩
      · rintro σ' H' ⟨r4, r5, rfl, kb, hLh, b1, b2, _⟩
        have ht : (Txt.words x).take ((Txt.words x).map V.str).length = Txt.words x := by rw [List.length_map, List.take_length]
        rw [ht] at hLh b1 b2
        exact ⟨r4, r5, by rw [ht], kb, hLh, by omega, by omega⟩
    rintro _ H2 ⟨r4, r5, rfl, kb, hL2, l1, l2⟩
    refine ⟨_, rfl, rfl, _, rfl, ?_⟩
    rw [neS]
    have sH := kb.new hL0
    refine ite2 (fun hc => ?_) (fun hc => ?_)
    · have hc' := of_decide_eq_true hc
      refine ⟨_, rfl, _, rfl, (by show 1 ≤ sizeLine; decide), fun D hD => ⟨L, D, _, _, rfl, rfl, same_upd hD _ _ hL2, upd_same, (by rw [List.length_map, hz6]; show _ + 1 ≤ _; omega), fun D2 hD2 => k D2 _ (sH.trans (same_upd2 (same_upd hD) hD2)) ?_ ?_⟩⟩
      · cases q : H D2 with
        | none => rfl
        | some o =>
          rw [same_upd hD _ _ (sH _ _ q)] at hD2
          cases hD2
      · rw [upd_same]
        unfold laidF
        rw [if_pos hc', List.map_append]
        rfl
    · have hc' : ¬ ((Txt.words x).foldl (layStep z) ([], "")).2 ≠ "" := fun q => hc (decide_eq_true q)
      refine ⟨_, rfl, k L H2 sH hL0 ?_⟩
      unfold laidF
      rw [if_neg hc']
      exact hL2
end
end K46

namespace K46
open PySem L2 PyProof PyProof.Rows
/-! ### values put in for their names in braces -/
theorem find_c (x : Str) (c a : Nat) (ha : a ≤ x.length) : Txt.find3 x ⟨#[c]⟩ ((a : Nat) : Int) = -1 ∨ ∃ k : Nat, Txt.find3 x ⟨#[c]⟩ ((a : Nat) : Int) = (k : Int) ∧ a ≤ k ∧ k < x.length ∧ x.cps.getD k 0 = c := by
  have hf : fromIndex x.length ((a : Nat) : Int) = a := by
    unfold fromIndex
    split <;> omega
  rcases StrLaws.find3_spec x c ((a : Nat) : Int) with ⟨h, _⟩ | ⟨k, h1, h2, h3, h4, _⟩
  · exact .inl h
  · rw [hf] at h2
    exact .inr ⟨k, h1, h2, h3, h4⟩
theorem cutS_mid (x : Str) (a b : Nat) (hb : b ≤ x.length) (hab : a ≤ b) : (cutS x (some (a : Int)) (some (b : Int))).cps.toList = (x.cps.toList.drop a).take (b - a) := by
  unfold cutS
  have q1 : HT.sIx x.length 0 (some (a : Int)) = min a x.length := HT.sIx_nat x.length 0 a
  have q2 : HT.sIx x.length x.length (some (b : Int)) = min b x.length := HT.sIx_nat x.length x.length b
  rw [q1, q2, Nat.min_eq_left hb, Nat.min_eq_left (Nat.le_trans hab hb)]
theorem cutS_mid_len (x : Str) (a b : Nat) (hb : b ≤ x.length) (hab : a ≤ b) : (cutS x (some (a : Int)) (some (b : Int))).length = b - a := by
  rw [← len_tl, cutS_mid x a b hb hab, List.length_take, List.length_drop, len_tl]
  omega
def fillV (vl : List (Str × Str)) (k : Str) : Option Str := (vl.find? fun p => decide (p.1 = k)).map (·.2)
def kvF (vl : List (Str × Str)) : List (Key × V) := vl.map fun p => (Sum.inr p.1, .str p.2)
theorem val_kvF (k : Str) : ∀ vl : List (Str × Str), valV (kvF vl) (Sum.inr k : Key) = (fillV vl k).map V.str
  | [] => rfl
  | p :: r => by
    unfold fillV valV kvF
    rw [List.map_cons, List.find?_cons, List.find?_cons]
    by_cases h : p.1 = k
    · rw [decide_eq_true h, decide_eq_true (congrArg Sum.inr h)]
      rfl
    · rw [decide_eq_false h, decide_eq_false (fun z => h (Sum.inr.inj z))]
      exact val_kvF k r
def fillG (vl : List (Str × Str)) (x : Str) : Nat → Nat → Str → Str
  | 0, _, found => found
  | n + 1, a, found =>
    if a < x.length then
      if Txt.find3 x "{" (a : Int) < 0 ∨ Txt.find3 x "}" (Txt.find3 x "{" (a : Int)) < 0 then found ++ cutS x (some (a : Int)) none
      else match fillV vl (cutS x (some (Txt.find3 x "{" (a : Int) + 1)) (some (Txt.find3 x "}" (Txt.find3 x "{" (a : Int))))) with
        | some v => fillG vl x n (Txt.find3 x "}" (Txt.find3 x "{" (a : Int)) + 1).toNat (found ++ cutS x (some (a : Int)) (some (Txt.find3 x "{" (a : Int))) ++ v)
        | none => fillG vl x n (Txt.find3 x "{" (a : Int) + 1).toNat (found ++ cutS x (some (a : Int)) (some (Txt.find3 x "{" (a : Int) + 1)))
    else found
def fillF (vl : List (Str × Str)) (x : Str) : Str := fillG vl x (x.length + 1) 0 ""
theorem pair_find (x : Str) (a : Nat) (ha : a ≤ x.length) (h : ¬ (Txt.find3 x "{" (a : Int) < 0 ∨ Txt.find3 x "}" (Txt.find3 x "{" (a : Int)) < 0)) : ∃ s e : Nat, Txt.find3 x "{" (a : Int) = s ∧ Txt.find3 x "}" (s : Int) = e ∧ a ≤ s ∧ s < e ∧ e < x.length := by
  rcases find_c x 123 a ha with q | ⟨s, q1, q2, q3, q4⟩
  · exact absurd (.inl (by show Txt.find3 x ⟨#[123]⟩ (a : Int) < 0; rw [q]; decide)) h
  · have q1' : Txt.find3 x "{" (a : Int) = s := q1
    rcases find_c x 125 s (Nat.le_of_lt q3) with r | ⟨e, r1, r2, r3, r4⟩
    · exact absurd (.inr (by rw [q1']; show Txt.find3 x ⟨#[125]⟩ (s : Int) < 0; rw [r]; decide)) h
    · refine ⟨s, e, q1', r1, q2, ?_, r3⟩
      rcases Nat.lt_or_ge s e with z | z
      · exact z
      · have : e = s := by omega
        subst this
        rw [q4] at r4
        cases r4
def spFill : Sp := fun vs H Q _ => ∃ (x : Str) (d : Addr) (vl : List (Str × Str)), vs = [.str x, .ref d] ∧ H d = some (.dK (kvF vl)) ∧ x.length ≤ 100000 ∧ (∀ p ∈ vl, p.2.length ≤ 100) ∧ ∀ H', Same H H' → (fillF vl x).length ≤ 101 * x.length → Q (.str (fillF vl x)) H'
theorem fillV_mem {vl : List (Str × Str)} {k v : Str} (h : fillV vl k = some v) : ∃ p ∈ vl, p.2 = v := by
  unfold fillV at h
  obtain ⟨p, hp, e⟩ := Option.map_eq_some_iff.mp h
  exact ⟨p, List.mem_of_find?_eq_some hp, e⟩
section
variable {P : Program} {w : World} {K : PySem.W.Frag} {mg : Str → Option Value} {base : Heap}
abbrev nFill : List Str := ["text", "values", "found", "at", "start", "end", "name"]
theorem scFill : FnScope nFill ["text", "values"] (defScope sFilled) := ⟨rfl, rfl, rfl, by decide +kernel, rfl, by decide +kernel, by decide +kernel⟩
theorem ok_fill {f : Addr} {fd : FuncData} (F : Fun K "filled_in" "filled_in" sFilled f fd) (T : TxtB mg) : FnOk P w K mg base CX0 2 f fd ["text", "values"] spFill := by
  refine F.ok scFill (fun vs H Q E h => ?_) (fun cdv A outer s H vs Q E hr h => ?_)
  · obtain ⟨x, d, vl, rfl, _⟩ := h
    rfl
  · obtain ⟨x, d, vl, rfl, hd, hx, hv, k⟩ := h
    have hu1 := hu_of hr
    have hz6 : PySem.sizeLine = 16777216 := PySem.sizeLine_eq
    refine ⟨_, pss_mid (ps_asg (pe_tup (pa_cons pe_str (pa_cons pe_int pa_nil))) (pg_tup rfl (pgs_cons (pg_name (i := 2) scFill.nd rfl (Or.inl rfl)) (pgs_cons (pg_name (i := 3) scFill.nd rfl (Or.inl rfl)) pgs_nil))))
      (pss_mid (ps_while PassesOwn.never (pt_cmpR op_lt (pv 3) (pe_callB call_len_str (by rfl) T.len PySem.boot_len (pa_cons (pv 0) pa_nil)) (nomark _))
        (pss_mid (ps_set (i := 4) scFill.nd rfl (Or.inl rfl) (pe_bm PySem.F.plainAttrs_str PySem.F.slot_str_find PySem.F.type_str_find mt_find3 (pv 0) (pa_cons pe_str (pa_cons (pv 3) pa_nil))))
        (pss_mid (ps_set (i := 5) scFill.nd rfl (Or.inl rfl) (pe_bm PySem.F.plainAttrs_str PySem.F.slot_str_find PySem.F.type_str_find mt_find3 (pv 0) (pa_cons pe_str (pa_cons (pv 4) pa_nil))))
        (pss_mid (ps_if (PW.pt (pw_or (pt_cmpR op_lt (pv 4) pe_int (nomark _)) (pw_or1 (pt_cmpR op_lt (pv 5) pe_int (nomark _))))) (pss_one (ps_ret (pe_op op_add_str (pv 2) (pe_slice sl_str (pv 0) (po_some (pv 3)) po_none)))) pss_nil)
        (pss_mid (ps_set (i := 6) scFill.nd rfl (Or.inl rfl) (pe_slice sl_str (pv 0) (po_some (pe_op op_add (pv 4) pe_int)) (po_some (pv 5))))
        (pss_one (ps_if (pt_cmp (pc_din hu1 (pv 6) (pv 1)) (by rfl))
          (pss_one (ps_par (i := 2) (j := 3) (by rfl) scFill.nd rfl rfl (by decide) rfl rfl (pa_cons (pe_op op_add_str (pe_op op_add_str (pv 2) (pe_slice sl_str (pv 0) (po_some (pv 3)) (po_some (pv 4)))) (pe_dget hu1 (pv 1) (pv 6) (fun _ _ => rfl))) (pa_cons (pe_op op_add (pv 5) pe_int) pa_nil)) (by rfl)))
          (pss_one (ps_par (i := 2) (j := 3) (by rfl) scFill.nd rfl rfl (by decide) rfl rfl (pa_cons (pe_op op_add_str (pv 2) (pe_slice sl_str (pv 0) (po_some (pv 3)) (po_some (pe_op op_add (pv 4) pe_int)))) (pa_cons (pe_op op_add (pv 4) pe_int) pa_nil)) (by rfl))))))))))
      (pss_one (ps_ret (pv 2)))), ?_⟩
    refine ⟨fun σ' H' => σ' = [some (.str x), some (.ref d), some (.str ""), some (.int 0), none, none, none] ∧ Same H H', ?_, ?_⟩
    · exact ⟨(by show 2 ≤ sizeLine; decide), fun t ht => ⟨t, _, rfl, SqT.of upd_same, rfl, _, _, rfl, _, _, rfl, rfl, rfl, same_upd ht⟩⟩
    rintro _ H1 ⟨rfl, e1⟩
    have hd := e1 _ _ hd
    have k := k H1 e1
    refine ⟨fun σ' H' => ∃ r3 r4 r5 r6, σ' = [some (.str x), some (.ref d), some (.str (fillF vl x)), r3, r4, r5, r6] ∧ H1 = H' ∧ (fillF vl x).length ≤ 101 * x.length, ?_, ?_⟩
    · refine while_n (fun n σ' H' => ∃ (a : Nat) (fo : Str) (r4 r5 r6 : Option V), σ' = [some (.str x), some (.ref d), some (.str fo), some (.int a), r4, r5, r6] ∧ H1 = H' ∧ a ≤ x.length ∧ x.length < n + a ∧ fillG vl x n a fo = fillF vl x ∧ fo.length ≤ 101 * a) (x.length + 1) ⟨0, "", none, none, none, rfl, rfl, Nat.zero_le _, by omega, rfl, Nat.zero_le _⟩ ?_
      rintro n σ' H' ⟨a, fo, r4, r5, r6, rfl, rfl, ha, hn, hF, hlen⟩ Y hY1 hY0
      cases n with
      | zero => omega
      | succ n =>
      refine ⟨_, rfl, _, rfl, x, rfl, (by omega), _, _, rfl, rfl, _, rfl, ?_⟩
      by_cases hlt : a < x.length
      · have hdd : decide ((a : Int) < (x.length : Int)) = true := decide_eq_true (by omega)
        show Y (decide ((a : Int) < (x.length : Int))) H1
        rw [hdd]
        refine hY1 H1 ?_
        have hF' : (if Txt.find3 x "{" (a : Int) < 0 ∨ Txt.find3 x "}" (Txt.find3 x "{" (a : Int)) < 0 then fo ++ cutS x (some (a : Int)) none
      else match fillV vl (cutS x (some (Txt.find3 x "{" (a : Int) + 1)) (some (Txt.find3 x "}" (Txt.find3 x "{" (a : Int))))) with
        | some v => fillG vl x n (Txt.find3 x "}" (Txt.find3 x "{" (a : Int)) + 1).toNat (fo ++ cutS x (some (a : Int)) (some (Txt.find3 x "{" (a : Int))) ++ v)
        | none => fillG vl x n (Txt.find3 x "{" (a : Int) + 1).toNat (fo ++ cutS x (some (a : Int)) (some (Txt.find3 x "{" (a : Int) + 1)))) = fillF vl x := by
          rw [← hF]
          show _ = (if a < x.length then _ else fo)
          rw [if_pos hlt]
        refine ⟨fun σ' H' => σ' = [some (.str x), some (.ref d), some (.str fo), some (.int a), some (.int (Txt.find3 x "{" (a : Int))), r5, r6] ∧ H1 = H', ⟨_, rfl, rfl, _, rfl, x, "{", _, rfl, rfl, rfl, rfl⟩, ?_⟩
        rintro _ _ ⟨rfl, rfl⟩
        refine ⟨fun σ' H' => σ' = [some (.str x), some (.ref d), some (.str fo), some (.int a), some (.int (Txt.find3 x "{" (a : Int))), some (.int (Txt.find3 x "}" (Txt.find3 x "{" (a : Int)))), r6] ∧ H1 = H', ⟨_, rfl, rfl, _, rfl, x, "}", _, rfl, rfl, rfl, rfl⟩, ?_⟩
        rintro _ _ ⟨rfl, rfl⟩
        refine ⟨fun σ' H' => σ' = [some (.str x), some (.ref d), some (.str fo), some (.int a), some (.int (Txt.find3 x "{" (a : Int))), some (.int (Txt.find3 x "}" (Txt.find3 x "{" (a : Int)))), r6] ∧ H1 = H' ∧ ¬ (Txt.find3 x "{" (a : Int) < 0 ∨ Txt.find3 x "}" (Txt.find3 x "{" (a : Int)) < 0), ?_, ?_⟩
        · have ret : (Txt.find3 x "{" (a : Int) < 0 ∨ Txt.find3 x "}" (Txt.find3 x "{" (a : Int)) < 0) → Q (.str (fo ++ cutS x (some (a : Int)) none)) H1 ∧ fo.length + (cutS x (some (a : Int)) none).length ≤ PySem.sizeLine := fun hc => by
            rw [if_pos hc] at hF'
            have hl := cutS_from_len x a
            rw [hF']
            refine ⟨k ?_, by omega⟩
            rw [← hF', Str.length_append]
            omega
          refine ⟨_, rfl, _, _, rfl, rfl, _, rfl, ite2 (fun h1 => iteT ?_) (fun h1 => ⟨_, rfl, _, _, rfl, rfl, _, rfl, ite2 (fun h2 => ?_) (fun h2 => ⟨rfl, rfl, fun z => z.elim (fun q => h1 (decide_eq_true q)) (fun q => h2 (decide_eq_true q))⟩)⟩)⟩
          · obtain ⟨q1, q2⟩ := ret (.inl (of_decide_eq_true h1))
            exact ⟨_, rfl, _, rfl, _, rfl, _, rfl, x, rfl, (by omega), _, _, rfl, rfl, q2, q1⟩
          · obtain ⟨q1, q2⟩ := ret (.inr (of_decide_eq_true h2))
            exact ⟨_, rfl, _, rfl, _, rfl, _, rfl, x, rfl, (by omega), _, _, rfl, rfl, q2, q1⟩
        rintro _ _ ⟨rfl, rfl, hno⟩
        rw [if_neg hno] at hF'
        obtain ⟨st, en, e1, e2, c1, c2, c3⟩ := pair_find x a ha hno
        rw [e1] at hF' ⊢
        rw [e2] at hF' ⊢
        have ei : (st : Int) + 1 = ((st + 1 : Nat) : Int) := by omega
        have ej : (en : Int) + 1 = ((en + 1 : Nat) : Int) := by omega
        refine ⟨fun σ' H' => σ' = [some (.str x), some (.ref d), some (.str fo), some (.int a), some (.int st), some (.int en), some (.str (cutS x (some ((st : Int) + 1)) (some (en : Int))))] ∧ H1 = H', ?_, ?_⟩
        · exact ⟨_, rfl, _, rfl, _, _, rfl, rfl, _, rfl, _, rfl, _, rfl, x, rfl, (by omega), rfl, rfl⟩
        rintro _ _ ⟨rfl, rfl⟩
        have hg : DGet H1 d (.str (cutS x (some ((st : Int) + 1)) (some (en : Int)))) ((fillV vl (cutS x (some ((st : Int) + 1)) (some (en : Int)))).map V.str) := by
          rw [← val_kvF]
          exact DGet.k (k := (Sum.inr _ : Key)) hd
        refine ⟨_, rfl, _, rfl, d, _, rfl, hg, _, rfl, ?_⟩
        cases hfv : fillV vl (cutS x (some ((st : Int) + 1)) (some (en : Int))) with
        | some v =>
          rw [hfv] at hF' hg
          have hF2 : fillG vl x n ((en : Int) + 1).toNat (fo ++ cutS x (some (a : Int)) (some (st : Int)) ++ v) = fillF vl x := hF'
          have hc := cutS_mid_len x a st (by omega) c1
          obtain ⟨pv, hpv, ev⟩ := fillV_mem hfv
          have hvl := hv pv hpv
          rw [ev] at hvl
          refine iteT ?_
          refine ⟨_, rfl, _, rfl, _, rfl, _, rfl, _, rfl, _, rfl, x, rfl, (by omega), _, _, rfl, rfl, (by omega), _, rfl, _, rfl, d, _, rfl, hg, _, _, rfl, rfl, (by rw [Str.length_append]; omega), _, rfl, _, _, rfl, rfl, _, _, rfl, ?_⟩
          refine ⟨n, Nat.lt_succ_self n, en + 1, fo ++ cutS x (some (a : Int)) (some (st : Int)) ++ v, some (.int st), some (.int en), some (.str (cutS x (some ((st : Int) + 1)) (some (en : Int)))), ?_, rfl, by omega, by omega, ?_, ?_⟩
          · rw [← ej]
            rfl
          · rw [← hF2]
            have : ((en : Int) + 1).toNat = en + 1 := by omega
            rw [this]
          · rw [Str.length_append, Str.length_append]
            omega
        | none =>
          rw [hfv] at hF' hg
          have hF2 : fillG vl x n ((st : Int) + 1).toNat (fo ++ cutS x (some (a : Int)) (some ((st : Int) + 1))) = fillF vl x := hF'
          have hc := cutS_mid_len x a (st + 1) (by omega) (by omega)
          rw [← ei] at hc
          refine iteF ?_
          refine ⟨_, rfl, _, rfl, _, rfl, _, rfl, _, rfl, _, _, rfl, rfl, _, rfl, x, rfl, (by omega), _, _, rfl, rfl, (by omega), _, rfl, _, _, rfl, rfl, _, _, rfl, ?_⟩
          refine ⟨n, Nat.lt_succ_self n, st + 1, fo ++ cutS x (some (a : Int)) (some ((st : Int) + 1)), some (.int st), some (.int en), some (.str (cutS x (some ((st : Int) + 1)) (some (en : Int)))), ?_, rfl, by omega, by omega, ?_, ?_⟩
          · rw [← ei]
            rfl
          · rw [← hF2]
            have : ((st : Int) + 1).toNat = st + 1 := by omega
            rw [this]
          · rw [Str.length_append]
            omega
      · have hdd : decide ((a : Int) < (x.length : Int)) = false := decide_eq_false (by omega)
        show Y (decide ((a : Int) < (x.length : Int))) H1
        rw [hdd]
        have e : fillF vl x = fo := by
          rw [← hF]
          show (if a < x.length then _ else fo) = fo
          rw [if_neg hlt]
        refine hY0 H1 ⟨_, _, _, _, by rw [e], rfl, by rw [e]; omega⟩
    rintro _ _ ⟨_, _, _, _, rfl, rfl, hl⟩
    exact ⟨_, rfl, k hl⟩
end
end K46

/-! xs[::-1] of a list; a text in place -/
namespace XR
open PySem PySem.Spec PyProof.Rows L2
def tRevL (K : PySem.W.Frag) (te : TE) (tk : TO) : TE := fun σ H Q => te σ H fun x H1 => tk σ H1 fun o H2 => o = some (-1) ∧ ∃ a xs, x = .ref a ∧ SqL K H2 a xs ∧ ∀ p, H2 p = none → Q (.ref p) (upd H2 p (.lst xs.reverse))
theorem vals_reverse : ∀ {xs : List V} {us : List Value}, Vals xs us → Vals xs.reverse us.reverse
  | _, _, .nil => .nil
  | _, _, .cons r t => by
    rw [List.reverse_cons, List.reverse_cons]
    exact (vals_reverse t).append (.cons r .nil)
theorem pe_revL {X : Cx} {e : Expr} {te : TE} {st : Expr} {tk : TO} {pos p2 : Pos} (he : PE X e te) (hk : PO X (some st) tk) (hsub : ∀ a sl : Addr, subscripted (.Slice none none (some st) p2) false (.ref a) (.ref sl) = operate [.ref sl, .ref a] (getItem (.ref a) (.ref sl)) := by intros; with_unfolding_all rfl) : PE X (.Subscript e (.Slice none none (some st) p2) pos) (tRevL X.K te tk) := by
  refine ⟨fun pins s σ H Q I h => ?_⟩
  refine Subscript_ (thn (he.run pins s σ H _ I h) fun v s1 ⟨x, H1, I1, r1, q1⟩ => ?_)
  refine wpAny_Slice ?_
  rw [evalPart_none]
  refine wpAny_pure ?_
  refine wpAny_pure ?_
  refine thn (hk.run pins s1 σ H1 _ I1 q1) fun vk s3 ⟨o, H3, I3, pk, q3⟩ => ?_
  obtain ⟨rfl, a, xs, rfl, hx, q⟩ := q3
  cases r1
  have I4 : Inv X pins σ H3 { s3 with heap := s3.heap.push { cls := .type "slice", data := .fields #[.none, .none, vk] } } := I3.kept (t' := s3.toks) fun b ob q => Heap.get?_push_of_some _ q
  obtain ⟨its, r, ht, hz⟩ := I4.list hx
  have hlen := r.length
  show wpAny (model X.prog X.w) X.A (subscriptTail e (.Slice none none (some st) p2) (.ref a) (.ref s3.heap.objs.size)) (EP X pins σ Q) X.xe { s3 with heap := s3.heap.push { cls := .type "slice", data := .fields #[.none, .none, vk] } }
  refine tail_any (ops := [.ref s3.heap.objs.size, .ref a]) ht.isList.typeIs slot_list_getitem.lookup ?_ (hsub _ _)
  refine wpAny_getItem_list_slice ht.isList (Heap.IsSliceOf.new ..) .none .none pk (by decide) ?_ (by rw [List.size_toArray] <;> omega)
  rw [PySem.W.krv_pick]
  refine ⟨.ref _, _, I4.laid (t' := s3.toks) (o := .lst xs.reverse) (fun b ob q => Heap.get?_push_of_some _ q) (Nat.le_refl _) ?_, rfl, q _ (I4.hok.fresh (Nat.le_refl _))⟩
  exact ⟨by rw [List.length_reverse]; exact hz, _, 0, vals_reverse r, Heap.get?_push_size _ rfl⟩
theorem ip_addS {X : Cx} : PIp X .Add (fun x y H Q => ∃ i j, x = .str i ∧ y = .str j ∧ i.length + j.length ≤ sizeLine ∧ Q (.str (i ++ j)) H) := fun pins s σ H x y v u Q I r1 r2 h => iop_add_str pins s σ H x y v u Q I r1 r2 h
end XR
namespace XR
open PySem PySem.Spec PyProof PyProof.Rows L2
theorem op_mulS {X : Cx} : OpR X (binaryOp .Mult) (fun x y H Q => ∃ a n, x = .str a ∧ y = .int n ∧ MulOk a n ∧ Q (.str (Txt.mul a n)) H) := by
  intro pins s σ H x y v u Q I rx ry h
  obtain ⟨a, n, rfl, rfl, hok, q⟩ := h
  obtain ⟨t, rfl⟩ := rx
  obtain ⟨t', rfl⟩ := ry
  exact SB.mul hok fun t' k => ⟨.str _, H, I.tok _, ⟨_, rfl⟩, q⟩
end XR

/-! while 'text' in x: .. ; in the body a token is out -/
namespace XWhT
open PySem PySem.Spec PyProof.Rows L2 CwR
section
variable {X : Cx} {pos : Pos}
theorem ps_whInT {j : Nat} {c : Str} {o : Expr} {body : List Stmt} {te : TE} {r : R2} {tb : TS} {cpos bpos : Pos} (hp : PassesOwn (model X.prog X.w) X.A X.env X.xe) (ho : OpR X (compareOp .In) r) (he : PE X o te) (hb : PSsT X body tb) (h1 : behindInMarks .In o = false) :
    PS X (.While (.Compare (.Constant (.str c) j cpos) [.In] [o] bpos) body [] pos) (tWhile (tTest (tOp r (tC (.str c)) te)) tb) := by
  refine ⟨fun pins s σ H D I h => ?_⟩
  obtain ⟨W, ⟨m0, w0⟩, turn⟩ := h
  refine wpAny_While (codeAny_whileLoop (fun n s' => ∃ σ' H', Inv X pins σ' H' s' ∧ W n σ' H') ?_ m0 ⟨σ, H, I, w0⟩)
  rintro n s1 ⟨σ1, H1, I1, w1⟩
  have t1 := turn n σ1 H1 w1
  refine wpAny_passesOwn hp (wpAny_isTrue_Compare1 (Calls.Constant_str ?_) h1)
  refine wpAny_mono (PySem.wpAny_toks_of (n := 1) (by show 1 ≤ s1.toks + 1; omega) (he.run pins _ σ1 H1 _ (I1.tok (s1.toks + 1)) t1)) (fun w s2 q => ?_) fun _ _ z => z.2
  obtain ⟨hk, y, H2, I2, r2, q2⟩ := q
  refine wpAny_mono (PySem.wpAny_toks_of hk (ho pins s2 σ1 H2 (.str c) y (.str c s1.toks) w _ I2 ⟨s1.toks, rfl⟩ r2 q2)) (fun v s3 q => ?_) fun _ _ z => z.2
  obtain ⟨hk3, x3, H3, I3, r3, b, eb, q3⟩ := q
  subst eb
  obtain rfl : v = Value.bool b := r3
  refine wpAny_truthy_bool ?_
  cases b with
  | true =>
    obtain ⟨N, hN, q2⟩ := q3
    rw [if_pos rfl]
    refine wpAny_passesOwn hp (thn (hb pins s3 σ1 H3 _ hk3 I3 q2) fun f s3 q3 => ?_)
    cases f with
    | next =>
      obtain ⟨σ3, H3, I3, n3⟩ := q3
      obtain ⟨m', hm, w3⟩ := hN σ3 H3 n3
      exact ⟨m', hm, σ3, H3, I3, w3⟩
    | cont =>
      obtain ⟨σ3, H3, I3, n3⟩ := q3
      obtain ⟨m', hm, w3⟩ := hN σ3 H3 n3
      exact ⟨m', hm, σ3, H3, I3, w3⟩
    | brk => exact q3
    | ret v => exact q3
  | false =>
    rw [if_neg Bool.false_ne_true]
    exact wpAny_execs_nil ⟨σ1, H3, I3, q3⟩
end
end XWhT

namespace K46
open PySem L2 PyProof PyProof.Rows
/-! ### how long lines are -/
def sumL (ls : List Str) : Nat := (ls.map (·.length)).sum
theorem sumL_app (a b : List Str) : sumL (a ++ b) = sumL a + sumL b := by
  unfold sumL
  rw [List.map_append, List.sum_append]
theorem sumL_one (a : Str) : sumL [a] = a.length := by
  unfold sumL
  simp
theorem chop_sum {z : Nat} : ∀ (n : Nat) (w : Str), sumL (chop z n w).1 + (chop z n w).2.length = w.length
  | 0, w => by show 0 + w.length = _; omega
  | n + 1, w => by
    unfold chop
    by_cases h : z < w.length
    · rw [if_pos h]
      have ih := chop_sum (z := z) n (cutS w (some (z : Int)) none)
      have l := cutS_from_len w z
      have l2 : (cutS w none (some (z : Int))).length = z := by
        rw [← len_tl, cutS_to, List.length_take, len_tl]
        omega
      show sumL (_ :: _) + _ = _
      have e : ∀ (x : Str) (xs : List Str), sumL (x :: xs) = x.length + sumL xs := fun x xs => by
        unfold sumL
        rw [List.map_cons, List.sum_cons]
      rw [e, l2]
      show z + sumL (chop z n _).1 + (chop z n _).2.length = _
      omega
    · rw [if_neg h]
      show 0 + w.length = _
      omega
theorem closed_sum (fo : List Str) (li : Str) : sumL (if li ≠ "" then fo ++ [li] else fo) = sumL fo + li.length := by
  by_cases h : li ≠ ""
  · rw [if_pos h, sumL_app, sumL_one]
  · rw [if_neg h]
    have : li = "" := Classical.not_not.mp h
    subst this
    rfl
theorem lay_sum {z : Nat} (st : List Str × Str) (w : Str) : sumL (layStep z st w).1 + (layStep z st w).2.length ≤ sumL st.1 + st.2.length + w.length + 1 := by
  have hsp : (" " : Str).length = 1 := rfl
  unfold layStep
  split
  · show sumL st.1 + (st.2 ++ " " ++ w).length ≤ _
    rw [Str.length_append, Str.length_append, hsp]
    omega
  · split
    · show sumL (_ ++ (chop z _ _).1) + (chop z _ _).2.length ≤ _
      rw [sumL_app, closed_sum]
      have h1 := chop_sum (z := z) w.length (cutS w (some (roomOf z st.2 : Int)) none)
      have h2 := cutS_from_len w (roomOf z st.2)
      have h3 : (filledL z st.2 w).length ≤ st.2.length + 1 + (w.length - (w.length - roomOf z st.2)) := by
        unfold filledL
        rw [Str.length_append]
        split
        · rw [Str.length_append, hsp]
          have h4 : (cutS w none (some (roomOf z st.2 : Int))).length = min (roomOf z st.2) w.length := by
            rw [← len_tl, cutS_to, List.length_take, len_tl]
          omega
        · show st.2.length + 0 ≤ _
          omega
      omega
    · show sumL (_ ++ (chop z _ _).1) + (chop z _ _).2.length ≤ _
      rw [sumL_app, closed_sum]
      have h1 := chop_sum (z := z) w.length w
      omega
theorem fold_sum {z : Nat} : ∀ (ws : List Str) (st : List Str × Str), sumL (ws.foldl (layStep z) st).1 + (ws.foldl (layStep z) st).2.length ≤ sumL st.1 + st.2.length + wsm ws
  | [], st => by
    show _ ≤ _ + 0
    exact Nat.le_refl _
  | w :: ws, st => by
    have ih := fold_sum (z := z) ws (layStep z st w)
    have h := lay_sum (z := z) st w
    have e : wsm (w :: ws) = w.length + 1 + wsm ws := by
      unfold wsm
      rw [List.map_cons, List.sum_cons, List.length_cons]
      omega
    rw [List.foldl_cons, e]
    omega
theorem laid_sum (z : Nat) (ws : List Str) : sumL (laidF z ws) ≤ wsm ws := by
  have h := fold_sum (z := z) ws ([], "")
  have e : sumL ([] : List Str) + ("" : Str).length = 0 := rfl
  unfold laidF
  rw [closed_sum]
  show _ ≤ _
  have h' : sumL (ws.foldl (layStep z) ([], "")).1 + (ws.foldl (layStep z) ([], "")).2.length ≤ (sumL ([] : List Str) + ("" : Str).length) + wsm ws := h
  rw [e] at h'
  omega
theorem fold_len {z : Nat} (hz : 1 ≤ z) : ∀ (ws : List Str) (st : List Str × Str) (n : Nat), st.1.length ≤ n → st.2.length ≤ n → (ws.foldl (layStep z) st).1.length ≤ n + wsm ws
  | [], st, n, h, _ => h
  | w :: ws, st, n, h1, h2 => by
    obtain ⟨a, b⟩ := lay_len hz (w := w) h1 h2
    have ih := fold_len hz ws (layStep z st w) (n + w.length + 1) a b
    have e : wsm (w :: ws) = w.length + 1 + wsm ws := by
      unfold wsm
      rw [List.map_cons, List.sum_cons, List.length_cons]
      omega
    rw [List.foldl_cons, e]
    omega
theorem laid_count {z : Nat} (hz : 1 ≤ z) (ws : List Str) : (laidF z ws).length ≤ wsm ws + 1 := by
  have h := fold_len hz ws ([], "") 0 (Nat.le_refl _) (Nat.le_refl _)
  unfold laidF
  split
  · rw [List.length_append]
    show _ + 1 ≤ _
    omega
  · omega
/-! ### texts described -/
def spcs (ind : Int) : Str := Txt.mul " " ind
def sizeOf (wd ind : Int) : Nat := ((if 11 > wd - ind then 11 else wd - ind) - ind).toNat
def rowsF (x pr : Str) (wd ind : Int) : List Str := laidF (sizeOf wd ind) (Txt.words (fillF [("prog", pr)] x))
def descF (x pr : Str) (wd ind : Int) : Str := Txt.join "\n" ((rowsF x pr wd ind).map fun l => spcs ind ++ l) ++ "\n\n"
structure PrT (CP : Addr) (H : Hp) (p : Addr) (pr : Str) (us ds ep : V) (wd : Int) (aL la le ls : Addr) : Prop where
  ex : ∃ (dx : Addr) (pf cf : Str) (ab ee : Bool) (fi lf dd : Addr), H p = some (.ins CP dx (pFs pr pf cf us ds ep wd ab ee aL fi la lf le dd ls))
theorem PrT.keep {CP : Addr} {H H' : Hp} {p : Addr} {pr : Str} {us ds ep : V} {wd : Int} {aL la le ls : Addr} (h : PrT CP H p pr us ds ep wd aL la le ls) (e : Same H H') : PrT CP H' p pr us ds ep wd aL la le ls := by
  obtain ⟨dx, pf, cf, ab, ee, fi, lf, dd, q⟩ := h.ex
  exact ⟨dx, pf, cf, ab, ee, fi, lf, dd, e _ _ q⟩
def spDesc (K : PySem.W.Frag) (CP : Addr) : Sp := fun vs H Q _ => ∃ (x pr : Str) (p aL la le ls : Addr) (us ds ep : V) (wd ind : Int), vs = [.str x, .ref p, .int ind] ∧ PrT CP H p pr us ds ep wd aL la le ls ∧ (ind = 0 ∨ ind = 2) ∧ 1 ≤ wd ∧ wd ≤ 10000 ∧ x.length ≤ 900 ∧ pr.length ≤ 100 ∧ (∀ H', SqT K H' aL []) ∧ ∀ H', Same H H' → (descF x pr wd ind).length ≤ 401000 → Q (.str (descF x pr wd ind)) H'
theorem str_mul : MulOk " " 0 ∧ MulOk " " 2 ∧ (Txt.mul " " 0).length = 0 ∧ (Txt.mul " " 2).length = 2 := by
  unfold MulOk
  decide +kernel
theorem spcs_len {ind : Int} (h : ind = 0 ∨ ind = 2) : (spcs ind).length ≤ 2 ∧ MulOk " " ind := by
  rcases h with rfl | rfl
  · exact ⟨by show (Txt.mul " " 0).length ≤ 2; rw [str_mul.2.2.1]; decide, str_mul.1⟩
  · exact ⟨by show (Txt.mul " " 2).length ≤ 2; rw [str_mul.2.2.2]; decide, str_mul.2.1⟩
theorem sum_pre (ind : Int) (h : ind = 0 ∨ ind = 2) : ∀ ls : List Str, ((ls.map fun l => spcs ind ++ l).map (·.length)).sum ≤ sumL ls + 2 * ls.length
  | [] => Nat.zero_le _
  | l :: ls => by
    have ih := sum_pre ind h ls
    have := (spcs_len h).1
    have e : sumL (l :: ls) = l.length + sumL ls := by
      unfold sumL
      rw [List.map_cons, List.sum_cons]
    rw [List.map_cons, List.map_cons, List.sum_cons, Str.length_append, e, List.length_cons]
    omega
theorem join_len (a : Str) (ys : List Str) : (Txt.join a ys).length ≤ (ys.map (·.length)).sum + ys.length * a.length := by
  show (Builtin.Str.glued a ys).length ≤ _
  rw [StrLaws.glued_eq_join]
  exact StrLaws.join_length_le a ys
section
variable {P : Program} {w : World} {K : PySem.W.Frag} {mg : Str → Option Value} {base : Heap}
abbrev nDesc : List Str := ["text", "parser", "indent", "lines", "line"]
theorem scDesc : FnScope nDesc ["text", "parser", "indent"] (defScope sDescribed) := ⟨rfl, rfl, rfl, by decide +kernel, rfl, by decide +kernel, by decide +kernel⟩
theorem ok_desc {f fF fL CP : Addr} {fd fdF fdL : FuncData} (F : Fun K "described" "described" sDescribed f fd) (T : TxtB mg) (zMax : mg "max" = none) (cP : ClsN K CP parF) (Fi : At P w K mg base "filled_in" 2 ["text", "values"] spFill fF fdF) (La : At P w K mg base "laid_out" 1 ["text", "size"] spLaid fL fdL) :
    FnOk P w K mg base CX0 3 f fd ["text", "parser", "indent"] (spDesc K CP) := by
  refine F.ok scDesc (fun vs H Q E h => ?_) (fun cdv A outer s H vs Q E hr h => ?_)
  · obtain ⟨x, pr, p, aL, la, le, ls, us, ds, ep, wd, ind, rfl, _⟩ := h
    rfl
  · obtain ⟨x, pr, p, aL, la, le, ls, us, ds, ep, wd, ind, rfl, hp, hind, hw1, hw2, hx, hpr, hL, k⟩ := h
    have hz6 : PySem.sizeLine = 16777216 := PySem.sizeLine_eq
    have r1 : Room 1 (A.deeper (PyProof.Rows.envOfC "described" (defScope sDescribed) s.heap.objs.size f cdv)) := hr.mono (by decide)
    obtain ⟨dx, pf, cf, ab, ee, fi, lf, dd, hP⟩ := hp.ex
    refine ⟨_, pss_mid (ps_set (i := 0) scDesc.nd rfl (Or.inl rfl) (pe_call Fi.ok hr rfl Fi.m Fi.k Fi.b .nil pass0 (pa_cons (pv 0) (pa_cons (pe_disp (pps_cons pe_str (pe_fld (pv 1) rfl) pps_nil) (by rfl) (by rfl) (fun z => by cases z) (by decide)) pa_nil))))
      (pss_mid (ps_if (PW.pt (pw_or (pt_cmpR op_in_seq pe_str (pe_fld (pv 1) rfl) (by rfl)) (pw_or1 (pt_cmpR op_in_seq pe_str (pe_fld (pv 1) rfl) (by rfl))))) pss_never
        (pss_one (ps_set (i := 3) scDesc.nd rfl (Or.inl rfl) (pe_call La.ok r1 rfl La.m La.k La.b .nil pass0 (pa_cons (pv 0) (pa_cons (pe_op op_sub (pe_callB (call_max2 rfl) (by rfl) zMax (by decide +kernel) (pa_cons (pe_op op_sub (pe_fld (pv 1) rfl) (pv 2)) (pa_cons pe_int pa_nil))) (pv 2)) pa_nil))))))
      (pss_one (ps_ret (pe_op op_add_str (pe_bm PySem.F.plainAttrs_str PySem.F.slot_str_join PySem.F.type_str_join mt_join pe_str (pa_cons (pe_lc (own := [("line", 4)]) (g := gName 4) (tt := tYes) (te := tOp _ (tOp _ (tC (.str " ")) (tVar 2)) (tVar 4)) rfl scDesc.nd (pi_list (pv 3)) (blkOk_by (N := nDesc) (sc := defScope sDescribed) (by decide +kernel)) (fun _ _ _ _ _ => pg_name (i := 4) scDesc.nd rfl (Or.inl rfl)) (fun _ _ _ _ _ => pts_nil) (fun _ _ _ _ _ => pe_op op_add_str (pe_op XR.op_mulS pe_str (pv 2)) (pv 4))) pa_nil)) pe_str)))), ?_⟩
    refine ⟨fun σ' H' => σ' = [some (.str (fillF [("prog", pr)] x)), some (.ref p), some (.int ind), none, none] ∧ Same H H' ∧ (fillF [("prog", pr)] x).length ≤ 101 * x.length, ?_, ?_⟩
    · refine ⟨_, rfl, fun q hq => ?_⟩
      have eq := same_upd (o := .dK []) hq
      refine ⟨_, rfl, p, CP, dx, _, _, rfl, eq _ _ hP, cP.cl, cP.no _ (by decide +kernel), rfl, upd_same, [(Sum.inr "prog", .str pr)], rfl, (by show 1 ≤ 15; decide), ?_⟩
      have e2 : Same H (upd (upd H q (.dK [])) q (.dK (mergeK [] [((Sum.inr ("prog" : Str) : Key), .str pr)]))) := same_mut eq hq
      exact ⟨x, q, [("prog", pr)], rfl, upd_same, (by omega), (fun y hy => by rw [List.mem_singleton.mp hy]; exact hpr), fun H' e hl => ⟨rfl, e2.trans e, hl⟩⟩
    rintro _ H1 ⟨rfl, e1, hl1⟩
    have hP1 := e1 _ _ hP
    have hsz : 1 ≤ sizeOf wd ind ∧ sizeOf wd ind ≤ 100000 ∧ ((if 11 > wd - ind then 11 else wd - ind) - ind : Int) = (sizeOf wd ind : Nat) := by
      unfold sizeOf
      rcases hind with rfl | rfl
      · split <;> omega
      · split <;> omega
    have hwt : wsm (Txt.words (fillF [("prog", pr)] x)) ≤ (fillF [("prog", pr)] x).length + 1 := StrLaws.words_weight _
    have hsum := laid_sum (sizeOf wd ind) (Txt.words (fillF [("prog", pr)] x))
    have hcnt := laid_count hsz.1 (Txt.words (fillF [("prog", pr)] x))
    refine ⟨fun σ' H' => ∃ D, H1 D = none ∧ σ' = [some (.str (fillF [("prog", pr)] x)), some (.ref p), some (.int ind), some (.ref D), none] ∧ Same H1 H' ∧ H' D = some (.lst ((rowsF x pr wd ind).map V.str)), ?_, ?_⟩
    · refine ⟨_, rfl, p, CP, dx, _, _, rfl, hP1, cP.cl, cP.no _ (by decide +kernel), rfl, aL, [], rfl, .inr (hL _), rfl, rfl, _, rfl, iteF ?_⟩
      refine ⟨_, rfl, p, CP, dx, _, _, rfl, hP1, cP.cl, cP.no _ (by decide +kernel), rfl, aL, [], rfl, .inr (hL _), rfl, rfl, _, rfl, iteF ?_⟩
      refine ⟨_, rfl, _, rfl, p, CP, dx, _, _, rfl, hP1, cP.cl, cP.no _ (by decide +kernel), rfl, _, rfl, _, _, rfl, rfl, _, _, rfl, _, rfl, _, _, rfl, rfl, ?_⟩
      exact ⟨_, sizeOf wd ind, congrArg (fun i => [V.str (fillF [("prog", pr)] x), V.int i]) hsz.2.2, hsz.1, hsz.2.1, (by omega), fun D H' e hD h => ⟨D, hD, rfl, e, h⟩⟩
    rintro _ H2 ⟨D, hD0, rfl, e2, hD⟩
    have hsp := spcs_len hind
    have hrl : (rowsF x pr wd ind).length ≤ 100002 := by
      unfold rowsF
      omega
    refine ⟨rfl, _, rfl, D, rfl, ⟨_, SqL.of hD⟩, fun D2 hD2 => ?_⟩
    refine lc_list (K := K) (a := D) (xs := (rowsF x pr wd ind).map V.str) (fun i H' => Same H2 H' ∧ H' D2 = some (.lst ((((rowsF x pr wd ind).take i).map fun l => spcs ind ++ l).map V.str))) ⟨same_upd hD2, upd_same⟩ (fun i H' _ h => SqL.of (h.1 _ _ hD)) (fun i y H' hy h => ?_) (fun H' h => ?_)
    · obtain ⟨l, hl, rfl⟩ := str_at hy
      obtain ⟨h1, h2⟩ := h
      have hi : i < (rowsF x pr wd ind).length := (List.getElem?_eq_some_iff.mp hl).1
      have hll : l.length ≤ 100002 := by
        have h4 : ∀ (ls : List Str) (i : Nat) (l : Str), ls[i]? = some l → l.length ≤ sumL ls := fun ls => by
          induction ls with
          | nil => intro i l e; simp at e
          | cons a ls ih =>
            intro i l e
            have ec : sumL (a :: ls) = a.length + sumL ls := by
              unfold sumL
              rw [List.map_cons, List.sum_cons]
            cases i with
            | zero =>
              simp at e
              subst e
              omega
            | succ i =>
              have := ih i l (by simpa using e)
              omega
        have := h4 _ _ _ hl
        unfold rowsF at this
        omega
      refine ⟨rfl, _, rfl, _, _, rfl, rfl, hsp.2, _, rfl, _, _, rfl, rfl, (by have := hsp.1; unfold spcs at this; omega), _, h2, (by rw [List.length_map, List.length_map, List.length_take]; omega), same_mut h1 hD2, ?_⟩
      rw [upd_same, take_more' hl, List.map_append, List.map_append]
      rfl
    · obtain ⟨h1, h2⟩ := h
      rw [List.length_map, List.take_length] at h2
      have hs2 := sum_pre ind hind (rowsF x pr wd ind)
      have hs3 : sumL (rowsF x pr wd ind) ≤ 100002 := by
        unfold rowsF
        omega
      have hjl : ("\n" : Str).length = 1 := rfl
      have hj := join_len "\n" ((rowsF x pr wd ind).map fun l => spcs ind ++ l)
      rw [List.length_map, hjl] at hj
      refine ⟨"\n", D2, (rowsF x pr wd ind).map (fun l => spcs ind ++ l), rfl, rfl, .inl (SqL.of h2), (by rw [List.length_map, hjl]; omega), ?_⟩
      have hn2 : ("\n\n" : Str).length = 2 := rfl
      refine ⟨_, _, rfl, rfl, (by rw [hn2]; omega), k H' (e1.trans (e2.trans h1)) ?_⟩
      unfold descF
      rw [Str.length_append, hn2]
      omega
/-! ### line feeds squeezed -/
def SqTo : Nat → Str → Str → Prop
  | 0, x, y => (!(Builtin.Str.occurrences x "\n\n\n" 0 x.length 1).isEmpty) = false ∧ y = x
  | n + 1, x, y => (!(Builtin.Str.occurrences x "\n\n\n" 0 x.length 1).isEmpty) = true ∧ (Txt.replace x "\n\n\n" "\n\n").length ≤ 5000000 ∧ SqTo n (Txt.replace x "\n\n\n" "\n\n") y
def spSq : Sp := fun vs H Q _ => ∃ (x y : Str) (n : Nat), vs = [.str x] ∧ SqTo n x y ∧ x.length ≤ 5000000 ∧ Q (.str (Txt.stripChars y "\n" ++ "\n")) H
theorem sq_end : ∀ {n : Nat} {x y : Str}, SqTo n x y → x.length ≤ 5000000 → y.length ≤ 5000000
  | 0, x, y, h, hx => by
    rw [h.2]
    exact hx
  | n + 1, x, y, h, _ => sq_end h.2.2 h.2.1
theorem scSq : FnScope ["text"] ["text"] (defScope sSqueezed) := ⟨rfl, rfl, rfl, by decide +kernel, rfl, by decide +kernel, by decide +kernel⟩
theorem ok_sq {f : Addr} {fd : FuncData} (F : Fun K "squeezed" "squeezed" sSqueezed f fd) : FnOk P w K mg base CX0 1 f fd ["text"] spSq := by
  refine F.ok scSq (fun vs H Q E h => ?_) (fun cdv A outer s H vs Q E hr h => ?_)
  · obtain ⟨x, y, n, rfl, _⟩ := h
    rfl
  · obtain ⟨x, y, n, rfl, hs, hx, k⟩ := h
    have hz6 : PySem.sizeLine = 16777216 := PySem.sizeLine_eq
    refine ⟨_, pss_mid (XWhT.ps_whInT PassesOwn.never op_in_str (pv 0) (CwR.psst_one (XTok.pst_set (i := 0) scSq.nd rfl (Or.inl rfl) (CwR.pet_replC (pv 0)))) (by rfl))
      (pss_one (ps_ret (pe_op op_add_str (pe_bm PySem.F.plainAttrs_str PySem.F.slot_str_strip PySem.F.type_str_strip mt_stripChars (pv 0) (pa_cons pe_str pa_nil)) pe_str))), ?_⟩
    refine ⟨fun σ' H' => σ' = [some (.str y)] ∧ H = H', ?_, ?_⟩
    · refine while_n (fun m σ' H' => ∃ x', σ' = [some (.str x')] ∧ H = H' ∧ SqTo m x' y ∧ x'.length ≤ 5000000) n ⟨x, rfl, rfl, hs, hx⟩ ?_
      rintro m σ' H' ⟨x', rfl, rfl, hs', hx'⟩ Y hY1 hY0
      refine ⟨_, rfl, _, _, rfl, rfl, _, rfl, ?_⟩
      cases m with
      | zero =>
        obtain ⟨h1, h2⟩ := hs'
        show Y (!(Builtin.Str.occurrences x' "\n\n\n" 0 x'.length 1).isEmpty) H
        rw [h1]
        exact hY0 H ⟨by rw [h2], rfl⟩
      | succ m =>
        obtain ⟨h1, h2, h3⟩ := hs'
        show Y (!(Builtin.Str.occurrences x' "\n\n\n" 0 x'.length 1).isEmpty) H
        rw [h1]
        have hn2 : ("\n\n" : Str).length = 2 := rfl
        exact hY1 H ⟨_, rfl, x', rfl, (by rw [hn2]; omega), m, Nat.lt_succ_self m, _, rfl, rfl, h3, h2⟩
    rintro _ _ ⟨rfl, rfl⟩
    have hy := sq_end hs hx
    have hst : (Txt.stripChars y "\n").length ≤ y.length := by
      unfold Txt.stripChars Txt.stripBy
      split
      · exact Nat.le_refl _
      · unfold stripped
        rw [← len_tl, StrLaws.strSub_toList, List.length_take, List.length_drop, len_tl]
        omega
    have hn1 : ("\n" : Str).length = 1 := rfl
    exact ⟨_, rfl, rfl, y, "\n", rfl, rfl, (by omega), _, _, rfl, rfl, (by rw [hn1]; omega), k⟩
end
end K46

namespace K46
open PySem L2 PyProof.Rows
/-! ### join, where nothing clashes -/
theorem valV_cons {j k : Key} {v : V} {r : List (Key × V)} : valV ((j, v) :: r) k = if j = k then some v else valV r k := by
  unfold valV
  rw [List.find?_cons]
  by_cases e : j = k
  · rw [decide_eq_true e, if_pos e]
    rfl
  · rw [decide_eq_false e, if_neg e]
theorem ne_inr {a b : Str} (h : a ≠ b) : ¬ (Sum.inr a : Key) = Sum.inr b := fun z => h (Sum.inr.inj z)
theorem key_isSome {w : Str} : ∀ {kvs : List (Key × V)} {ks : List Str}, kvs.map (·.1) = ks.map Sum.inr → (valV kvs (Sum.inr w : Key)).isSome = decide (w ∈ ks)
  | [], [], _ => rfl
  | [], k :: ks, h => nomatch h
  | p :: kvs, [], h => nomatch h
  | (j, v) :: kvs, k :: ks, h => by
    have h1 : j = Sum.inr k := (List.cons.inj h).1
    have ih := key_isSome (w := w) (List.cons.inj h).2
    rw [valV_cons, h1]
    by_cases e : k = w
    · rw [if_pos (congrArg Sum.inr e), e]
      simp
    · rw [if_neg (ne_inr e), ih]
      have : w ≠ k := fun z => e z.symm
      simp [this]
def kO (O : Addr) (f : Str) : Key × V := (Sum.inr f, .ref O)
theorem filter_more {α : Type} {f : α → Bool} {l : List α} {i : Nat} {x : α} (h : l[i]? = some x) : (l.take (i + 1)).filter f = (l.take i).filter f ++ (if f x = true then [x] else []) := by
  rw [take_more' h, List.filter_append]
  cases e : f x <;> simp [e]
theorem rest_none {rest : List (Key × V)} {rk : List Str} {x : Str} (hr : rest.map (·.1) = rk.map Sum.inr) (hx : x ∉ rk) : valV rest (Sum.inr x : Key) = none := by
  have h := key_isSome (w := x) hr
  rw [decide_eq_false hx] at h
  exact Option.not_isSome_iff_eq_none.mp (by rw [h]; exact Bool.false_ne_true)
theorem nodup_take : ∀ {l : List Str} {i : Nat} {x : Str}, l.Nodup → l[i]? = some x → x ∉ l.take i := fun {l i x} nd hx hm => by
  have hi := (List.getElem?_eq_some_iff.mp hx).1
  have e := (List.getElem?_eq_some_iff.mp hx).2
  obtain ⟨j, hj, ej⟩ := List.getElem_of_mem hm
  rw [List.getElem_take] at ej
  rw [List.length_take] at hj
  have := (List.getElem_inj nd).mp (ej.trans e.symm)
  omega
/-- where a parser's parts stand -/
structure PAd where
  p : Addr
  dx : Addr
  la : Addr
  lf : Addr
  le : Addr
  dd : Addr
  ls : Addr
  s0 : Addr
  s1 : Addr
  m0 : Addr
  m1 : Addr
  aL : Addr
  fi : Addr
  ab : Bool
  pf : Str
  ee : Bool
  pr : Str
  us : V
  ds : V
  ep : V
  wd : Int
structure ParAt (CP CS : Addr) (a : PAd) (H : Hp) (kvs : List (Key × V)) (as ns ms : List V) : Prop where
  px : H a.p = some (.ins CP a.dx (pFs a.pr a.pf "error" a.us a.ds a.ep a.wd a.ab a.ee a.aL a.fi a.la a.lf a.le a.dd a.ls))
  hla : H a.la = some (.lst as)
  hlf : H a.lf = some (.dK kvs)
  hdd : H a.dd = some (.dK [])
  hls : H a.ls = some (.lst [.ref a.s0, .ref a.s1])
  hs0 : ∃ d v, H a.s0 = some (.ins CS d (sFs (.ref a.p) v .non a.m0))
  hs1 : ∃ (d : Addr) (v : TiO), H a.s1 = some (.ins CS d (sFs (.ref a.p) v.1 .non a.m1))
  hm0 : H a.m0 = some (.lst ns)
  hm1 : H a.m1 = some (.lst ms)
  hle : H a.le = some (.lst [])
  n1 : a.la ≠ a.m1 ∧ a.la ≠ a.m0 ∧ a.m0 ≠ a.m1
  n2 : a.ls ≠ a.la ∧ a.ls ≠ a.m0 ∧ a.ls ≠ a.m1
  n4 : a.lf ≠ a.dd
  n5 : a.le ≠ a.la ∧ a.le ≠ a.m0 ∧ a.le ≠ a.m1
theorem ParAt.keep {CP CS : Addr} {a : PAd} {H H' : Hp} {kvs : List (Key × V)} {as ns ms : List V} (h : ParAt CP CS a H kvs as ns ms) (e : Same H H') : ParAt CP CS a H' kvs as ns ms := by
  obtain ⟨d, v, s⟩ := h.hs1
  obtain ⟨d0, v0, s0⟩ := h.hs0
  exact ⟨e _ _ h.px, e _ _ h.hla, e _ _ h.hlf, e _ _ h.hdd, e _ _ h.hls, ⟨d0, v0, e _ _ s0⟩, ⟨d, v, e _ _ s⟩, e _ _ h.hm0, e _ _ h.hm1, e _ _ h.hle, h.n1, h.n2, h.n4, h.n5⟩
def okA (fl : List Str) : Prop := fl.length ≤ 60
def spJoin (CP CS CA : Addr) : Sp := fun vs H Q _ => ∃ (a : PAd) (A : Addr) (as ns ms : List V) (rk : List Str) (rest : List (Key × V)) (dA TA : Addr) (afs : List (Str × V)) (fl : List Str), vs = [.ref a.p, .ref A, .non, .non] ∧
  ParAt CP CS a H rest as ns ms ∧ rest.map (·.1) = rk.map Sum.inr ∧ H A = some (.ins CA dA afs) ∧ afs.lookup ("flags" : Str) = some (V.ref TA) ∧ afs.lookup ("is_option" : Str) = some (V.bl (!fl.isEmpty)) ∧ H TA = some (.tup (fl.map V.str)) ∧ okA fl ∧ fl.Nodup ∧ (∀ x ∈ fl, x ∉ rk) ∧
  as.length ≤ 100 ∧ ns.length ≤ 100 ∧ ms.length ≤ 100 ∧ rk.length ≤ 100 ∧
  ∀ H' ns' ms', (∀ b o, H b = some o → b ≠ a.la → b ≠ a.lf → b ≠ a.m0 → b ≠ a.m1 → H' b = some o) → ns' = ns ++ (if fl.isEmpty = true then [.ref A] else []) → ms' = ms ++ (if fl.isEmpty = true then [] else [.ref A]) → ParAt CP CS a H' (rest ++ fl.map (kO A)) (as ++ [.ref A]) ns' ms' → Q .non H'
section
variable {P : Program} {w : World} {K : PySem.W.Frag} {mg : Str → Option Value} {base : Heap}
abbrev nJoin : List Str := ["self", "argument", "section", "exclusive", "flag", "clash", "home"]
theorem scJoin : FnScope nJoin ["self", "argument", "section", "exclusive"] (defScope sJoin) := ⟨rfl, rfl, rfl, by decide +kernel, rfl, by decide +kernel, by decide +kernel⟩
theorem ok_join {f CP CS CA : Addr} {fd : FuncData} (F : Fun K "join" "Parser.join" sJoin f fd) (T : TxtB mg) (cP : ClsN K CP parF) (cA : ClsN K CA argF) (cS : ClsN K CS secF) : FnOk P w K mg base CX0 2 f fd ["self", "argument", "section", "exclusive"] (spJoin CP CS CA) := by
  refine F.ok scJoin (fun vs H Q E h => ?_) (fun cdv A0 outer s H vs Q E hr h => ?_)
  · obtain ⟨a, A, as, ns, ms, rk, rest, dA, TA, afs, fl, rfl, _⟩ := h
    rfl
  · obtain ⟨a, A, as, ns, ms, rk, rest, dA, TA, afs, fl, rfl, hp, hrk, hA, fA, iA, hTA, okf, nd, dis, la1, ln1, lm1, lr1, k⟩ := h
    have hu : (A0.deeper (PyProof.Rows.envOfC "Parser.join" (defScope sJoin) s.heap.objs.size f cdv)).units + 64 < cLine := hr.units
    have hu1 := hu_of hr
    refine ⟨_, pss_mid (ps_set (i := 5) scJoin.nd rfl (Or.inl rfl) (pe_callTy call_tuple_of (by rfl) T.tuple (by decide +kernel) (pa_cons (pe_lc (own := [("flag", 4)]) (g := gName 4) (tt := tB (tDIn (tVar 4) (tFld K (tVar 0) "flags"))) (te := tVar 4) rfl scJoin.nd (pi_tup (pe_fld (pv 1) rfl)) (blkOk_by (N := nJoin) (sc := defScope sJoin) (by decide +kernel)) (fun _ _ _ _ _ => pg_name (i := 4) scJoin.nd rfl (Or.inl rfl)) (fun _ _ _ _ _ => by exact pts_one (pt_cmp (pc_din (by exact hu1) (pv 4) (by exact pe_fld (pv 0) rfl)))) (fun _ _ _ _ _ => by exact pv 4)) pa_nil)))
      (pss_mid (ps_if (PW.pt (pw_and (pt_cmpR (op_neD hu) (pv 5) (pe_tup pa_nil) (nomark _)) pw_never)) pss_never pss_nil)
      (pss_mid (ps_for PassesOwn.never rfl (pi_tup (pv 5)) (pg_name (i := 4) scJoin.nd rfl (Or.inl rfl)) pss_never)
      (pss_mid (ps_expr (pe_bm PySem.F.plainAttrs_list PySem.F.slot_list_append PySem.F.type_list_append mt_append (pe_fld (pv 0) rfl) (pa_cons (pv 1) pa_nil)))
      (pss_mid (ps_for PassesOwn.never rfl (pi_tup (pe_fld (pv 1) rfl)) (pg_name (i := 4) scJoin.nd rfl (Or.inl rfl)) (pss_one (ps_dput hu1 (pe_fld (pv 0) rfl) (pv 4) (pv 1) rfl)))
      (pss_mid (ps_set (i := 6) scJoin.nd rfl (Or.inl rfl) (pe_ifExp (pt_cmp (pc_isN (pv 2))) (pe_ix ix_list (pe_fld (pv 0) rfl) (pe_callTy call_int1 (by rfl) T.int (by decide +kernel) (pa_cons (pe_fld (pv 1) rfl) pa_nil)) (fun _ _ => rfl)) pe_never))
      (pss_mid (ps_expr (pe_bm PySem.F.plainAttrs_list PySem.F.slot_list_append PySem.F.type_list_append mt_append (pe_fld (pv 6) rfl) (pa_cons (pv 1) pa_nil)))
      (pss_one (ps_if (pt_cmp (pc_notN (pv 3))) pss_never pss_nil)))))))), ?_⟩
    have nF : NoAttr K CP "flags" := cP.no _ (by decide +kernel)
    have nAr : NoAttr K CP "arguments" := cP.no _ (by decide +kernel)
    have nSe : NoAttr K CP "sections" := cP.no _ (by decide +kernel)
    have nAF : NoAttr K CA "flags" := cA.no _ (by decide +kernel)
    have nAI : NoAttr K CA "is_option" := cA.no _ (by decide +kernel)
    have nSM : NoAttr K CS "members" := cS.no _ (by decide +kernel)
    have hfl : fl.length ≤ 60 := okf
    -- clash
    refine ⟨fun σ' H' => ∃ C : Addr, σ' = [some (.ref a.p), some (.ref A), some .non, some .non, none, some (.ref C), none] ∧ Same H H' ∧ H' C = some (.tup []), ?_, ?_⟩
    · refine ⟨_, rfl, A, CA, dA, afs, _, rfl, hA, cA.cl, nAF, fA, TA, rfl, ⟨_, SqT.of hTA⟩, fun D hD => ?_⟩
      refine lc_tup (K := K) (a := TA) (xs := fl.map V.str) (fun i H' => Same H H' ∧ H' D = some (.lst [])) ⟨same_upd hD, upd_same⟩ (fun i H' _ h => SqT.of (h.1 _ _ hTA)) (fun i x H' hx h => ?_) (fun H' h => ?_)
      · obtain ⟨z, hz, rfl⟩ := str_at hx
        have g := DGet.k (k := (Sum.inr z : Key)) (h.1 _ _ hp.hlf)
        refine ⟨rfl, _, rfl, _, rfl, a.p, CP, a.dx, _, _, rfl, h.1 _ _ hp.px, cP.cl, nF, rfl, a.lf, _, rfl, g, _, rfl, ?_⟩
        rw [rest_none hrk (dis z (List.mem_of_getElem? hz))]
        exact iteF h
      · obtain ⟨s1, hl1⟩ := h
        exact ⟨D, _, rfl, .inl ⟨SqL.of hl1, fun C hC => ⟨C, rfl, same_upd2 s1 hC, upd_same⟩⟩⟩
    rintro _ H1 ⟨C, rfl, e1, hC⟩
    -- the error that is none
    refine ⟨fun σ' H' => σ' = [some (.ref a.p), some (.ref A), some .non, some .non, none, some (.ref C), none] ∧ Same H1 H', ?_, ?_⟩
    · refine ⟨_, rfl, (by show 0 ≤ sizeLine; decide), fun q hq => ?_⟩
      have eq := same_upd (o := .tup []) hq
      exact ⟨.tuple [], .tuple [], .tup (SqT.of (eq _ _ hC)) .nil, .tup (SqT.of upd_same) .nil, by decide, by decide, false, rfl, iteF ⟨rfl, eq⟩⟩
    rintro _ H2 ⟨rfl, e12⟩
    have e2 := e1.trans e12
    have hC2 := e12 _ _ hC
    -- no flags are taken away
    refine ⟨fun σ' H' => σ' = [some (.ref a.p), some (.ref A), some .non, some .non, none, some (.ref C), none] ∧ H2 = H', ?_, ?_⟩
    · refine ⟨_, rfl, C, rfl, ⟨_, SqT.of hC2⟩, ?_⟩
      exact for_tup (K := K) (a := C) (xs := []) (g := gName 4) (tb := fun _ _ _ => False) (D := { nx := fun σ' H' => σ' = [some (.ref a.p), some (.ref A), some .non, some .non, none, some (.ref C), none] ∧ H2 = H', rt := Q }) (fun _ σ' H' => σ' = [some (.ref a.p), some (.ref A), some .non, some .non, none, some (.ref C), none] ∧ H2 = H') ⟨rfl, rfl⟩ (fun _ _ _ _ h => by rw [← h.2]; exact SqT.of hC2) (fun i y _ _ hy _ => by simp at hy) (fun _ _ h => h)
    rintro _ _ ⟨rfl, rfl⟩
    have hp3 := hp.keep e2
    have plf : a.p ≠ a.lf := ne_of hp.px hp.hlf (by intro z; cases z)
    have hA3 := e2 _ _ hA
    have hTA3 := e2 _ _ hTA
    -- arguments
    refine ⟨fun σ' H' => σ' = [some (.ref a.p), some (.ref A), some .non, some .non, none, some (.ref C), none] ∧ (∀ b o, H2 b = some o → b ≠ a.la → H' b = some o) ∧ H' a.la = some (.lst (as ++ [.ref A])), ?_, ?_⟩
    · exact ⟨_, rfl, a.p, CP, a.dx, _, _, rfl, hp3.px, cP.cl, nAr, rfl, .inl ⟨rfl, _, SqL.of hp3.hla⟩, _, rfl, a.la, as, _, rfl, rfl, hp3.hla, by rw [PySem.sizeLine_eq]; omega, rfl, fun b o e nb => by rw [upd_ne nb]; exact e, upd_same⟩
    rintro _ H4 ⟨rfl, kp4, hla4⟩
    have pla : a.p ≠ a.la := ne_of hp3.px hp3.hla (by intro z; cases z)
    have lfa : a.lf ≠ a.la := ne_of hp3.hlf hp3.hla (by intro z; cases z)
    have hp4 : ParAt CP CS a H4 rest (as ++ [.ref A]) ns ms := by
      obtain ⟨d, v, hs⟩ := hp3.hs1
      obtain ⟨d0, v0, hs0⟩ := hp3.hs0
      exact ⟨kp4 _ _ hp3.px pla, hla4, kp4 _ _ hp3.hlf lfa, kp4 _ _ hp3.hdd (ne_of hp3.hdd hp3.hla (by intro z; cases z)), kp4 _ _ hp3.hls hp3.n2.1, ⟨d0, v0, kp4 _ _ hs0 (ne_of hs0 hp3.hla (by intro z; cases z))⟩, ⟨d, v, kp4 _ _ hs (ne_of hs hp3.hla (by intro z; cases z))⟩, kp4 _ _ hp3.hm0 hp3.n1.2.1.symm, kp4 _ _ hp3.hm1 hp3.n1.1.symm, kp4 _ _ hp3.hle hp3.n5.1, hp3.n1, hp3.n2, hp3.n4, hp3.n5⟩
    have hA4 := kp4 _ _ hA3 (ne_of hA3 hp3.hla (by intro z; cases z))
    have hTA4 := kp4 _ _ hTA3 (ne_of hTA3 hp3.hla (by intro z; cases z))
    -- flags
    refine ⟨fun σ' H' => ∃ r, σ' = [some (.ref a.p), some (.ref A), some .non, some .non, r, some (.ref C), none] ∧ (∀ b o, H4 b = some o → b ≠ a.lf → H' b = some o) ∧ H' a.lf = some (.dK (rest ++ fl.map (kO A))), ?_, ?_⟩
    · refine ⟨_, rfl, A, CA, dA, afs, _, rfl, hA4, cA.cl, nAF, fA, TA, rfl, ⟨_, SqT.of hTA4⟩, ?_⟩
      refine for_tup (K := K) (a := TA) (xs := fl.map V.str) (fun i σ' H' => ∃ r, σ' = [some (.ref a.p), some (.ref A), some .non, some .non, r, some (.ref C), none] ∧ (∀ b o, H4 b = some o → b ≠ a.lf → H' b = some o) ∧ H' a.lf = some (.dK (rest ++ (fl.take i).map (kO A)))) ⟨none, rfl, fun _ _ e _ => e, ?_⟩ ?_ ?_ ?_
      · rw [List.take_zero, List.map_nil, List.append_nil]
        exact hp4.hlf
      · rintro i σ' H' _ ⟨r, _, kp, _⟩
        exact SqT.of (kp _ _ hTA4 (ne_of hTA4 hp4.hlf (by intro z; cases z)))
      · rintro i x σ' H' hx ⟨r, rfl, kp, hl'⟩
        obtain ⟨z, hz, rfl⟩ := str_at hx
        have hzl := List.mem_of_getElem? hz
        have h2 : (rest ++ (fl.take i).map (kO A)).map (·.1) = (rk ++ fl.take i).map Sum.inr := by
          rw [List.map_append, hrk, List.map_append, List.map_map]
          rfl
        have hn : valV (rest ++ (fl.take i).map (kO A)) (Sum.inr z : Key) = none := by
          refine rest_none h2 fun q => ?_
          rcases List.mem_append.mp q with q | q
          · exact dis z hzl q
          · exact nodup_take nd hz q
        have hlen : (rest ++ (fl.take i).map (kO A)).length < sizeLine := by
          have h1 : rest.length = rk.length := by
            have := congrArg List.length hrk
            rwa [List.length_map, List.length_map] at this
          rw [PySem.sizeLine_eq, List.length_append, List.length_map, List.length_take]
          omega
        refine ⟨_, rfl, _, rfl, a.p, CP, a.dx, _, _, rfl, kp _ _ hp4.px plf, cP.cl, nF, rfl, _, rfl, a.lf, _, rfl, DPut.k (k := (Sum.inr z : Key)) hl' hlen, _, rfl, fun b o e nb => by rw [upd_ne nb]; exact kp _ _ e nb, ?_⟩
        rw [upd_same, putK_new _ hn, take_more' hz, List.map_append, List.append_assoc]
        rfl
      · rintro σ' H' ⟨r, rfl, kp, hl'⟩
        rw [List.length_map, List.take_length] at hl'
        exact ⟨r, rfl, kp, hl'⟩
    rintro _ H5 ⟨r5, rfl, kp5, hl5⟩
    have hp5 : ParAt CP CS a H5 (rest ++ fl.map (kO A)) (as ++ [.ref A]) ns ms := by
      obtain ⟨d, v, hs⟩ := hp4.hs1
      obtain ⟨d0, v0, hs0⟩ := hp4.hs0
      exact ⟨kp5 _ _ hp4.px plf, kp5 _ _ hp4.hla lfa.symm, hl5, kp5 _ _ hp4.hdd hp4.n4.symm, kp5 _ _ hp4.hls (ne_of hp4.hls hp4.hlf (by intro z; cases z)), ⟨d0, v0, kp5 _ _ hs0 (ne_of hs0 hp4.hlf (by intro z; cases z))⟩, ⟨d, v, kp5 _ _ hs (ne_of hs hp4.hlf (by intro z; cases z))⟩, kp5 _ _ hp4.hm0 (ne_of hp4.hm0 hp4.hlf (by intro z; cases z)), kp5 _ _ hp4.hm1 (ne_of hp4.hm1 hp4.hlf (by intro z; cases z)), kp5 _ _ hp4.hle (ne_of hp4.hle hp4.hlf (by intro z; cases z)), hp4.n1, hp4.n2, hp4.n4, hp4.n5⟩
    have hA5 := kp5 _ _ hA4 (ne_of hA4 hp4.hlf (by intro z; cases z))
    obtain ⟨d1, v1, hs5⟩ := hp5.hs1
    obtain ⟨d0, v0, hs50⟩ := hp5.hs0
    have kpE : ∀ b o, H b = some o → b ≠ a.la → b ≠ a.lf → H5 b = some o := fun b o e n1 n2 => kp5 _ _ (kp4 _ _ (e2 _ _ e) n1) n2
    -- home
    refine ⟨fun σ' H' => ∃ sx mx dS vS qs, σ' = [some (.ref a.p), some (.ref A), some .non, some .non, r5, some (.ref C), some (.ref sx)] ∧ H5 = H' ∧ H5 sx = some (.ins CS dS (sFs (.ref a.p) vS .non mx)) ∧ H5 mx = some (.lst qs) ∧ ((mx = a.m0 ∧ qs = ns ∧ fl.isEmpty = true) ∨ (mx = a.m1 ∧ qs = ms ∧ fl.isEmpty = false)), ?_, ?_⟩
    · refine ⟨_, rfl, true, rfl, iteT ⟨_, rfl, a.p, CP, a.dx, _, _, rfl, hp5.px, cP.cl, nSe, rfl, _, rfl, A, CA, dA, afs, _, rfl, hA5, cA.cl, nAI, iA, .inr ⟨_, rfl, ?_⟩⟩⟩
      cases fl with
      | nil => exact ⟨a.ls, _, _, _, rfl, rfl, SqL.of hp5.hls, atI_nat (j := 0) rfl, a.s0, a.m0, d0, v0, ns, rfl, rfl, hs50, hp5.hm0, .inl ⟨rfl, rfl, rfl⟩⟩
      | cons x xs => exact ⟨a.ls, _, _, _, rfl, rfl, SqL.of hp5.hls, atI_nat (j := 1) rfl, a.s1, a.m1, d1, v1, ms, rfl, rfl, hs5, hp5.hm1, .inr ⟨rfl, rfl, rfl⟩⟩
    rintro _ _ ⟨sx, mx, dS, vS, qs, rfl, rfl, hsx, hmx, hq⟩
    have lq : qs.length ≤ 100 := by rcases hq with ⟨_, rfl, _⟩ | ⟨_, rfl, _⟩ <;> assumption
    -- members
    refine ⟨fun σ' H' => σ' = [some (.ref a.p), some (.ref A), some .non, some .non, r5, some (.ref C), some (.ref sx)] ∧ (∀ b o, H5 b = some o → b ≠ mx → H' b = some o) ∧ H' mx = some (.lst (qs ++ [.ref A])), ?_, ?_⟩
    · exact ⟨_, rfl, sx, CS, dS, _, _, rfl, hsx, cS.cl, nSM, rfl, .inl ⟨rfl, _, SqL.of hmx⟩, _, rfl, mx, qs, _, rfl, rfl, hmx, by rw [PySem.sizeLine_eq]; omega, rfl, fun b o e nb => by rw [upd_ne nb]; exact e, upd_same⟩
    rintro _ H6 ⟨rfl, kp6, hm6⟩
    refine ⟨_, rfl, false, rfl, iteF ?_⟩
    rcases hq with ⟨rfl, rfl, he⟩ | ⟨rfl, rfl, he⟩
    · exact k H6 (qs ++ [.ref A]) ms (fun b o e n1 n2 n3 n4 => kp6 _ _ (kpE _ _ e n1 n2) n3) (by rw [if_pos he]) (by rw [if_pos he, List.append_nil]) ⟨kp6 _ _ hp5.px (ne_of hp5.px hp5.hm0 (by intro z; cases z)), kp6 _ _ hp5.hla hp5.n1.2.1, kp6 _ _ hp5.hlf (ne_of hp5.hlf hp5.hm0 (by intro z; cases z)), kp6 _ _ hp5.hdd (ne_of hp5.hdd hp5.hm0 (by intro z; cases z)), kp6 _ _ hp5.hls hp5.n2.2.1, ⟨d0, v0, kp6 _ _ hs50 (ne_of hs50 hp5.hm0 (by intro z; cases z))⟩, ⟨d1, v1, kp6 _ _ hs5 (ne_of hs5 hp5.hm0 (by intro z; cases z))⟩, hm6, kp6 _ _ hp5.hm1 hp5.n1.2.2.symm, kp6 _ _ hp5.hle hp5.n5.2.1, hp5.n1, hp5.n2, hp5.n4, hp5.n5⟩
    · exact k H6 ns (qs ++ [.ref A]) (fun b o e n1 n2 n3 n4 => kp6 _ _ (kpE _ _ e n1 n2) n4) (by rw [he]; exact (List.append_nil _).symm) (by rw [he]; rfl) ⟨kp6 _ _ hp5.px (ne_of hp5.px hp5.hm1 (by intro z; cases z)), kp6 _ _ hp5.hla hp5.n1.1, kp6 _ _ hp5.hlf (ne_of hp5.hlf hp5.hm1 (by intro z; cases z)), kp6 _ _ hp5.hdd (ne_of hp5.hdd hp5.hm1 (by intro z; cases z)), kp6 _ _ hp5.hls hp5.n2.2.2, ⟨d0, v0, kp6 _ _ hs50 (ne_of hs50 hp5.hm1 (by intro z; cases z))⟩, ⟨d1, v1, kp6 _ _ hs5 (ne_of hs5 hp5.hm1 (by intro z; cases z))⟩, kp6 _ _ hp5.hm0 hp5.n1.2.2, hm6, kp6 _ _ hp5.hle hp5.n5.2.2, hp5.n1, hp5.n2, hp5.n4, hp5.n5⟩
end
end K46

namespace K46
open PySem L2 PyProof.Rows
/-! ### add_to, add_argument -/
theorem dedup_nodup (fl : List Str) : (dedup fl).Nodup := by
  have key : ∀ (fl f : List Str), f.Nodup → (fl.foldl (fun f x => f ++ [x].filter fun y => decide (y ∉ f)) f).Nodup := by
    intro fl
    induction fl with
    | nil => intro f h; exact h
    | cons y fl ih =>
      intro f h
      rw [List.foldl_cons]
      refine ih _ (List.nodup_append.mpr ⟨h, ?_, ?_⟩)
      · exact (List.nodup_cons.mpr ⟨List.not_mem_nil, List.nodup_nil⟩).filter _
      · intro a ha b hb e
        subst e
        have := (List.mem_filter.mp hb).2
        exact of_decide_eq_true this ha
  exact key fl [] List.nodup_nil
theorem noF_ne {x : Str} (h : 2 ≤ x.length) : noF x ≠ x := by
  intro e
  have h1 := congrArg Str.length e
  unfold noF at h1
  rw [PySem.Str.length_append, PySem.Str.length_append] at h1
  have h2 : (cutS x none (some 2)).length = 2 := by
    unfold cutS
    have hl : x.cps.toList.length = x.length := by simp [PySem.Str.length]
    rw [HT.sIx_none]
    have : HT.sIx x.length x.length (some 2) = 2 := by
      have q : HT.sIx x.length x.length (some (2 : Int)) = min 2 x.length := HT.sIx_nat x.length x.length 2
      rw [q]
      omega
    simp only [PySem.Str.length, List.size_toArray, List.length_take, List.length_drop]
    simp only [PySem.Str.length] at this hl h
    rw [this]
    omega
  have h3 : (cutS x (some 2) none).length = x.length - 2 := by
    unfold cutS
    have hl : x.cps.toList.length = x.length := by simp [PySem.Str.length]
    rw [HT.sIx_none]
    have : HT.sIx x.length 0 (some 2) = 2 := by
      have q : HT.sIx x.length 0 (some (2 : Int)) = min 2 x.length := HT.sIx_nat x.length 0 2
      rw [q]
      omega
    simp only [PySem.Str.length, List.size_toArray, List.length_take, List.length_drop]
    simp only [PySem.Str.length] at this hl h
    rw [this]
    omega
  have h4 : ("no-" : Str).length = 3 := by decide
  omega
theorem fellows_nodup {pf : Str} {fl : List Str} (h : ∀ x ∈ fl, 2 ≤ x.length) : (fellows pf fl).Nodup := by
  have key : ∀ (fl f : List Str), (∀ x ∈ fl, 2 ≤ x.length) → f.Nodup → (fl.foldl (felStep pf) f).Nodup := by
    intro fl
    induction fl with
    | nil => intro f _ h; exact h
    | cons y fl ih =>
      intro f hl h
      rw [List.foldl_cons]
      refine ih _ (fun x hx => hl x (List.mem_cons_of_mem _ hx)) ?_
      unfold felStep
      refine List.nodup_append.mpr ⟨h, ?_, ?_⟩
      · refine List.Pairwise.filter _ (?_ : (fel1 pf y).Nodup)
        unfold fel1
        split
        · exact List.nodup_cons.mpr ⟨fun q => noF_ne (hl y List.mem_cons_self) (List.mem_singleton.mp q).symm, List.nodup_cons.mpr ⟨List.not_mem_nil, List.nodup_nil⟩⟩
        · exact List.nodup_cons.mpr ⟨List.not_mem_nil, List.nodup_nil⟩
      · intro a ha b hb e
        subst e
        have := (List.mem_filter.mp hb).2
        exact of_decide_eq_true this ha
  exact key fl [] h List.nodup_nil
theorem fellows_len (pf : Str) (fl : List Str) : (fellows pf fl).length ≤ 2 * fl.length := by
  have key : ∀ (fl f : List Str), (fl.foldl (felStep pf) f).length ≤ f.length + 2 * fl.length := by
    intro fl
    induction fl with
    | nil => intro f; exact Nat.le_refl _
    | cons y fl ih =>
      intro f
      have h1 := ih (felStep pf f y)
      have h2 := felStep_len pf y f
      rw [List.foldl_cons, List.length_cons]
      omega
  have := key fl []
  unfold fellows
  simpa using this
theorem flD_nodup {pf : Str} {gs : List Str} {io : Bool} {act : Str} (h : Gv pf gs io) : (flD pf gs io act).Nodup := by
  unfold flD
  split
  · refine fellows_nodup fun x hx => ?_
    unfold flOf at hx
    cases io with
    | true => exact ((h.op rfl).2 x hx).l2
    | false => exact nomatch hx
  · exact dedup_nodup _
theorem flD_len {pf : Str} {gs : List Str} {io : Bool} {act : Str} (h : Gv pf gs io) : (flD pf gs io act).length ≤ 60 := by
  have hn := h.n
  have hf : (flOf gs io).length ≤ 20 := by
    unfold flOf
    split
    · exact hn
    · exact Nat.zero_le _
  unfold flD
  split
  · have := fellows_len pf (flOf gs io)
    omega
  · have := dedup_len (flOf gs io)
    omega
/-- what was new beside H, and what is neither list nor dict, is kept -/
structure KpN (H H1 H2 : Hp) : Prop where
  nl : ∀ b o, H1 b = some o → (∀ xs, o ≠ .lst xs) → (∀ ks, o ≠ .dK ks) → H2 b = some o
  nw : ∀ b o, H1 b = some o → H b = none → H2 b = some o
theorem KpN.of_same {H H1 H2 : Hp} (e : Same H1 H2) : KpN H H1 H2 := ⟨fun b o h _ _ => e b o h, fun b o h _ => e b o h⟩
theorem KpN.trans {H H1 H2 H3 : Hp} (a : KpN H H1 H2) (b : KpN H H2 H3) : KpN H H1 H3 := ⟨fun x o h n1 n2 => b.nl x o (a.nl x o h n1 n2) n1 n2, fun x o h n => b.nw x o (a.nw x o h n) n⟩
theorem DtR.kn {H H1 H2 : Hp} {v : V} {d : PyData} (h : DtR H H1 v d) (e : KpN H H1 H2) : DtR H H2 v d := by
  obtain ⟨N, h1, h2, h3, h4⟩ := h
  exact ⟨N, h1, fun b o q => e.nw b o (h2 b o q) (h3 b o q), h3, h4⟩
theorem AG.kn {H H1 H2 : Hp} {io : Bool} {act : Str} {ld : DD} {hd : PyData} {v : AV} {n : Nat} (h : AG H H1 io act ld hd v n) (e : KpN H H1 H2) : AG H H2 io act ld hd v n :=
  ⟨h.nn, fun q => (h.co q).kn e, fun q => (h.de q).kn e, fun q => (h.ki q).kn e, fun q => (h.ch q).kn e, h.re, h.he, h.ve⟩
/-- an argument that stands -/
structure ArgX (CA : Addr) (H H' : Hp) (A : Addr) (pf : Str) (gs : List Str) (io : Bool) (act : Str) (ld : DD) : Prop where
  nA : H A = none
  ex : ∃ (dx U : Addr) (v : AV), H U = none ∧ H' U = some (.tup ((flD pf gs io act).map V.str)) ∧ H' A = some (.ins CA dx (v.fs U (destOf pf gs io ld) act io)) ∧ AG H H' io act ld (heD act ld) v 6 ∧ MeAt H' v.me (meD ld)
theorem MadeA.x {CA : Addr} {H H' : Hp} {A : Addr} {pf : Str} {gs : List Str} {io : Bool} {act : Str} {ld : DD} (h : MadeA CA H H' A pf gs io act ld) : ArgX CA H H' A pf gs io act ld := by
  obtain ⟨dx, U, v, h1, h2, h3, h4⟩ := h.ex
  exact ⟨h.nA, dx, U, v, h1, h2.tt, h2.ex, h3, h4⟩
theorem ArgX.kn {CA : Addr} {H H1 H2 : Hp} {A : Addr} {pf : Str} {gs : List Str} {io : Bool} {act : Str} {ld : DD} (h : ArgX CA H H1 A pf gs io act ld) (e : KpN H H1 H2) : ArgX CA H H2 A pf gs io act ld := by
  obtain ⟨dx, U, v, h1, h2, h3, h4, h5⟩ := h.ex
  exact ⟨h.nA, dx, U, v, h1, e.nw _ _ h2 h1, e.nw _ _ h3 h.nA, h4.kn e, h5.imp id fun ⟨a, l, q1, q2, q3⟩ => ⟨a, l, q1, q2, e.nl _ _ q3 (fun _ z => nomatch z) (fun _ z => nomatch z)⟩⟩
structure AddPre (CP CS : Addr) (H : Hp) (a : PAd) (fa : Addr) (gv : V) (as ns ms : List V) (rk gs : List Str) (io : Bool) (act : Str) (ld : DD) (rest : List (Key × V)) : Prop where
  par : ParAt CP CS a H rest as ns ms
  rk_ : rest.map (·.1) = rk.map Sum.inr
  fa_ : SeqF H fa (gs.map V.str)
  gv_ : Gv a.pf gs io
  op : (gv = .non ∧ ld = []) ∨ ∃ (o : Addr) (kvs : List (Key × V)), gv = .ref o ∧ OpH H o kvs ld
  nm : Nmd gs io ld
  ok : OkO io act ld
  dis : ∀ x ∈ flD a.pf gs io act, x ∉ rk
  l1 : as.length ≤ 100
  l2 : ns.length ≤ 100
  l3 : ms.length ≤ 100
  l4 : rk.length ≤ 100
structure AddedX (CP CS CA : Addr) (H H' : Hp) (a : PAd) (A : Addr) (as ns ms : List V) (gs : List Str) (io : Bool) (act : Str) (ld : DD) (rest : List (Key × V)) : Prop where
  arg : ArgX CA H H' A a.pf gs io act ld
  kp : ∀ b o, H b = some o → b ≠ a.la → b ≠ a.lf → b ≠ a.m0 → b ≠ a.m1 → H' b = some o
  par : ∃ ns' ms', ns' = ns ++ (if (flD a.pf gs io act).isEmpty = true then [.ref A] else []) ∧ ms' = ms ++ (if (flD a.pf gs io act).isEmpty = true then [] else [.ref A]) ∧ ParAt CP CS a H' (rest ++ (flD a.pf gs io act).map (kO A)) (as ++ [.ref A]) ns' ms'
def spAddTo (CP CS CA : Addr) : Sp := fun vs H Q _ => ∃ (a : PAd) (fa : Addr) (gv : V) (as ns ms : List V) (rk gs : List Str) (io : Bool) (act : Str) (ld : DD) (rest : List (Key × V)), vs = [.ref a.p, .non, .non, .ref fa, gv] ∧ AddPre CP CS H a fa gv as ns ms rk gs io act ld rest ∧
  ∀ (A : Addr) (H' : Hp), AddedX CP CS CA H H' a A as ns ms gs io act ld rest → Q (.ref A) H'
def spAdd (CP CS CA : Addr) : Sp := fun vs H Q _ => ∃ (a : PAd) (fa : Addr) (gv : V) (as ns ms : List V) (rk gs : List Str) (io : Bool) (act : Str) (ld : DD) (rest : List (Key × V)), vs = [.ref a.p, .ref fa, gv] ∧ AddPre CP CS H a fa gv as ns ms rk gs io act ld rest ∧
  ∀ (A : Addr) (H' : Hp), AddedX CP CS CA H H' a A as ns ms gs io act ld rest → Q (.ref A) H'
section
variable {P : Program} {w : World} {K : PySem.W.Frag} {mg : Str → Option Value} {base : Heap}
abbrev nAddTo : List Str := ["self", "section", "exclusive", "flags", "options", "argument"]
theorem scAddTo : FnScope nAddTo ["self", "section", "exclusive", "flags", "options"] (defScope sAddTo) := ⟨rfl, rfl, rfl, by decide +kernel, rfl, by decide +kernel, by decide +kernel⟩
theorem ok_addTo {f fM fJ CP CS CA : Addr} {fd fdM fdJ : FuncData} (F : Fun K "add_to" "Parser.add_to" sAddTo f fd) (cP : ClsN K CP parF) (M : At P w K mg base "made_argument" 7 ["flags", "given", "parser", "is_exclusive"] (spMade CA CP) fM fdM)
    (GJ : FnOk P w K mg base CX0 2 fJ fdJ ["self", "argument", "section", "exclusive"] (spJoin CP CS CA)) (mJ : Meth K CP "join" fJ) (bJ : Binds K fdJ ["self", "argument", "section", "exclusive"] []) : FnOk P w K mg base CX0 8 f fd ["self", "section", "exclusive", "flags", "options"] (spAddTo CP CS CA) := by
  refine F.ok scAddTo (fun vs H Q E h => ?_) (fun cdv A0 outer s H vs Q E hr h => ?_)
  · obtain ⟨a, fa, gv, as, ns, ms, rk, gs, io, act, ld, rest, rfl, _⟩ := h
    rfl
  · obtain ⟨a, fa, gv, as, ns, ms, rk, gs, io, act, ld, rest, rfl, g, k⟩ := h
    have r2 : Room 2 (A0.deeper (PyProof.Rows.envOfC "Parser.add_to" (defScope sAddTo) s.heap.objs.size f cdv)) := hr.mono (by decide)
    refine ⟨_, pss_cons (ps_set (i := 5) scAddTo.nd rfl (Or.inl rfl) (pe_call M.ok hr rfl M.m M.k M.b .nil pass0 (pa_cons (pv 3) (pa_cons (pv 4) (pa_cons (pv 0) (pa_cons (pe_cmp (pc_notN (pv 2)) rfl) pa_nil))))))
      (pss_cons (ps_expr (pe_meth (pv 0) cP.cl mJ GJ r2 bJ .nil pass0 (pa_cons (pv 5) (pa_cons (pv 1) (pa_cons (pv 2) pa_nil))))) (pss_one (ps_ret (pv 5)))), ?_⟩
    refine ⟨_, rfl, _, rfl, _, rfl, _, rfl, fa, a.p, a.dd, gv, a.pf, gs, io, act, ld, rfl, g.fa_, g.gv_, g.op, g.nm, g.ok, ⟨⟨_, _, g.par.px, rfl, rfl, rfl⟩, g.par.hdd⟩, fun A H1 m => ?_⟩
    obtain ⟨dA, U, v, nU, mm, ag, me⟩ := m.ex
    have hA := mm.ex
    have p1 := g.par.keep m.same
    refine ⟨_, rfl, a.p, a.dx, _, rfl, p1.px, rfl, _, rfl, _, rfl, _, rfl, a, A, as, ns, ms, rk, rest, dA, U, _, flD a.pf gs io act, rfl, p1, g.rk_, hA, rfl, ?_, mm.tt, flD_len g.gv_, flD_nodup g.gv_, g.dis, g.l1, g.l2, g.l3, g.l4, fun H2 ns' ms' kp2 q1 q2 p2 => ⟨_, rfl, k A H2 ⟨m.x.kn ⟨fun b o e x1 x2 => kp2 _ _ e (ne_of e p1.hla (x1 _)) (ne_of e p1.hlf (x2 _)) (ne_of e p1.hm0 (x1 _)) (ne_of e p1.hm1 (x1 _)), fun b o e hn => ?_⟩, fun b o e n1 n2 n3 n4 => kp2 _ _ (m.same _ _ e) n1 n2 n3 n4, ns', ms', q1, q2, p2⟩⟩⟩
    · rw [flD_ne g.gv_, Bool.not_not]
      rfl
    · exact kp2 _ _ e (fun z => by rw [z, g.par.hla] at hn; cases hn) (fun z => by rw [z, g.par.hlf] at hn; cases hn) (fun z => by rw [z, g.par.hm0] at hn; cases hn) (fun z => by rw [z, g.par.hm1] at hn; cases hn)
theorem scAdd : FnScope ["self", "flags", "options"] ["self", "flags", "options"] (defScope sAdd) := ⟨rfl, rfl, rfl, by decide +kernel, rfl, by decide +kernel, by decide +kernel⟩
theorem ok_add {dvs : List V} {kws : List (Str × V)} {f fT CP CS CA : Addr} {fd fdT : FuncData} (F : FunD K "add_argument" "Parser.add_argument" (defArgs sAdd) (defBody sAdd) (defScope sAdd) dvs kws f fd) (cP : ClsN K CP parF)
    (GT : FnOk P w K mg base CX0 8 fT fdT ["self", "section", "exclusive", "flags", "options"] (spAddTo CP CS CA)) (mT : Meth K CP "add_to" fT) (bT : Binds K fdT ["self", "section", "exclusive", "flags", "options"] []) : FnOk P w K mg base CX0 9 f fd ["self", "flags", "options"] (spAdd CP CS CA) := by
  refine F.ok scAdd (fun vs H Q E h => ?_) (fun cdv A0 outer s H vs Q E hr h => ?_)
  · obtain ⟨a, fa, gv, as, ns, ms, rk, gs, io, act, ld, rest, rfl, _⟩ := h
    rfl
  · obtain ⟨a, fa, gv, as, ns, ms, rk, gs, io, act, ld, rest, rfl, g, k⟩ := h
    refine ⟨_, PSs.nox (pss_one (ps_ret (pe_meth (pv 0) cP.cl mT GT hr bT .nil pass0 (pa_cons pe_non (pa_cons pe_non (pa_cons (pv 1) (pa_cons (pv 2) pa_nil))))))), ?_⟩
    exact ⟨_, rfl, a.p, a.dx, _, rfl, g.par.px, rfl, _, rfl, _, rfl, a, fa, gv, as, ns, ms, rk, gs, io, act, ld, rest, rfl, g, k⟩
end
end K46

/-! str(x) of None, a number, a text -/
namespace XStrV
open PySem L2
def strV : V → Str
  | .non => "None"
  | .int i => toString i
  | .str z => z
  | _ => ""
def rStrV : List V → Hp → VK → Prop := fun xs H Q => ∃ v, xs = [v] ∧ (v = .non ∨ (∃ i, v = .int i ∧ i.natAbs.log2 < 1920) ∨ ∃ z, v = .str z) ∧ Q (.str (strV v)) H
theorem call_strV {X : Cx} : CallR X (.type "str") rStrV := by
  intro pins s σ H xs us Q I r h
  obtain ⟨v, rfl, hv, q⟩ := h
  rcases hv with rfl | ⟨i, rfl, hi⟩ | ⟨z, rfl⟩
  · obtain ⟨u, rfl, t, rfl⟩ := vals1 r
    exact PySem.P.str_of_none ⟨.str _, H, I.tok _, ⟨_, rfl⟩, q⟩
  · exact call_str_int pins s σ H [.int i] us Q I r ⟨i, rfl, hi, q⟩
  · exact SkE.call_str_str pins s σ H [.str z] us Q I r ⟨z, rfl, q⟩
end XStrV

namespace K46
open PySem L2 PyProof PyProof.Rows
/-! ### the words of an option that counts -/
structure ArgC (CA : Addr) (H : Hp) (v : V) (fl dst h : Str) : Prop where
  ex : ∃ (A dx U : Addr) (ve fe : V), v = .ref A ∧ H U = some (.tup [.str fl]) ∧ H A = some (.ins CA dx (aFs (.ref U) (.str dst) (.str "count") (.bl true) (.int 0) .non .non .non .non (.bl false) (.str h) .non ve .non fe))
  sh : h ≠ SUP
  l : fl.length ≤ 40 ∧ dst.length ≤ 40 ∧ h.length ≤ 900
theorem ArgC.keep {CA : Addr} {H H' : Hp} {v : V} {fl dst h : Str} (q : ArgC CA H v fl dst h) (e : Same H H') : ArgC CA H' v fl dst h := by
  obtain ⟨A, dx, U, ve, fe, h1, h2, h3⟩ := q.ex
  exact ⟨⟨A, dx, U, ve, fe, h1, e _ _ h2, e _ _ h3⟩, q.sh, q.l⟩
def br (fl : Str) : Str := "[" ++ fl ++ "]"
def spShown (CA : Addr) : Sp := fun vs H Q _ => ∃ (v : V) (fl dst h : Str), vs = [v] ∧ ArgC CA H v fl dst h ∧ Q (.bl true) H
def spChoices (CA : Addr) : Sp := fun vs H Q _ => ∃ (v : V) (fl dst h : Str), vs = [v] ∧ ArgC CA H v fl dst h ∧ Q .non H
def spWithW (CA : Addr) : Sp := fun vs H Q _ => ∃ (v lay : V) (z fl dst h : Str), vs = [.str z, v, lay] ∧ ArgC CA H v fl dst h ∧ Q (.str z) H
def spHead (CA : Addr) : Sp := fun vs H Q _ => ∃ (v lay : V) (fl dst h : Str), vs = [v, lay] ∧ ArgC CA H v fl dst h ∧ Q (.str fl) H
def spPart (CA : Addr) : Sp := fun vs H Q _ => ∃ (v lay : V) (fl dst h : Str), vs = [v, lay] ∧ ArgC CA H v fl dst h ∧ Q (.str (br fl)) H
section
variable {P : Program} {w : World} {K : PySem.W.Frag} {mg : Str → Option Value} {base : Heap}
theorem scShown : FnScope ["argument"] ["argument"] (defScope sIsShown) := ⟨rfl, rfl, rfl, by decide +kernel, rfl, by decide +kernel, by decide +kernel⟩
theorem ok_shown {f CA : Addr} {fd : FuncData} {tn : Tok} (F : Fun K "is_shown" "is_shown" sIsShown f fd) (cA : ClsN K CA argF) (hS : mg "SUPPRESS" = some (.str "==SUPPRESS==" tn)) : FnOk P w K mg base CX0 1 f fd ["argument"] (spShown CA) := by
  refine F.ok scShown (fun vs H Q E h => ?_) (fun cdv A outer s H vs Q E hr h => ?_)
  · obtain ⟨v, fl, dst, h, rfl, _⟩ := h
    rfl
  · obtain ⟨v, fl, dst, h, rfl, a, k⟩ := h
    obtain ⟨A, dx, U, ve, fe, rfl, hU, hA⟩ := a.ex
    refine ⟨_, pss_one (ps_ret (pe_cmpR op_ne (pe_fld (pv 0) rfl) (pe_glob (v := .str "==SUPPRESS==") rfl hS ⟨tn, rfl⟩) (nomark _))), ?_⟩
    refine ⟨_, rfl, A, CA, dx, _, _, rfl, hA, cA.cl, cA.no _ (by decide +kernel), rfl, rfl, ?_⟩
    have gen : ∀ b : Bool, b = true → Q (.bl b) H := fun b e => by
      rw [e]
      exact k
    refine gen _ ?_
    rw [Bool.not_eq_true', decide_eq_false_iff_not]
    exact fun e => a.sh (V.str.inj e)
theorem scChoices : FnScope ["argument", "choice"] ["argument"] (defScope sChoicesOf) := ⟨rfl, rfl, rfl, by decide +kernel, rfl, by decide +kernel, by decide +kernel⟩
theorem ok_choices {f CA : Addr} {fd : FuncData} (F : Fun K "choices_of" "choices_of" sChoicesOf f fd) (cA : ClsN K CA argF) : FnOk P w K mg base CX0 1 f fd ["argument"] (spChoices CA) := by
  refine F.ok scChoices (fun vs H Q E h => ?_) (fun cdv A outer s H vs Q E hr h => ?_)
  · obtain ⟨v, fl, dst, h, rfl, _⟩ := h
    rfl
  · obtain ⟨v, fl, dst, h, rfl, a, k⟩ := h
    obtain ⟨A, dx, U, ve, fe, rfl, hU, hA⟩ := a.ex
    refine ⟨_, pss_cons (ps_if (pt_cmp (pc_notN (pe_fld (pv 0) rfl))) pss_never pss_nil) (pss_one (ps_ret (pe_ifExp (pt_cmp (pc_isN (pe_fld (pv 0) rfl))) pe_non pe_never))), ?_⟩
    exact ⟨_, rfl, A, CA, dx, _, _, rfl, hA, cA.cl, cA.no _ (by decide +kernel), rfl, _, rfl, iteF ⟨_, rfl, A, CA, dx, _, _, rfl, hA, cA.cl, cA.no _ (by decide +kernel), rfl, _, rfl, iteT k⟩⟩
theorem scWithW : FnScope ["shown", "argument", "layout"] ["shown", "argument", "layout"] (defScope sWithWords) := ⟨rfl, rfl, rfl, by decide +kernel, rfl, by decide +kernel, by decide +kernel⟩
theorem ok_withW {f CA : Addr} {fd : FuncData} (F : Fun K "with_words" "with_words" sWithWords f fd) (cA : ClsN K CA argF) : FnOk P w K mg base CX0 1 f fd ["shown", "argument", "layout"] (spWithW CA) := by
  refine F.ok scWithW (fun vs H Q E h => ?_) (fun cdv A outer s H vs Q E hr h => ?_)
  · obtain ⟨v, lay, z, fl, dst, h, rfl, _⟩ := h
    rfl
  · obtain ⟨v, lay, z, fl, dst, h, rfl, a, k⟩ := h
    obtain ⟨A, dx, U, ve, fe, rfl, hU, hA⟩ := a.ex
    refine ⟨_, pss_one (ps_ret (pe_ifExp (pt_cmpR op_eq (pe_fld (pv 1) rfl) pe_int (nomark _)) (pv 0) pe_never)), ?_⟩
    exact ⟨_, rfl, A, CA, dx, _, _, rfl, hA, cA.cl, cA.no _ (by decide +kernel), rfl, rfl, true, rfl, iteT ⟨_, rfl, k⟩⟩
theorem scHead : FnScope ["argument", "layout"] ["argument", "layout"] (defScope sHeadOf) := ⟨rfl, rfl, rfl, by decide +kernel, rfl, by decide +kernel, by decide +kernel⟩
theorem ok_head {f fW CA : Addr} {fd fdW : FuncData} (F : Fun K "head_of" "head_of" sHeadOf f fd) (cA : ClsN K CA argF) (Ww : At P w K mg base "with_words" 1 ["shown", "argument", "layout"] (spWithW CA) fW fdW) : FnOk P w K mg base CX0 2 f fd ["argument", "layout"] (spHead CA) := by
  refine F.ok scHead (fun vs H Q E h => ?_) (fun cdv A outer s H vs Q E hr h => ?_)
  · obtain ⟨v, lay, fl, dst, h, rfl, _⟩ := h
    rfl
  · obtain ⟨v, lay, fl, dst, h, rfl, a, k⟩ := h
    obtain ⟨A, dx, U, ve, fe, rfl, hU, hA⟩ := a.ex
    have hz6 : PySem.sizeLine = 16777216 := PySem.sizeLine_eq
    refine ⟨_, pss_cons (ps_if (pt_val (pe_fld (pv 0) rfl)) (pss_one (ps_ret (pe_call Ww.ok hr rfl Ww.m Ww.k Ww.b .nil pass0 (pa_cons (pe_bm PySem.F.plainAttrs_str PySem.F.slot_str_join PySem.F.type_str_join mt_join pe_str (pa_cons (pe_fld (pv 0) rfl) pa_nil)) (pa_cons (pv 0) (pa_cons (pv 1) pa_nil)))))) pss_nil) (pss_one ps_never), ?_⟩
    have hj : Txt.join ", " [fl] = fl := StrLaws.glued_eq_join ", " [fl]
    have h2 : (", " : Str).length = 2 := rfl
    refine ⟨_, rfl, A, CA, dx, _, _, rfl, hA, cA.cl, cA.no _ (by decide +kernel), rfl, true, rfl, iteT ?_⟩
    refine ⟨rfl, _, rfl, A, CA, dx, _, _, rfl, hA, cA.cl, cA.no _ (by decide +kernel), rfl, ", ", U, [fl], rfl, rfl, .inr (SqT.of hU), ?_, ?_⟩
    · have := a.l.1
      show fl.length + 0 + 1 * 2 ≤ _
      omega
    · rw [hj]
      exact ⟨_, rfl, _, rfl, .ref A, lay, fl, fl, dst, h, rfl, a, k⟩
theorem ok_bare {f fW CA : Addr} {fd fdW : FuncData} (F : Fun K "bare_part" "bare_part" sBarePart f fd) (cA : ClsN K CA argF) (Ww : At P w K mg base "with_words" 1 ["shown", "argument", "layout"] (spWithW CA) fW fdW) : FnOk P w K mg base CX0 2 f fd ["argument", "layout"] (spHead CA) := by
  refine F.ok (N := ["argument", "layout", "part"]) ⟨rfl, rfl, rfl, by decide +kernel, rfl, by decide +kernel, by decide +kernel⟩ (fun vs H Q E h => ?_) (fun cdv A outer s H vs Q E hr h => ?_)
  · obtain ⟨v, lay, fl, dst, h, rfl, _⟩ := h
    rfl
  · obtain ⟨v, lay, fl, dst, h, rfl, a, k⟩ := h
    obtain ⟨A, dx, U, ve, fe, rfl, hU, hA⟩ := a.ex
    refine ⟨_, pss_cons (ps_if (pt_not (pt_val (pe_fld (pv 0) rfl))) pss_never pss_nil) (pss_cons (ps_if (pt_cmpR op_eq (pe_fld (pv 0) rfl) pe_str (nomark _)) pss_never pss_nil) (pss_one (ps_ret (pe_call Ww.ok hr rfl Ww.m Ww.k Ww.b .nil pass0 (pa_cons (pe_ix ix_tup (pe_fld (pv 0) rfl) pe_int (fun _ _ => rfl)) (pa_cons (pv 0) (pa_cons (pv 1) pa_nil))))))), ?_⟩
    refine ⟨_, rfl, A, CA, dx, _, _, rfl, hA, cA.cl, cA.no _ (by decide +kernel), rfl, true, rfl, iteF ?_⟩
    refine ⟨_, rfl, A, CA, dx, _, _, rfl, hA, cA.cl, cA.no _ (by decide +kernel), rfl, rfl, false, rfl, iteF ?_⟩
    exact ⟨_, rfl, A, CA, dx, _, _, rfl, hA, cA.cl, cA.no _ (by decide +kernel), rfl, U, _, 0, _, rfl, rfl, SqT.of hU, rfl, _, rfl, _, rfl, .ref A, lay, fl, fl, dst, h, rfl, a, k⟩
theorem scPart : FnScope ["argument", "layout", "part"] ["argument", "layout"] (defScope sPartOf) := ⟨rfl, rfl, rfl, by decide +kernel, rfl, by decide +kernel, by decide +kernel⟩
theorem ok_part {f fB CA : Addr} {fd fdB : FuncData} (F : Fun K "part_of" "part_of" sPartOf f fd) (cA : ClsN K CA argF) (Ba : At P w K mg base "bare_part" 2 ["argument", "layout"] (spHead CA) fB fdB) : FnOk P w K mg base CX0 3 f fd ["argument", "layout"] (spPart CA) := by
  refine F.ok scPart (fun vs H Q E h => ?_) (fun cdv A outer s H vs Q E hr h => ?_)
  · obtain ⟨v, lay, fl, dst, h, rfl, _⟩ := h
    rfl
  · obtain ⟨v, lay, fl, dst, h, rfl, a, k⟩ := h
    obtain ⟨A, dx, U, ve, fe, rfl, hU, hA⟩ := a.ex
    have hz6 : PySem.sizeLine = 16777216 := PySem.sizeLine_eq
    have hl := a.l.1
    have h1 : ("[" : Str).length = 1 := rfl
    have h2 : ("]" : Str).length = 1 := rfl
    refine ⟨_, pss_cons (ps_if (pt_not (pt_val (pe_fld (pv 0) rfl))) pss_never pss_nil) (pss_cons (ps_set (i := 2) scPart.nd rfl (Or.inl rfl) (pe_call Ba.ok hr rfl Ba.m Ba.k Ba.b .nil pass0 (pa_cons (pv 0) (pa_cons (pv 1) pa_nil)))) (pss_one (ps_ret (pe_ifExp (pt_val (pe_fld (pv 0) rfl)) pe_never (pe_op op_add_str (pe_op op_add_str pe_str (pv 2)) pe_str))))), ?_⟩
    refine ⟨_, rfl, A, CA, dx, _, _, rfl, hA, cA.cl, cA.no _ (by decide +kernel), rfl, true, rfl, iteF ?_⟩
    refine ⟨_, rfl, _, rfl, .ref A, lay, fl, dst, h, rfl, a, ?_⟩
    refine ⟨_, rfl, A, CA, dx, _, _, rfl, hA, cA.cl, cA.no _ (by decide +kernel), rfl, false, rfl, iteF ?_⟩
    exact ⟨_, rfl, _, _, rfl, rfl, (by rw [h1]; omega), _, _, rfl, rfl, (by rw [Str.length_append, h1, h2]; omega), k⟩
end
end K46

namespace K46
open PySem L2 PyProof PyProof.Rows
/-! ### parts in lines -/
theorem pts_never {X : Cx} {cs : List Expr} : PTs X cs (fun _ _ _ => False) := ⟨fun _ _ _ _ _ _ h => h.elim⟩
theorem pg_never {X : Cx} {e : Expr} : PG X e (fun _ _ _ _ => False) := ⟨fun _ _ _ _ _ _ _ _ _ h => h.elim⟩
def sps (n : Nat) : Str := Txt.mul " " (n : Int)
theorem sps_ok : ∀ n, n < 201 → MulOk " " ((n : Nat) : Int) ∧ (Txt.mul " " ((n : Nat) : Int)).cps.toList = List.replicate n 32 := by
  unfold MulOk
  decide +kernel
theorem sps_len {n : Nat} (h : n ≤ 200) : (sps n).length = n := by
  rw [← len_tl]
  unfold sps
  rw [(sps_ok n (by omega)).2, List.length_replicate]
def takStep (ind : Nat) (sz : Int) (q : List Str × Str) (p : Str) : List Str × Str :=
  if q.2 ≠ "" ∧ ((q.2.length + 1 + p.length : Nat) : Int) ≤ sz then (q.1, q.2 ++ " " ++ p) else (if q.2 ≠ "" then q.1 ++ [q.2] else q.1, sps ind ++ p)
def takF (x : Str) (ps : List Str) (ind : Nat) (sz : Int) : List Str :=
  let q := ps.foldl (takStep ind sz) ([], x)
  if q.2 ≠ "" then q.1 ++ [q.2] else q.1
def small1 (ps : List Str) : Prop := ps.length ≤ 100 ∧ ∀ p ∈ ps, p.length ≤ 200
def spTaken : Sp := fun vs H Q _ => ∃ (x : Str) (a : Addr) (ps : List Str) (ind : Nat) (sz : Int), vs = [.str x, .ref a, .int (ind : Int), .int sz] ∧ H a = some (.lst (ps.map V.str)) ∧ ind ≤ 200 ∧ small1 ps ∧ x.length ≤ 1000 ∧ ∀ (D : Addr) (H' : Hp), Same H H' → H' D = some (.lst ((takF x ps ind sz).map V.str)) → Q (.ref D) H'
theorem tak_len {ind : Nat} {sz : Int} (hi : ind ≤ 200) : ∀ {ps : List Str} {q : List Str × Str} {n m : Nat}, (∀ p ∈ ps, p.length ≤ 200) → q.1.length ≤ n → q.2.length ≤ m → 400 ≤ m → (∀ x ∈ q.1, x.length ≤ m) →
    (ps.foldl (takStep ind sz) q).1.length ≤ n + ps.length ∧ (ps.foldl (takStep ind sz) q).2.length ≤ m + 201 * ps.length ∧ ∀ x ∈ (ps.foldl (takStep ind sz) q).1, x.length ≤ m + 201 * ps.length
  | [], q, n, m, _, h1, h2, _, h3 => ⟨h1, h2, h3⟩
  | p :: ps, q, n, m, hp, h1, h2, hm, h3 => by
    have hpl := hp p List.mem_cons_self
    have hs : (takStep ind sz q p).1.length ≤ n + 1 ∧ (takStep ind sz q p).2.length ≤ m + 201 ∧ ∀ x ∈ (takStep ind sz q p).1, x.length ≤ m + 201 := by
      unfold takStep
      split
      · refine ⟨(by show q.1.length ≤ n + 1; omega), ?_, fun x hx => by have := h3 x hx; omega⟩
        show (q.2 ++ " " ++ p).length ≤ _
        rw [Str.length_append, Str.length_append]
        have : (" " : Str).length = 1 := rfl
        omega
      · refine ⟨?_, ?_, ?_⟩
        · show (if q.2 ≠ "" then q.1 ++ [q.2] else q.1).length ≤ _
          split
          · rw [List.length_append]
            show q.1.length + 1 ≤ _
            omega
          · omega
        · show (sps ind ++ p).length ≤ _
          rw [Str.length_append, sps_len hi]
          omega
        · intro x hx
          have hx : x ∈ (if q.2 ≠ "" then q.1 ++ [q.2] else q.1) := hx
          split at hx
          · rcases List.mem_append.mp hx with hx | hx
            · have := h3 x hx
              omega
            · rw [List.mem_singleton.mp hx]
              omega
          · have := h3 x hx
            omega
    rw [List.foldl_cons]
    obtain ⟨a1, a2, a3⟩ := tak_len (sz := sz) hi (ps := ps) (q := takStep ind sz q p) (n := n + 1) (m := m + 201) (fun x hx => hp x (List.mem_cons_of_mem _ hx)) hs.1 hs.2.1 (by omega) hs.2.2
    rw [List.length_cons]
    exact ⟨by omega, by omega, fun x hx => by have := a3 x hx; omega⟩
section
variable {P : Program} {w : World} {K : PySem.W.Frag} {mg : Str → Option Value} {base : Heap}
abbrev nTak : List Str := ["first", "parts", "indent", "size", "found", "line", "part"]
theorem scTak : FnScope nTak ["first", "parts", "indent", "size"] (defScope sTaken) := ⟨rfl, rfl, rfl, by decide +kernel, rfl, by decide +kernel, by decide +kernel⟩
theorem ok_taken {f : Addr} {fd : FuncData} (F : Fun K "taken" "taken" sTaken f fd) (T : TxtB mg) : FnOk P w K mg base CX0 1 f fd ["first", "parts", "indent", "size"] spTaken := by
  refine F.ok scTak (fun vs H Q E h => ?_) (fun cdv A outer s H vs Q E hr h => ?_)
  · obtain ⟨x, a, ps, ind, sz, rfl, _⟩ := h
    rfl
  · obtain ⟨x, a, ps, ind, sz, rfl, ha, hi, hsm, hx, k⟩ := h
    have hz6 : PySem.sizeLine = 16777216 := PySem.sizeLine_eq
    obtain ⟨hn, hpl⟩ := hsm
    have hsp := (sps_ok ind (by omega)).1
    have hspl : (Txt.mul " " (ind : Int)).length = ind := sps_len hi
    refine ⟨_, pss_mid (ps_par (i := 4) (j := 5) (by rfl) scTak.nd rfl rfl (by decide) rfl rfl (pa_cons (pe_lst pa_nil) (pa_cons (pv 0) pa_nil)) (by rfl))
      (pss_mid (ps_for PassesOwn.never rfl (pi_list (pv 1)) (pg_name (i := 6) scTak.nd rfl (Or.inl rfl))
        (pss_cons (ps_if (PW.pt (pw_and (pt_cmpR op_ne (pv 5) pe_str (nomark _)) (pw_and1 (pt_cmpR op_le (pe_op op_add (pe_op op_add (pe_callB call_len_str (by rfl) T.len PySem.boot_len (pa_cons (pv 5) pa_nil)) pe_int) (pe_callB call_len_str (by rfl) T.len PySem.boot_len (pa_cons (pv 6) pa_nil))) (pv 3) (nomark _)))))
            (pss_cons (ps_set (i := 5) scTak.nd rfl (Or.inl rfl) (pe_op op_add_str (pe_op op_add_str (pv 5) pe_str) (pv 6))) (pss_one ps_continue)) pss_nil)
        (pss_mid (ps_if (pt_cmpR op_ne (pv 5) pe_str (nomark _)) (pss_one (ps_expr (pe_bm PySem.F.plainAttrs_list PySem.F.slot_list_append PySem.F.type_list_append mt_append (pv 4) (pa_cons (pv 5) pa_nil)))) pss_nil)
        (pss_one (ps_set (i := 5) scTak.nd rfl (Or.inl rfl) (pe_op op_add_str (pe_op XR.op_mulS pe_str (pv 2)) (pv 6)))))))
      (pss_one (ps_ret (pe_ifExp (pt_cmpR op_ne (pv 5) pe_str (nomark _)) (pe_op op_cat (pv 4) (pe_lst (pa_cons (pv 5) pa_nil))) (pv 4))))), ?_⟩
    refine ⟨fun σ' H' => ∃ D, H D = none ∧ σ' = [some (.str x), some (.ref a), some (.int (ind : Int)), some (.int sz), some (.ref D), some (.str x), none] ∧ Same H H' ∧ H' D = some (.lst []), ?_, ?_⟩
    · exact ⟨(by show 0 ≤ sizeLine; decide), fun D hD => ⟨_, rfl, _, _, rfl, D, hD, rfl, same_upd hD, upd_same⟩⟩
    rintro _ H1 ⟨D, hD0, rfl, e1, hD⟩
    have nDa : D ≠ a := (ne_of_none ha hD0).symm
    have F0 : ∀ i, i ≤ ps.length → ((ps.take i).foldl (takStep ind sz) ([], x)).1.length ≤ i ∧ ((ps.take i).foldl (takStep ind sz) ([], x)).2.length ≤ 30000 := fun i hi' => by
      obtain ⟨a1, a2, _⟩ := tak_len (sz := sz) hi (ps := ps.take i) (q := ([], x)) (n := 0) (m := 1000) (fun p hp => hpl p (List.mem_of_mem_take hp)) (Nat.le_refl _) hx (by decide) (fun _ z => nomatch z)
      rw [List.length_take] at a1 a2
      exact ⟨by omega, by omega⟩
    refine ⟨fun σ' H' => ∃ r, σ' = [some (.str x), some (.ref a), some (.int (ind : Int)), some (.int sz), some (.ref D), some (.str (ps.foldl (takStep ind sz) ([], x)).2), r] ∧ Same H H' ∧ H' D = some (.lst ((ps.foldl (takStep ind sz) ([], x)).1.map V.str)), ?_, ?_⟩
    · refine ⟨_, rfl, a, rfl, ⟨_, SqL.of (e1 _ _ ha)⟩, ?_⟩
      refine for_list (K := K) (a := a) (xs := ps.map V.str) (fun i σ' H' => ∃ r, σ' = [some (.str x), some (.ref a), some (.int (ind : Int)), some (.int sz), some (.ref D), some (.str ((ps.take i).foldl (takStep ind sz) ([], x)).2), r] ∧ Same H H' ∧ H' D = some (.lst (((ps.take i).foldl (takStep ind sz) ([], x)).1.map V.str))) ⟨none, rfl, e1, hD⟩ ?_ ?_ ?_
      · rintro i σ' H' _ ⟨_, _, e, _⟩
        exact SqL.of (e _ _ ha)
      · rintro i xv σ' H' hxv ⟨r, rfl, e, hDi⟩
        obtain ⟨p, hp, rfl⟩ := str_at hxv
        have hlt := (List.getElem?_eq_some_iff.mp hp).1
        have hpm := hpl p (List.mem_of_getElem? hp)
        obtain ⟨b1, b2⟩ := F0 i (by omega)
        have hst : (ps.take (i + 1)).foldl (takStep ind sz) ([], x) = takStep ind sz ((ps.take i).foldl (takStep ind sz) ([], x)) p := by
          rw [take_more' hp, List.foldl_append]
          rfl
        rw [hst]
        generalize (ps.take i).foldl (takStep ind sz) ([], x) = q at hDi b1 b2 ⊢
        obtain ⟨fo, ln⟩ := q
        have b1 : fo.length ≤ i := b1
        have b2 : ln.length ≤ 30000 := b2
        have h1 : (" " : Str).length = 1 := rfl
        refine ⟨_, rfl, rfl, _, rfl, ?_⟩
        rw [neS]
        refine ite2 (fun hc => ?_) (fun hc => ?_)
        · have hne : ln ≠ "" := of_decide_eq_true hc
          refine ⟨_, rfl, ln, rfl, (by omega), _, _, rfl, rfl, _, rfl, p, rfl, (by omega), _, _, rfl, rfl, _, rfl, _, _, rfl, rfl, _, rfl, ite2 (fun hq => ?_) (fun hq => ?_)⟩
          · have hq' := of_decide_eq_true hq
            refine ⟨_, rfl, _, _, rfl, rfl, (by rw [h1]; omega), _, rfl, _, _, rfl, rfl, (by rw [Str.length_append, h1]; omega), ?_⟩
            have e3 : takStep ind sz (fo, ln) p = (fo, ln ++ " " ++ p) := by
              unfold takStep
              rw [if_pos ⟨hne, (by show ((ln.length + 1 + p.length : Nat) : Int) ≤ sz; omega)⟩]
            rw [e3]
            exact ⟨_, rfl, e, hDi⟩
          · have hq' : ¬ ((ln.length + 1 + p.length : Nat) : Int) ≤ sz := fun z => hq (decide_eq_true (by omega))
            have e3 : takStep ind sz (fo, ln) p = (fo ++ [ln], sps ind ++ p) := by
              unfold takStep
              rw [if_neg (fun z => hq' z.2), if_pos hne]
            rw [e3]
            refine ⟨fun σ' H' => ∃ r, σ' = [some (.str x), some (.ref a), some (.int (ind : Int)), some (.int sz), some (.ref D), some (.str ln), r] ∧ r = some (.str p) ∧ Same H H' ∧ H' D = some (.lst ((fo ++ [ln]).map V.str)), ?_, ?_⟩
            · refine ⟨_, rfl, rfl, _, rfl, ?_⟩
              rw [neS, decide_eq_true hne]
              refine iteT ⟨_, rfl, .inl ⟨rfl, _, SqL.of hDi⟩, _, rfl, D, _, _, rfl, rfl, hDi, (by rw [List.length_map]; omega), _, rfl, rfl, same_mut e hD0, ?_⟩
              rw [upd_same, List.map_append]
              rfl
            rintro _ H3 ⟨r, rfl, rfl, e4, hD3⟩
            exact ⟨_, rfl, _, _, rfl, rfl, hsp, _, rfl, _, _, rfl, rfl, (by omega), _, rfl, e4, hD3⟩
        · have hne : ¬ ln ≠ "" := fun z => hc (decide_eq_true z)
          have e3 : takStep ind sz (fo, ln) p = (fo, sps ind ++ p) := by
            unfold takStep
            rw [if_neg (fun z => hne z.1), if_neg hne]
          rw [e3]
          refine ⟨fun σ' H' => σ' = [some (.str x), some (.ref a), some (.int (ind : Int)), some (.int sz), some (.ref D), some (.str ln), some (.str p)] ∧ Same H H' ∧ H' D = some (.lst (fo.map V.str)), ?_, ?_⟩
          · refine ⟨_, rfl, rfl, _, rfl, ?_⟩
            rw [neS, decide_eq_false hne]
            exact iteF ⟨rfl, e, hDi⟩
          rintro _ H3 ⟨rfl, e4, hD3⟩
          exact ⟨_, rfl, _, _, rfl, rfl, hsp, _, rfl, _, _, rfl, rfl, (by omega), _, rfl, e4, hD3⟩
      · rintro σ' H' ⟨r, rfl, e, hDi⟩
        rw [List.length_map, List.take_length] at hDi ⊢
        exact ⟨r, rfl, e, hDi⟩
    rintro _ H2 ⟨r, rfl, e2, hD2⟩
    obtain ⟨b1, b2⟩ := F0 ps.length (Nat.le_refl _)
    rw [List.take_length] at b1 b2
    have ht : takF x ps ind sz = if (ps.foldl (takStep ind sz) ([], x)).2 ≠ "" then (ps.foldl (takStep ind sz) ([], x)).1 ++ [(ps.foldl (takStep ind sz) ([], x)).2] else (ps.foldl (takStep ind sz) ([], x)).1 := rfl
    rw [ht] at k
    generalize ps.foldl (takStep ind sz) ([], x) = q at hD2 b1 b2 k ⊢
    refine ⟨_, rfl, rfl, _, rfl, ?_⟩
    rw [neS]
    refine ite2 (fun hc => ?_) (fun hc => ?_)
    · refine ⟨_, rfl, _, rfl, (by show 1 ≤ sizeLine; decide), fun D2 hD2' => ⟨D, D2, _, _, rfl, rfl, same_upd hD2' _ _ hD2, upd_same, (by rw [List.length_map]; show _ + 1 ≤ sizeLine; omega), fun D3 hD3 => k D3 _ (e2.trans (same_upd2 (same_upd hD2') hD3)) ?_⟩⟩
      rw [upd_same, if_pos (of_decide_eq_true hc), List.map_append]
      rfl
    · refine ⟨_, rfl, k D H2 e2 ?_⟩
      rw [hD2, if_neg (fun q => hc (decide_eq_true q))]
end
end K46

namespace K46
open PySem L2 PyProof PyProof.Rows
/-! ### the lines of a usage -/
def ulF (x : Str) (os ps : List Str) (sz : Nat) : List Str :=
  if 4 * x.length ≤ 3 * sz then (if os.length = 0 then takF x ps (x.length + 1) sz else takF x os (x.length + 1) sz ++ takF "" ps (x.length + 1) sz)
  else x :: (if 1 < (takF "" (os ++ ps) 7 sz).length then takF "" os 7 sz ++ takF "" ps 7 sz else takF "" (os ++ ps) 7 sz)
def spULines : Sp := fun vs H Q _ => ∃ (x : Str) (a b : Addr) (os ps : List Str) (sz : Nat), vs = [.str x, .ref a, .ref b, .int (sz : Int)] ∧ x.length ≤ 150 ∧ H a = some (.lst (os.map V.str)) ∧ H b = some (.lst (ps.map V.str)) ∧ small1 os ∧ small1 ps ∧ small1 (os ++ ps) ∧ ∀ (D : Addr) (H' : Hp), Same H H' → H' D = some (.lst ((ulF x os ps sz).map V.str)) → Q (.ref D) H'
theorem takF_len {x : Str} {ps : List Str} {ind : Nat} {sz : Int} (hi : ind ≤ 200) (h : small1 ps) (hx : x.length ≤ 1000) : (takF x ps ind sz).length ≤ 101 ∧ ∀ r ∈ takF x ps ind sz, r.length ≤ 30000 := by
  obtain ⟨a1, a2, a3⟩ := tak_len (sz := sz) hi (ps := ps) (q := ([], x)) (n := 0) (m := 1000) h.2 (Nat.le_refl _) hx (by decide) (fun _ z => nomatch z)
  have hn := h.1
  have ht : takF x ps ind sz = if (ps.foldl (takStep ind sz) ([], x)).2 ≠ "" then (ps.foldl (takStep ind sz) ([], x)).1 ++ [(ps.foldl (takStep ind sz) ([], x)).2] else (ps.foldl (takStep ind sz) ([], x)).1 := rfl
  rw [ht]
  split
  · refine ⟨by rw [List.length_append]; show _ + 1 ≤ _; omega, fun r hr => ?_⟩
    rcases List.mem_append.mp hr with hr | hr
    · have := a3 r hr
      omega
    · rw [List.mem_singleton.mp hr]
      omega
  · exact ⟨by omega, fun r hr => by have := a3 r hr; omega⟩
section
variable {P : Program} {w : World} {K : PySem.W.Frag} {mg : Str → Option Value} {base : Heap}
abbrev nUL : List Str := ["start", "options", "positionals", "size", "indent", "lines"]
theorem scUL : FnScope nUL ["start", "options", "positionals", "size"] (defScope sUsageLines) := ⟨rfl, rfl, rfl, by decide +kernel, rfl, by decide +kernel, by decide +kernel⟩
theorem ok_ulines {f fT : Addr} {fd fdT : FuncData} {tn : Tok} (F : Fun K "usage_lines" "usage_lines" sUsageLines f fd) (T : TxtB mg) (hS : mg "START" = some (.str "usage: " tn)) (Tk : At P w K mg base "taken" 1 ["first", "parts", "indent", "size"] spTaken fT fdT) : FnOk P w K mg base CX0 2 f fd ["start", "options", "positionals", "size"] spULines := by
  refine F.ok scUL (fun vs H Q E h => ?_) (fun cdv A outer s H vs Q E hr h => ?_)
  · obtain ⟨x, a, b, os, ps, sz, rfl, _⟩ := h
    rfl
  · obtain ⟨x, a, b, os, ps, sz, rfl, hx, ha, hb, ho, hp, hop, k⟩ := h
    have hz6 : PySem.sizeLine = 16777216 := PySem.sizeLine_eq
    have e0 : ("" : Str).length = 0 := rfl
    refine ⟨_, pss_cons (ps_if (pt_cmpR op_le (pe_op op_mulN pe_int (pe_callB call_len_str (by rfl) T.len PySem.boot_len (pa_cons (pv 0) pa_nil))) (pe_op op_mulN pe_int (pv 3)) (nomark _))
        (pss_cons (ps_set (i := 4) scUL.nd rfl (Or.inl rfl) (pe_op op_add (pe_callB call_len_str (by rfl) T.len PySem.boot_len (pa_cons (pv 0) pa_nil)) pe_int))
        (pss_cons (ps_if (pt_cmpR op_eq (pe_callB call_len_seq (by rfl) T.len PySem.boot_len (pa_cons (pv 1) pa_nil)) pe_int (nomark _)) (pss_one (ps_ret (pe_call Tk.ok hr rfl Tk.m Tk.k Tk.b .nil pass0 (pa_cons (pv 0) (pa_cons (pv 2) (pa_cons (pv 4) (pa_cons (pv 3) pa_nil))))))) pss_nil)
        (pss_one (ps_ret (pe_op op_cat (pe_call Tk.ok hr rfl Tk.m Tk.k Tk.b .nil pass0 (pa_cons (pv 0) (pa_cons (pv 1) (pa_cons (pv 4) (pa_cons (pv 3) pa_nil))))) (pe_call Tk.ok hr rfl Tk.m Tk.k Tk.b .nil pass0 (pa_cons pe_str (pa_cons (pv 2) (pa_cons (pv 4) (pa_cons (pv 3) pa_nil)))))))))) pss_nil)
      (pss_mid (ps_set (i := 5) scUL.nd rfl (Or.inl rfl) (pe_call Tk.ok hr rfl Tk.m Tk.k Tk.b .nil pass0 (pa_cons pe_str (pa_cons (pe_op op_cat (pv 1) (pv 2)) (pa_cons (pe_callB call_len_str (by rfl) T.len PySem.boot_len (pa_cons (pe_glob (v := .str "usage: ") rfl hS ⟨tn, rfl⟩) pa_nil)) (pa_cons (pv 3) pa_nil))))))
      (pss_mid (ps_if (pt_cmpR op_gt (pe_callB call_len_seq (by rfl) T.len PySem.boot_len (pa_cons (pv 5) pa_nil)) pe_int (nomark _)) (pss_one (ps_set (i := 5) scUL.nd rfl (Or.inl rfl) (pe_op op_cat (pe_call Tk.ok hr rfl Tk.m Tk.k Tk.b .nil pass0 (pa_cons pe_str (pa_cons (pv 1) (pa_cons (pe_callB call_len_str (by rfl) T.len PySem.boot_len (pa_cons (pe_glob (v := .str "usage: ") rfl hS ⟨tn, rfl⟩) pa_nil)) (pa_cons (pv 3) pa_nil))))) (pe_call Tk.ok hr rfl Tk.m Tk.k Tk.b .nil pass0 (pa_cons pe_str (pa_cons (pv 2) (pa_cons (pe_callB call_len_str (by rfl) T.len PySem.boot_len (pa_cons (pe_glob (v := .str "usage: ") rfl hS ⟨tn, rfl⟩) pa_nil)) (pa_cons (pv 3) pa_nil)))))))) pss_nil)
      (pss_one (ps_ret (pe_op op_cat (pe_lst (pa_cons (pv 0) pa_nil)) (pv 5)))))), ?_⟩
    have tl : ∀ {y : Str} {qs : List Str} {ind : Nat} {z : Int}, ind ≤ 200 → small1 qs → y.length ≤ 1000 → (takF y qs ind z).length ≤ 101 := fun h1 h2 h3 => (takF_len h1 h2 h3).1
    refine ⟨_, rfl, x, rfl, (by omega), 4, x.length, rfl, rfl, (by decide), _, rfl, 3, sz, rfl, rfl, (by decide), _, _, rfl, rfl, _, rfl, ?_⟩
    refine ite2 (fun hc => ?_) (fun hc => ?_)
    · have hc' : 4 * x.length ≤ 3 * sz := by
        have := of_decide_eq_true hc
        omega
      refine ⟨_, rfl, x, rfl, (by omega), _, _, rfl, rfl, ?_⟩
      refine ⟨_, rfl, a, _, rfl, .inl (SqL.of ha), rfl, _, rfl, ite2 (fun hq => ?_) (fun hq => ?_)⟩
      · have hq' : os.length = 0 := by
          have h1 := V.int.inj (of_decide_eq_true hq)
          rw [List.length_map] at h1
          omega
        refine ⟨_, rfl, _, rfl, _, rfl, _, rfl, x, b, ps, x.length + 1, (sz : Int), rfl, hb, (by omega), hp, (by omega), fun D H' e h => k D H' e ?_⟩
        rw [h]
        unfold ulF
        rw [if_pos hc', if_pos hq']
      · have hq' : ¬ os.length = 0 := fun z => hq (decide_eq_true (by rw [List.length_map, z]; rfl))
        refine ⟨_, rfl, _, rfl, _, rfl, _, rfl, x, a, os, x.length + 1, (sz : Int), rfl, ha, (by omega), ho, (by omega), fun D H' e h => ?_⟩
        refine ⟨_, rfl, _, rfl, _, rfl, "", b, ps, x.length + 1, (sz : Int), rfl, e _ _ hb, (by omega), hp, (by omega), fun D2 H2 e2 h2 => ?_⟩
        have t1 := tl (y := x) (qs := os) (ind := x.length + 1) (z := (sz : Int)) (by omega) ho (by omega)
        have t2 := tl (y := "") (qs := ps) (ind := x.length + 1) (z := (sz : Int)) (by omega) hp (by omega)
        refine ⟨D, D2, _, _, rfl, rfl, e2 _ _ h, h2, (by rw [List.length_map, List.length_map]; omega), fun D3 hD3 => k D3 _ ((e.trans e2).trans (same_upd hD3)) ?_⟩
        rw [upd_same, ← List.map_append]
        unfold ulF
        rw [if_pos hc', if_neg hq']
    · have hc' : ¬ 4 * x.length ≤ 3 * sz := fun z => hc (decide_eq_true (by omega))
      have u7 : ("usage: " : Str).length = 7 := rfl
      have t0 := tl (y := "") (qs := os ++ ps) (ind := 7) (z := (sz : Int)) (by omega) hop (by omega)
      have t1 := tl (y := "") (qs := os) (ind := 7) (z := (sz : Int)) (by omega) ho (by omega)
      have t2 := tl (y := "") (qs := ps) (ind := 7) (z := (sz : Int)) (by omega) hp (by omega)
      have lo := ho.1
      have lp := hp.1
      refine ⟨fun σ' H' => ∃ D, σ' = [some (.str x), some (.ref a), some (.ref b), some (.int (sz : Int)), none, some (.ref D)] ∧ Same H H' ∧ H' D = some (.lst ((takF "" (os ++ ps) 7 sz).map V.str)), ?_, ?_⟩
      · refine ⟨_, rfl, _, rfl, a, b, _, _, rfl, rfl, ha, hb, (by rw [List.length_map, List.length_map]; omega), fun D2 hD2 => ?_⟩
        refine ⟨_, rfl, (by rw [hz6]; decide), _, rfl, "", D2, os ++ ps, 7, _, rfl, (by rw [upd_same, List.map_append]), (by decide), hop, (by decide), fun D H' e h => ⟨D, rfl, (same_upd hD2).trans e, h⟩⟩
      rintro _ H1 ⟨D, rfl, e1, hD⟩
      refine ⟨fun σ' H' => ∃ D, σ' = [some (.str x), some (.ref a), some (.ref b), some (.int (sz : Int)), none, some (.ref D)] ∧ Same H H' ∧ H' D = some (.lst ((if 1 < (takF "" (os ++ ps) 7 sz).length then takF "" os 7 sz ++ takF "" ps 7 sz else takF "" (os ++ ps) 7 sz).map V.str)), ?_, ?_⟩
      · refine ⟨_, rfl, D, _, rfl, .inl (SqL.of hD), _, _, rfl, rfl, _, rfl, ite2 (fun hq => ?_) (fun hq => ?_)⟩
        · have hq' : 1 < (takF "" (os ++ ps) 7 (sz : Int)).length := by
            have := of_decide_eq_true hq
            rw [List.length_map] at this
            omega
          refine ⟨_, rfl, _, rfl, (by rw [hz6]; decide), _, rfl, "", a, os, 7, _, rfl, e1 _ _ ha, (by decide), ho, (by decide), fun D2 H2 e2 h2 => ?_⟩
          refine ⟨_, rfl, _, rfl, (by rw [hz6]; decide), _, rfl, "", b, ps, 7, _, rfl, e2 _ _ (e1 _ _ hb), (by decide), hp, (by decide), fun D3 H3 e3 h3 => ?_⟩
          refine ⟨D2, D3, _, _, rfl, rfl, e3 _ _ h2, h3, (by rw [List.length_map, List.length_map]; omega), fun D4 hD4 => ⟨D4, rfl, ((e1.trans e2).trans e3).trans (same_upd hD4), ?_⟩⟩
          rw [upd_same, if_pos hq', List.map_append]
        · have hq' : ¬ 1 < (takF "" (os ++ ps) 7 (sz : Int)).length := fun z => hq (decide_eq_true (by rw [List.length_map]; omega))
          exact ⟨D, rfl, e1, by rw [hD, if_neg hq']⟩
      rintro _ H2 ⟨D', rfl, e2, hD'⟩
      refine ⟨_, rfl, (by show 1 ≤ sizeLine; decide), fun D2 hD2 => ⟨_, rfl, D2, D', _, _, rfl, rfl, upd_same, same_upd hD2 _ _ hD', ?_, fun D3 hD3 => k D3 _ (e2.trans (same_upd2 (same_upd hD2) hD3)) ?_⟩⟩
      · rw [List.length_map]
        show 1 + _ ≤ sizeLine
        split
        · rw [List.length_append]
          omega
        · omega
      · rw [upd_same]
        unfold ulF
        rw [if_neg hc']
        rfl
/-! ### the parts of a usage -/
def Opts (CA : Addr) (H : Hp) (as : List V) (fls : List (Str × Str)) : Prop := PySem.Paired (fun v p => ∃ dst, ArgC CA H v p.1 dst p.2) as fls
theorem Opts.keep {CA : Addr} {H H' : Hp} {as : List V} {fls : List (Str × Str)} (h : Opts CA H as fls) (e : Same H H') : Opts CA H' as fls := paired_map (fun _ _ ⟨d, q⟩ => ⟨d, q.keep e⟩) h
theorem paired_at {α β : Type} {R : α → β → Prop} : ∀ {xs : List α} {ys : List β} {i : Nat} {x : α}, PySem.Paired R xs ys → xs[i]? = some x → ∃ y, ys[i]? = some y ∧ R x y
  | _, _, i, x, .nil, h => by simp at h
  | _, _, 0, x, .cons h t, e => by
    simp at e
    subst e
    exact ⟨_, rfl, h⟩
  | _, _, i + 1, x, .cons h t, e => paired_at (i := i) t (by simpa using e)
def PairAt (H : Hp) (v : V) (p : Bool × Str) : Prop := ∃ T, v = .ref T ∧ H T = some (.tup [.bl p.1, .str p.2])
theorem PairAt.keep {H H' : Hp} {v : V} {p : Bool × Str} (h : PairAt H v p) (e : Same H H') : PairAt H' v p := by
  obtain ⟨T, h1, h2⟩ := h
  exact ⟨T, h1, e _ _ h2⟩
def PairsAt (H : Hp) (D : Addr) (ps : List (Bool × Str)) : Prop := ∃ vs, H D = some (.lst vs) ∧ PySem.Paired (PairAt H) vs ps
theorem PairsAt.keep {H H' : Hp} {D : Addr} {ps : List (Bool × Str)} (h : PairsAt H D ps) (e : Same H H') : PairsAt H' D ps := by
  obtain ⟨vs, h1, h2⟩ := h
  exact ⟨vs, e _ _ h1, paired_map (fun _ _ q => q.keep e) h2⟩
def spParts (CA : Addr) : Sp := fun vs H Q _ => ∃ (a b : Addr) (lay : V) (as : List V) (fls : List (Str × Str)), vs = [.ref a, .ref b, lay] ∧ H a = some (.lst as) ∧ Opts CA H as fls ∧ as.length ≤ 50 ∧ H b = some (.lst []) ∧ ∀ (D : Addr) (H' : Hp), Same H H' → PairsAt H' D (fls.map fun p => (true, br p.1)) → Q (.ref D) H'
abbrev nPO : List Str := ["arguments", "exclusives", "layout", "parts", "group", "places", "at", "signs", "argument", "part"]
theorem scPO : FnScope nPO ["arguments", "exclusives", "layout"] (defScope sPartsOf) := ⟨rfl, rfl, rfl, by decide +kernel, rfl, by decide +kernel, by decide +kernel⟩
theorem ok_parts {f fP fS CA : Addr} {fd fdP fdS : FuncData} (F : Fun K "parts_of" "parts_of" sPartsOf f fd) (T : TxtB mg) (cA : ClsN K CA argF) (Pa : At P w K mg base "part_of" 3 ["argument", "layout"] (spPart CA) fP fdP) (Sh : At P w K mg base "is_shown" 1 ["argument"] (spShown CA) fS fdS) : FnOk P w K mg base CX0 4 f fd ["arguments", "exclusives", "layout"] (spParts CA) := by
  refine F.ok scPO (fun vs H Q E h => ?_) (fun cdv A outer s H vs Q E hr h => ?_)
  · obtain ⟨a, b, v, as, fls, rfl, _⟩ := h
    rfl
  · obtain ⟨a, b, v, as, fls, rfl, ha, ho, hn, hb, k⟩ := h
    have hz6 : PySem.sizeLine = 16777216 := PySem.sizeLine_eq
    have r1 : Room 1 (A.deeper (PyProof.Rows.envOfC "parts_of" (defScope sPartsOf) s.heap.objs.size f cdv)) := hr.mono (by decide)
    have hlen : as.length = fls.length := PySem.Paired.length ho
    refine ⟨_, pss_mid (ps_setLc (i := 3) (own := [("argument", 8)]) (g := gName 8) (tt := tYes) rfl scPO.nd rfl rfl (sw_true rfl rfl rfl (by decide +kernel)) (pi_list (pv 0)) (blkOk_by (N := nPO) (sc := defScope sPartsOf) (by decide +kernel)) (fun _ _ _ _ _ => pg_name (i := 8) scPO.nd rfl (Or.inl rfl)) (fun _ _ _ _ _ => pts_nil) (fun _ _ _ _ _ => pe_call Pa.ok hr rfl Pa.m Pa.k Pa.b .nil pass0 (pa_cons (pv 8) (pa_cons (pv 2) pa_nil))))
      (pss_mid (ps_for PassesOwn.never rfl (pi_list (pv 1)) (pg_name (i := 4) scPO.nd rfl (Or.inl rfl)) pss_never)
      (pss_one (ps_ret (pe_lc (own := [("argument", 8), ("part", 9)]) (g := gTup K 2 (gCons (gName 8) (gCons (gName 9) gNil))) (tt := tB (tCall (spShown CA) [] E0 (tCons (tVar 8) tNil))) (te := tTup (tCons (tFld K (tVar 8) "is_option") (tCons (tVar 9) tNil))) rfl scPO.nd (RZ.pi_zipA (by rfl) T.zip (pa_cons (pv 0) (pa_cons (pv 3) pa_nil))) (blkOk_by (N := nPO) (sc := defScope sPartsOf) (by decide +kernel)) (fun _ _ _ _ _ => pg_tup rfl (pgs_cons (pg_name (i := 8) scPO.nd rfl (Or.inl rfl)) (pgs_cons (pg_name (i := 9) scPO.nd rfl (Or.inl rfl)) pgs_nil))) (fun _ _ _ _ _ => by exact pts_one (pt_val (pe_call Sh.ok (by exact r1) rfl Sh.m Sh.k Sh.b .nil pass0 (pa_cons (pv 8) pa_nil)))) (fun _ _ _ _ _ => by exact pe_tup (pa_cons (pe_fld (pv 8) rfl) (pa_cons (pv 9) pa_nil))))))), ?_⟩
    refine ⟨fun σ' H' => ∃ D, σ' = [some (.ref a), some (.ref b), some v, some (.ref D), none, none, none, none, none, none] ∧ Same H H' ∧ H' D = some (.lst ((fls.map fun p => br p.1).map V.str)), ?_, ?_⟩
    · refine ⟨_, rfl, a, rfl, ⟨_, SqL.of ha⟩, fun D hD => ?_⟩
      refine lc_list (K := K) (a := a) (xs := as) (fun i H' => Same H H' ∧ H' D = some (.lst (((fls.take i).map fun p => br p.1).map V.str))) ⟨same_upd hD, upd_same⟩ (fun i H' _ h => SqL.of (h.1 _ _ ha)) (fun i x H' hx h => ?_) (fun H' h => ?_)
      · obtain ⟨p, hp, dst, hA⟩ := paired_at ho hx
        have hi := (List.getElem?_eq_some_iff.mp hx).1
        refine ⟨rfl, _, rfl, _, rfl, x, v, p.1, dst, p.2, rfl, hA.keep h.1, _, h.2, (by rw [List.length_map, List.length_map, List.length_take]; omega), same_mut h.1 hD, ?_⟩
        rw [upd_same, take_more' hp, List.map_append, List.map_append]
        rfl
      · obtain ⟨h1, h2⟩ := h
        rw [hlen, List.take_length] at h2
        exact ⟨D, rfl, h1, h2⟩
    rintro _ H1 ⟨D, rfl, e1, hD⟩
    refine ⟨fun σ' H' => σ' = [some (.ref a), some (.ref b), some v, some (.ref D), none, none, none, none, none, none] ∧ H1 = H', ?_, ?_⟩
    · refine ⟨_, rfl, b, rfl, ⟨_, SqL.of (e1 _ _ hb)⟩, ?_⟩
      refine for_list (K := K) (a := b) (xs := []) (g := gName 4) (tb := fun _ _ _ => False) (D := { nx := fun σ' H' => σ' = [some (.ref a), some (.ref b), some v, some (.ref D), none, none, none, none, none, none] ∧ H1 = H', rt := Q }) (fun _ σ' H' => σ' = [some (.ref a), some (.ref b), some v, some (.ref D), none, none, none, none, none, none] ∧ H1 = H') ⟨rfl, rfl⟩ ?_ ?_ ?_
      · exact fun i σ' H' _ h => by
          rw [← h.2]
          exact SqL.of (e1 _ _ hb)
      · exact fun i y σ' H' hy h => by simp at hy
      · exact fun σ' H' h => h
    rintro _ _ ⟨rfl, rfl⟩
    have ha1 := e1 _ _ ha
    have ho1 := ho.keep e1
    refine ⟨_, rfl, _, rfl, a, D, as, (fls.map fun p => br p.1).map V.str, rfl, .inl ⟨SqL.of ha1, SqL.of hD, fun D2 hD2 => ?_⟩⟩
    refine lc_it (walk_zip (K := K) (a := a) (b := D) (xs := as) (ys := (fls.map fun p => br p.1).map V.str) (n := fls.length) (by rw [List.length_map, List.length_map]; omega)) (g := gTup K 2 (gCons (gName 8) (gCons (gName 9) gNil))) (tt := tB (tCall (spShown CA) [] E0 (tCons (tVar 8) tNil))) (te := tTup (tCons (tFld K (tVar 8) "is_option") (tCons (tVar 9) tNil))) (vs := [8, 9]) (fun i H' => Same H1 H' ∧ ∃ vs, H' D2 = some (.lst vs) ∧ PySem.Paired (PairAt H') vs ((fls.take i).map fun p => (true, br p.1))) ⟨same_upd hD2, [], upd_same, .nil⟩ (fun i H' _ h => ⟨SqL.of (h.1 _ _ ha1), SqL.of (h.1 _ _ hD)⟩) (fun i y H' H'' hi h q => ?_) (fun H' h => ?_)
    · obtain ⟨e, vs, hv, hpp⟩ := h
      obtain ⟨TT, x, z, rfl, hTT, rfl, hx, hz⟩ := q
      have hx : as[i]? = some x := hx
      have hz : ((fls.map fun p => br p.1).map V.str)[i]? = some z := hz
      obtain ⟨p, hp, dst, hA⟩ := paired_at ho1 hx
      obtain ⟨y, hy, rfl⟩ := str_at hz
      rw [List.getElem?_map, hp] at hy
      have hy : br p.1 = y := Option.some.inj hy
      subst hy
      have eT := same_upd (o := .tup [x, .str (br p.1)]) hTT
      have hgT : (upd H' TT (.tup [x, .str (br p.1)])) TT = some (.tup [x, .str (br p.1)]) := upd_same
      generalize upd H' TT (.tup [x, .str (br p.1)]) = GT at eT hgT
      have hAG := hA.keep (e.trans eT)
      have hvl := PySem.Paired.length hpp
      rw [List.length_map, List.length_take] at hvl
      obtain ⟨A1, dx, U, ve, fe, rfl, hU, hA1⟩ := hAG.ex
      refine ⟨TT, _, rfl, SqT.of hgT, rfl, _, _, rfl, _, _, rfl, rfl, rfl, ?_⟩
      refine ⟨_, rfl, .ref A1, p.1, dst, p.2, rfl, hAG, true, rfl, ?_⟩
      refine iteT ?_
      refine ⟨_, rfl, A1, CA, dx, _, _, rfl, hA1, cA.cl, cA.no _ (by decide +kernel), rfl, _, rfl, (by show 2 ≤ sizeLine; decide), fun N hN => ?_⟩
      have eN := same_upd (o := .tup [.bl true, .str (br p.1)]) hN
      have nND : N ≠ D2 := (ne_of_none (eT _ _ hv) hN).symm
      have hD20 : H1 D2 = none := hD2
      refine ⟨vs, eN _ _ (eT _ _ hv), (by omega), same_mut ((e.trans eT).trans eN) hD2, vs ++ [.ref N], upd_same, ?_⟩
      rw [take_more' hp, List.map_append]
      refine paired_snoc (paired_map (fun v q hq => ?_) hpp) ⟨N, rfl, ?_⟩
      · obtain ⟨T0, q1, q2⟩ := hq
        refine ⟨T0, q1, ?_⟩
        rw [upd_ne (fun z => by rw [z, hv] at q2; cases q2)]
        exact eN _ _ (eT _ _ q2)
      · rw [upd_ne nND, upd_same]
    · obtain ⟨e, vs, hv, hpp⟩ := h
      rw [List.take_length] at hpp
      exact k D2 H' (e1.trans e) ⟨vs, hv, hpp⟩
end
end K46

namespace K46
open PySem L2 PyProof PyProof.Rows
/-! ### the usage of a parser of options -/
def usF (pr : Str) (fls : List (Str × Str)) (wd : Nat) : Str :=
  let w := Txt.join " " (("usage: " ++ pr) :: fls.map fun p => br p.1)
  if w.length ≤ wd then w else Txt.join "\n" (ulF ("usage: " ++ pr) (fls.map fun p => br p.1) [] wd)
def spUsage (K : PySem.W.Frag) (CP CA : Addr) : Sp := fun vs H Q _ => ∃ (p aL la le ls : Addr) (pr : Str) (ds ep : V) (wd : Nat) (as : List V) (fls : List (Str × Str)), vs = [.ref p] ∧ PrT CP H p pr .non ds ep wd aL la le ls ∧ H la = some (.lst as) ∧ Opts CA H as fls ∧ as.length ≤ 50 ∧ H le = some (.lst []) ∧ pr.length ≤ 100 ∧ wd ≤ 10000 ∧ ∀ H', Same H H' → Q (.str (usF pr fls wd)) H'
theorem opts_len {CA : Addr} {H : Hp} {as : List V} {fls : List (Str × Str)} (h : Opts CA H as fls) (hn : as.length ≤ 50) : small1 (fls.map fun p => br p.1) := by
  have hl : as.length = fls.length := PySem.Paired.length h
  refine ⟨by rw [List.length_map]; omega, fun x hx => ?_⟩
  obtain ⟨p, hp, rfl⟩ := List.mem_map.mp hx
  have key : ∀ {as : List V} {fls : List (Str × Str)}, Opts CA H as fls → ∀ p ∈ fls, p.1.length ≤ 40 := fun h => by
    induction h with
    | nil => intro p z; cases z
    | cons a t ih =>
      intro p hp
      rcases List.mem_cons.mp hp with rfl | hp
      · obtain ⟨d, q⟩ := a
        exact q.l.1
      · exact ih p hp
  have := key h p hp
  show ("[" ++ p.1 ++ "]").length ≤ 200
  rw [Str.length_append, Str.length_append]
  have h1 : ("[" : Str).length = 1 := rfl
  have h2 : ("]" : Str).length = 1 := rfl
  omega
theorem sum_le {n : Nat} : ∀ {xs : List Nat}, (∀ x ∈ xs, x ≤ n) → xs.sum ≤ n * xs.length
  | [], _ => Nat.le_refl _
  | x :: xs, h => by
    have := sum_le (xs := xs) fun y hy => h y (List.mem_cons_of_mem _ hy)
    have h1 := h x List.mem_cons_self
    rw [List.sum_cons, List.length_cons, Nat.mul_succ]
    omega
theorem strs_sum {n : Nat} {xs : List Str} (h : ∀ x ∈ xs, x.length ≤ n) : (xs.map (·.length)).sum ≤ n * xs.length := by
  have := sum_le (n := n) (xs := xs.map (·.length)) fun y hy => by
    obtain ⟨x, hx, rfl⟩ := List.mem_map.mp hy
    exact h x hx
  rwa [List.length_map] at this
theorem ulF_len {x : Str} {os ps : List Str} {sz : Nat} (hx : x.length ≤ 150) (ho : small1 os) (hp : small1 ps) (hop : small1 (os ++ ps)) : (ulF x os ps sz).length ≤ 203 ∧ ∀ r ∈ ulF x os ps sz, r.length ≤ 30000 := by
  have e0 : ("" : Str).length ≤ 1000 := by decide
  unfold ulF
  split
  · split
    · obtain ⟨a, b⟩ := takF_len (x := x) (ind := x.length + 1) (sz := (sz : Int)) (by omega) hp (by omega)
      exact ⟨by omega, b⟩
    · obtain ⟨a, b⟩ := takF_len (x := x) (ind := x.length + 1) (sz := (sz : Int)) (by omega) ho (by omega)
      obtain ⟨c, d⟩ := takF_len (x := "") (ind := x.length + 1) (sz := (sz : Int)) (by omega) hp e0
      refine ⟨by rw [List.length_append]; omega, fun r hr => ?_⟩
      rcases List.mem_append.mp hr with hr | hr
      · exact b r hr
      · exact d r hr
  · obtain ⟨a, b⟩ := takF_len (x := "") (ind := 7) (sz := (sz : Int)) (by omega) ho e0
    obtain ⟨c, d⟩ := takF_len (x := "") (ind := 7) (sz := (sz : Int)) (by omega) hp e0
    obtain ⟨e, f⟩ := takF_len (x := "") (ind := 7) (sz := (sz : Int)) (by omega) hop e0
    refine ⟨?_, fun r hr => ?_⟩
    · rw [List.length_cons]
      split
      · rw [List.length_append]
        omega
      · omega
    · rcases List.mem_cons.mp hr with rfl | hr
      · omega
      · split at hr
        · rcases List.mem_append.mp hr with hr | hr
          · exact b r hr
          · exact d r hr
        · exact f r hr
section
variable {P : Program} {w : World} {K : PySem.W.Frag} {mg : Str → Option Value} {base : Heap}
abbrev nUT : List Str := ["parser", "arguments", "pairs", "whole", "options", "positionals", "argument", "is_option", "part"]
theorem scUT : FnScope nUT ["parser"] (defScope sUsageText) := ⟨rfl, rfl, rfl, by decide +kernel, rfl, by decide +kernel, by decide +kernel⟩
theorem ok_usage {f fP fL CP CA : Addr} {fd fdP fdL : FuncData} {tn : Tok} (F : Fun K "usage_text" "usage_text" sUsageText f fd) (T : TxtB mg) (cP : ClsN K CP parF) (cA : ClsN K CA argF) (hS : mg "START" = some (.str "usage: " tn)) (Po : At P w K mg base "parts_of" 4 ["arguments", "exclusives", "layout"] (spParts CA) fP fdP) (Ul : At P w K mg base "usage_lines" 2 ["start", "options", "positionals", "size"] spULines fL fdL) :
    FnOk P w K mg base CX0 5 f fd ["parser"] (spUsage K CP CA) := by
  refine F.ok scUT (fun vs H Q E h => ?_) (fun cdv A outer s H vs Q E hr h => ?_)
  · obtain ⟨p, aL, la, le, ls, pr, ds, ep, wd, as, fls, rfl, _⟩ := h
    rfl
  · obtain ⟨p, aL, la, le, ls, pr, ds, ep, wd, as, fls, rfl, hp, hla, ho, hn, hle, hpr, hwd, k⟩ := h
    have hz6 : PySem.sizeLine = 16777216 := PySem.sizeLine_eq
    have r2 : Room 2 (A.deeper (PyProof.Rows.envOfC "usage_text" (defScope sUsageText) s.heap.objs.size f cdv)) := hr.mono (by decide)
    obtain ⟨dx, pf, cf, ab, ee, fi, lf, dd, hP⟩ := hp.ex
    have hsl : ("usage: " : Str).length = 7 := rfl
    have hsm := opts_len ho hn
    have hal : as.length = fls.length := PySem.Paired.length ho
    refine ⟨_, pss_cons (ps_if (pt_cmp (pc_notN (pe_fld (pv 0) rfl))) pss_never pss_nil)
      (pss_mid (ps_setLc (i := 1) (own := [("argument", 6)]) (g := gName 6) (tt := tB (tFld K (tVar 6) "is_option")) (te := tVar 6) rfl scUT.nd rfl rfl (sw_true rfl rfl rfl (by decide +kernel)) (pi_list (pe_fld (pv 0) rfl)) (blkOk_by (N := nUT) (sc := defScope sUsageText) (by decide +kernel)) (fun _ _ _ _ _ => pg_name (i := 6) scUT.nd rfl (Or.inl rfl)) (fun _ _ _ _ _ => by exact pts_one (pt_val (pe_fld (pv 6) rfl))) (fun _ _ _ _ _ => pv 6))
      (pss_mid (ps_set (i := 1) scUT.nd rfl (Or.inl rfl) (pe_op op_cat (pv 1) (pe_lc (own := [("argument", 6)]) (g := gName 6) (tt := tNot (tB (tFld K (tVar 6) "is_option"))) (te := tVar 6) rfl scUT.nd (pi_list (pe_fld (pv 0) rfl)) (blkOk_by (N := nUT) (sc := defScope sUsageText) (by decide +kernel)) (fun _ _ _ _ _ => pg_name (i := 6) scUT.nd rfl (Or.inl rfl)) (fun _ _ _ _ _ => by exact pts_one (pt_not (pt_val (pe_fld (pv 6) rfl)))) (fun _ _ _ _ _ => pv 6))))
      (pss_mid (ps_set (i := 2) scUT.nd rfl (Or.inl rfl) (pe_call Po.ok hr rfl Po.m Po.k Po.b .nil pass0 (pa_cons (pv 1) (pa_cons (pe_fld (pv 0) rfl) (pa_cons (pe_fld (pv 0) rfl) pa_nil)))))
      (pss_mid (ps_set (i := 3) scUT.nd rfl (Or.inl rfl) (pe_bm PySem.F.plainAttrs_str PySem.F.slot_str_join PySem.F.type_str_join mt_join pe_str (pa_cons (pe_op op_cat (pe_lst (pa_cons (pe_op op_add_str (pe_glob (v := .str "usage: ") rfl hS ⟨tn, rfl⟩) (pe_fld (pv 0) rfl)) pa_nil)) (pe_lc (own := [("is_option", 7), ("part", 8)]) (g := gTup K 2 (gCons (gName 7) (gCons (gName 8) gNil))) (tt := tYes) (te := tVar 8) rfl scUT.nd (pi_list (pv 2)) (blkOk_by (N := nUT) (sc := defScope sUsageText) (by decide +kernel)) (fun _ _ _ _ _ => pg_tup rfl (pgs_cons (pg_name (i := 7) scUT.nd rfl (Or.inl rfl)) (pgs_cons (pg_name (i := 8) scUT.nd rfl (Or.inl rfl)) pgs_nil))) (fun _ _ _ _ _ => pts_nil) (fun _ _ _ _ _ => pv 8))) pa_nil)))
      (pss_cons (ps_if (pt_cmpR op_le (pe_callB call_len_str (by rfl) T.len PySem.boot_len (pa_cons (pv 3) pa_nil)) (pe_fld (pv 0) rfl) (nomark _)) (pss_one (ps_ret (pv 3))) pss_nil)
      (pss_mid (ps_setLc (i := 4) (own := [("is_option", 7), ("part", 8)]) (g := gTup K 2 (gCons (gName 7) (gCons (gName 8) gNil))) (tt := tB (tVar 7)) (te := tVar 8) rfl scUT.nd rfl rfl (sw_true rfl rfl rfl (by decide +kernel)) (pi_list (pv 2)) (blkOk_by (N := nUT) (sc := defScope sUsageText) (by decide +kernel)) (fun _ _ _ _ _ => pg_tup rfl (pgs_cons (pg_name (i := 7) scUT.nd rfl (Or.inl rfl)) (pgs_cons (pg_name (i := 8) scUT.nd rfl (Or.inl rfl)) pgs_nil))) (fun _ _ _ _ _ => by exact pts_one (pt_val (pv 7))) (fun _ _ _ _ _ => pv 8))
      (pss_mid (ps_setLc (i := 5) (own := [("is_option", 7), ("part", 8)]) (g := gTup K 2 (gCons (gName 7) (gCons (gName 8) gNil))) (tt := tNot (tB (tVar 7))) (te := tVar 8) rfl scUT.nd rfl rfl (sw_true rfl rfl rfl (by decide +kernel)) (pi_list (pv 2)) (blkOk_by (N := nUT) (sc := defScope sUsageText) (by decide +kernel)) (fun _ _ _ _ _ => pg_tup rfl (pgs_cons (pg_name (i := 7) scUT.nd rfl (Or.inl rfl)) (pgs_cons (pg_name (i := 8) scUT.nd rfl (Or.inl rfl)) pgs_nil))) (fun _ _ _ _ _ => by exact pts_one (pt_not (pt_val (pv 7)))) (fun _ _ _ _ _ => pv 8))
      (pss_one (ps_ret (pe_bm PySem.F.plainAttrs_str PySem.F.slot_str_join PySem.F.type_str_join mt_join pe_str (pa_cons (pe_call Ul.ok r2 rfl Ul.m Ul.k Ul.b .nil pass0 (pa_cons (pe_op op_add_str (pe_glob (v := .str "usage: ") rfl hS ⟨tn, rfl⟩) (pe_fld (pv 0) rfl)) (pa_cons (pv 4) (pa_cons (pv 5) (pa_cons (pe_fld (pv 0) rfl) pa_nil))))) pa_nil))))))))))), ?_⟩
    refine ⟨_, rfl, p, CP, dx, _, _, rfl, hP, cP.cl, cP.no _ (by decide +kernel), rfl, _, rfl, iteF ?_⟩
    -- options
    refine ⟨fun σ' H' => ∃ D, σ' = [some (.ref p), some (.ref D), none, none, none, none, none, none, none] ∧ Same H H' ∧ H' D = some (.lst as), ?_, ?_⟩
    · refine ⟨_, rfl, p, CP, dx, _, _, rfl, hP, cP.cl, cP.no _ (by decide +kernel), rfl, la, rfl, ⟨_, SqL.of hla⟩, fun D hD => ?_⟩
      refine lc_list (K := K) (a := la) (xs := as) (fun i H' => Same H H' ∧ H' D = some (.lst (as.take i))) ⟨same_upd hD, upd_same⟩ (fun i H' _ h => SqL.of (h.1 _ _ hla)) (fun i x H' hx h => ?_) (fun H' h => ?_)
      · obtain ⟨q, hq, dst, hA⟩ := paired_at ho hx
        have hi := (List.getElem?_eq_some_iff.mp hx).1
        obtain ⟨A1, dx1, U, ve, fe, rfl, hU, hA1⟩ := (hA.keep h.1).ex
        refine ⟨rfl, _, rfl, A1, CA, dx1, _, _, rfl, hA1, cA.cl, cA.no _ (by decide +kernel), rfl, true, rfl, iteT ⟨_, rfl, _, h.2, (by rw [List.length_take]; omega), same_mut h.1 hD, ?_⟩⟩
        rw [upd_same, take_more' hx]
      · obtain ⟨h1, h2⟩ := h
        rw [List.take_length] at h2
        exact ⟨D, rfl, h1, h2⟩
    rintro _ H1 ⟨D1, rfl, e1, hD1⟩
    have hP1 := e1 _ _ hP
    have hla1 := e1 _ _ hla
    refine ⟨fun σ' H' => ∃ D, σ' = [some (.ref p), some (.ref D), none, none, none, none, none, none, none] ∧ Same H1 H' ∧ H' D = some (.lst as), ?_, ?_⟩
    · refine ⟨_, rfl, _, rfl, p, CP, dx, _, _, rfl, hP1, cP.cl, cP.no _ (by decide +kernel), rfl, la, rfl, ⟨_, SqL.of hla1⟩, fun D hD => ?_⟩
      refine lc_list (K := K) (a := la) (xs := as) (fun i H' => Same H1 H' ∧ H' D = some (.lst [])) ⟨same_upd hD, upd_same⟩ (fun i H' _ h => SqL.of (h.1 _ _ hla1)) (fun i x H' hx h => ?_) (fun H' h => ?_)
      · obtain ⟨q, hq, dst, hA⟩ := paired_at ho hx
        obtain ⟨A1, dx1, U, ve, fe, rfl, hU, hA1⟩ := (hA.keep (e1.trans h.1)).ex
        exact ⟨rfl, _, rfl, A1, CA, dx1, _, _, rfl, hA1, cA.cl, cA.no _ (by decide +kernel), rfl, true, rfl, iteF h⟩
      · exact ⟨D1, D, _, _, rfl, rfl, h.1 _ _ hD1, h.2, (by show as.length + 0 ≤ sizeLine; omega), fun D3 hD3 => ⟨D3, rfl, h.1.trans (same_upd hD3), by rw [upd_same, List.append_nil]⟩⟩
    rintro _ H2 ⟨D2, rfl, e2, hD2⟩
    have hP2 := e2 _ _ hP1
    refine ⟨fun σ' H' => ∃ D vs, σ' = [some (.ref p), some (.ref D2), some (.ref D), none, none, none, none, none, none] ∧ Same H2 H' ∧ H' D = some (.lst vs) ∧ PySem.Paired (PairAt H') vs (fls.map fun q => (true, br q.1)), ?_, ?_⟩
    · exact ⟨_, rfl, _, rfl, p, CP, dx, _, _, rfl, hP2, cP.cl, cP.no _ (by decide +kernel), rfl, _, rfl, p, CP, dx, _, _, rfl, hP2, cP.cl, cP.no _ (by decide +kernel), rfl, D2, le, _, as, fls, rfl, hD2, ho.keep (e1.trans e2), hn, e2 _ _ (e1 _ _ hle), fun D H' e ⟨vs, h1, h2⟩ => ⟨D, vs, rfl, e, h1, h2⟩⟩
    rintro _ H3 ⟨D3, vs, rfl, e3, hD3, hpp⟩
    have hP3 := e3 _ _ hP2
    have hvl := PySem.Paired.length hpp
    rw [List.length_map] at hvl
    -- the parts, whatever the test
    have parts_sum : ((("usage: " ++ pr) :: fls.map fun q => br q.1).map (·.length)).sum ≤ 200 * (fls.length + 1) := by
      have := strs_sum (n := 200) (xs := ("usage: " ++ pr) :: fls.map fun q => br q.1) fun x hx => by
        rcases List.mem_cons.mp hx with rfl | hx
        · rw [Str.length_append, hsl]
          omega
        · exact hsm.2 x hx
      rw [List.length_cons, List.length_map] at this
      exact this
    have h1 : (" " : Str).length = 1 := rfl
    refine ⟨fun σ' H' => σ' = [some (.ref p), some (.ref D2), some (.ref D3), some (.str (Txt.join " " (("usage: " ++ pr) :: fls.map fun q => br q.1))), none, none, none, none, none] ∧ Same H3 H', ?_, ?_⟩
    · refine ⟨rfl, _, rfl, p, CP, dx, _, _, rfl, hP3, cP.cl, cP.no _ (by decide +kernel), rfl, _, _, rfl, rfl, (by rw [hsl]; omega), (by show 1 ≤ sizeLine; decide), fun D4 hD4 => ?_⟩
      have e4 := same_upd (o := .lst [.str ("usage: " ++ pr)]) hD4
      have hD4g : (upd H3 D4 (.lst [.str ("usage: " ++ pr)])) D4 = some (.lst [.str ("usage: " ++ pr)]) := upd_same
      generalize upd H3 D4 (.lst [.str ("usage: " ++ pr)]) = G4 at e4 hD4g
      have hD34 := e4 _ _ hD3
      refine ⟨_, rfl, D3, rfl, ⟨_, SqL.of hD34⟩, fun D5 hD5 => ?_⟩
      refine lc_list (K := K) (a := D3) (xs := vs) (fun i H' => Same G4 H' ∧ H' D5 = some (.lst (((fls.take i).map fun q => br q.1).map V.str))) ⟨same_upd hD5, upd_same⟩ (fun i H' _ h => SqL.of (h.1 _ _ hD34)) (fun i x H' hx h => ?_) (fun H' h => ?_)
      · obtain ⟨q, hq, TT, rfl, hTT⟩ := paired_at hpp hx
        have hi := (List.getElem?_eq_some_iff.mp hx).1
        rw [List.getElem?_map] at hq
        obtain ⟨fl, hfl, rfl⟩ := Option.map_eq_some_iff.mp hq
        have hTT' := h.1 _ _ (e4 _ _ hTT)
        refine ⟨TT, _, rfl, SqT.of hTT', rfl, _, _, rfl, _, _, rfl, rfl, rfl, _, rfl, _, h.2, (by rw [List.length_map, List.length_map, List.length_take]; omega), same_mut h.1 hD5, ?_⟩
        rw [upd_same, take_more' hfl, List.map_append, List.map_append]
        rfl
      · obtain ⟨g1, g2⟩ := h
        rw [hvl, List.take_length] at g2
        refine ⟨D4, D5, _, _, rfl, rfl, g1 _ _ hD4g, g2, (by rw [List.length_map, List.length_map]; show 1 + _ ≤ sizeLine; omega), fun D6 hD6 => ⟨" ", D6, ("usage: " ++ pr) :: fls.map fun q => br q.1, rfl, rfl, .inl (SqL.of (by rw [upd_same]; rfl)), ?_, rfl, (e4.trans g1).trans (same_upd hD6)⟩⟩
        rw [h1, List.length_cons, List.length_map]
        omega
    rintro _ H4 ⟨rfl, e4⟩
    have hP4 := e4 _ _ hP3
    have eH := (e1.trans e2).trans (e3.trans e4)
    have hwl : (Txt.join " " (("usage: " ++ pr) :: fls.map fun q => br q.1)).length ≤ 20000 := by
      have := join_len " " (("usage: " ++ pr) :: fls.map fun q => br q.1)
      rw [List.length_cons, List.length_map, h1] at this
      omega
    have hus : usF pr fls wd = if (Txt.join " " (("usage: " ++ pr) :: fls.map fun q => br q.1)).length ≤ wd then Txt.join " " (("usage: " ++ pr) :: fls.map fun q => br q.1) else Txt.join "\n" (ulF ("usage: " ++ pr) (fls.map fun p => br p.1) [] wd) := rfl
    rw [hus] at k
    generalize Txt.join " " (("usage: " ++ pr) :: fls.map fun q => br q.1) = W at hwl k ⊢
    refine ⟨_, rfl, _, rfl, (by omega), _, rfl, p, CP, dx, _, _, rfl, hP4, cP.cl, cP.no _ (by decide +kernel), rfl, _, _, rfl, rfl, _, rfl, ?_⟩
    refine ite2 (fun hc => ⟨_, rfl, ?_⟩) (fun hc => ?_)
    · have hc' : W.length ≤ wd := by
        have := of_decide_eq_true hc
        omega
      rw [if_pos hc'] at k
      exact k H4 eH
    have hc' : ¬ W.length ≤ wd := fun z => hc (decide_eq_true (by omega))
    rw [if_neg hc'] at k
    have hD34 := e4 _ _ hD3
    have hpp4 : PySem.Paired (PairAt H4) vs (fls.map fun q => (true, br q.1)) := paired_map (fun _ _ q => q.keep e4) hpp
    refine ⟨fun σ' H' => ∃ D, σ' = [some (.ref p), some (.ref D2), some (.ref D3), some (.str W), some (.ref D), none, none, none, none] ∧ Same H4 H' ∧ H' D = some (.lst ((fls.map fun q => br q.1).map V.str)), ?_, ?_⟩
    · refine ⟨_, rfl, D3, rfl, ⟨_, SqL.of hD34⟩, fun D5 hD5 => ?_⟩
      refine lc_list (K := K) (a := D3) (xs := vs) (fun i H' => Same H4 H' ∧ H' D5 = some (.lst (((fls.take i).map fun q => br q.1).map V.str))) ⟨same_upd hD5, upd_same⟩ (fun i H' _ h => SqL.of (h.1 _ _ hD34)) (fun i x H' hx h => ?_) (fun H' h => ?_)
      · obtain ⟨q, hq, TT, rfl, hTT⟩ := paired_at hpp4 hx
        have hi := (List.getElem?_eq_some_iff.mp hx).1
        rw [List.getElem?_map] at hq
        obtain ⟨fl, hfl, rfl⟩ := Option.map_eq_some_iff.mp hq
        have hTT' := h.1 _ _ hTT
        refine ⟨TT, _, rfl, SqT.of hTT', rfl, _, _, rfl, _, _, rfl, rfl, rfl, _, rfl, true, rfl, iteT ⟨_, rfl, _, h.2, (by rw [List.length_map, List.length_map, List.length_take]; omega), same_mut h.1 hD5, ?_⟩⟩
        rw [upd_same, take_more' hfl, List.map_append, List.map_append]
        rfl
      · obtain ⟨g1, g2⟩ := h
        rw [hvl, List.take_length] at g2
        exact ⟨D5, rfl, g1, g2⟩
    rintro _ H5 ⟨D5, rfl, e5, hD5⟩
    have hD35 := e5 _ _ hD34
    have hpp5 : PySem.Paired (PairAt H5) vs (fls.map fun q => (true, br q.1)) := paired_map (fun _ _ q => q.keep e5) hpp4
    refine ⟨fun σ' H' => ∃ D, σ' = [some (.ref p), some (.ref D2), some (.ref D3), some (.str W), some (.ref D5), some (.ref D), none, none, none] ∧ Same H5 H' ∧ H' D = some (.lst []), ?_, ?_⟩
    · refine ⟨_, rfl, D3, rfl, ⟨_, SqL.of hD35⟩, fun D6 hD6 => ?_⟩
      refine lc_list (K := K) (a := D3) (xs := vs) (fun i H' => Same H5 H' ∧ H' D6 = some (.lst [])) ⟨same_upd hD6, upd_same⟩ (fun i H' _ h => SqL.of (h.1 _ _ hD35)) (fun i x H' hx h => ?_) (fun H' h => ?_)
      · obtain ⟨q, hq, TT, rfl, hTT⟩ := paired_at hpp5 hx
        rw [List.getElem?_map] at hq
        obtain ⟨fl, hfl, rfl⟩ := Option.map_eq_some_iff.mp hq
        exact ⟨TT, _, rfl, SqT.of (h.1 _ _ hTT), rfl, _, _, rfl, _, _, rfl, rfl, rfl, _, rfl, true, rfl, iteF h⟩
      · exact ⟨D6, rfl, h.1, h.2⟩
    rintro _ H6 ⟨D6, rfl, e6, hD6⟩
    have hP6 := e6 _ _ (e5 _ _ hP4)
    have hul : ("usage: " ++ pr).length ≤ 150 := by
      rw [Str.length_append, hsl]
      omega
    have s0 : small1 ([] : List Str) := ⟨by decide, fun _ z => nomatch z⟩
    refine ⟨rfl, _, rfl, p, CP, dx, _, _, rfl, hP6, cP.cl, cP.no _ (by decide +kernel), rfl, _, _, rfl, rfl, (by rw [hsl]; omega), _, rfl, _, rfl, _, rfl, p, CP, dx, _, _, rfl, hP6, cP.cl, cP.no _ (by decide +kernel), rfl, "usage: " ++ pr, D5, D6, fls.map (fun q => br q.1), [], wd, rfl, hul, e6 _ _ hD5, hD6, hsm, s0, (by rw [List.append_nil]; exact hsm), fun D H' e h => ?_⟩
    obtain ⟨u1, u2⟩ := ulF_len (sz := wd) hul hsm s0 (by rw [List.append_nil]; exact hsm)
    refine ⟨"\n", D, _, rfl, rfl, .inl (SqL.of h), ?_, k H' ((eH.trans e5).trans (e6.trans e))⟩
    have h2 : ("\n" : Str).length = 1 := rfl
    have := strs_sum u2
    rw [h2]
    omega
end
end K46

namespace K46
open PySem L2 PyProof PyProof.Rows XStrV
/-! ### the help of an option -/
theorem toL_inj {a b : Str} (h : a.cps.toList = b.cps.toList) : a = b := by
  cases a
  cases b
  simp at h
  rw [h]
theorem fillV_no {vl : List (Str × Str)} {k : Str} (h : k ∉ vl.map (·.1)) : fillV vl k = none := by
  unfold fillV
  have : vl.find? (fun p => decide (p.1 = k)) = none := by
    rw [List.find?_eq_none]
    intro p hp e
    exact h (List.mem_map.mpr ⟨p, hp, of_decide_eq_true e⟩)
  rw [this]
  rfl
theorem put_kvF {vl : List (Str × Str)} {k x : Str} (h : k ∉ vl.map (·.1)) : putK (kvF vl) (Sum.inr k : Key) (.str x) = kvF (vl ++ [(k, x)]) := by
  rw [putK_new _ (by rw [val_kvF, fillV_no h]; rfl)]
  unfold kvF
  rw [List.map_append]
  rfl
theorem merge_kvF : ∀ {vm vl : List (Str × Str)}, (∀ p ∈ vm, p.1 ∉ vl.map (·.1)) → (vm.map (·.1)).Nodup → mergeK (kvF vl) (kvF vm) = kvF (vl ++ vm)
  | [], vl, _, _ => by rw [List.append_nil]; rfl
  | p :: vm, vl, h, nd => by
    rw [List.map_cons, List.nodup_cons] at nd
    show mergeK (putK (kvF vl) (Sum.inr p.1 : Key) (.str p.2)) (kvF vm) = _
    rw [put_kvF (h p List.mem_cons_self), merge_kvF (vm := vm) (vl := vl ++ [(p.1, p.2)]) (fun q hq => ?_) nd.2, List.append_assoc]
    · rfl
    · rw [List.map_append, List.mem_append, not_or]
      refine ⟨h q (List.mem_cons_of_mem _ hq), fun z => nd.1 ?_⟩
      have : q.1 = p.1 := by simpa using z
      rw [← this]
      exact List.mem_map.mpr ⟨q, hq, rfl⟩
def NoB (x : Str) : Prop := 123 ∉ x.cps.toList
theorem cutS_all (x : Str) : cutS x (some ((0 : Nat) : Int)) none = x := by
  apply toL_inj
  rw [cutS_from]
  rfl
theorem fill_nob {vl : List (Str × Str)} {x : Str} (h : NoB x) : fillF vl x = x := by
  unfold fillF
  have hf : Txt.find3 x "{" ((0 : Nat) : Int) < 0 := by
    rcases find_c x 123 0 (Nat.zero_le _) with e | ⟨k, e, h1, h2, h3⟩
    · show Txt.find3 x ⟨#[123]⟩ ((0 : Nat) : Int) < 0
      rw [e]
      decide
    · exfalso
      apply h
      have hk : k < x.cps.size := h2
      have : x.cps.getD k 0 = x.cps[k] := by simp [Array.getD, hk]
      rw [this] at h3
      rw [← h3]
      exact Array.mem_toList_iff.mpr (Array.getElem_mem hk)
  show fillG vl x (x.length + 1) 0 "" = x
  unfold fillG
  have e0 : ∀ y : Str, "" ++ y = y := fun y => by
    apply toL_inj
    rw [Str.cps_append, Array.toList_append]
    rfl
  split
  · rw [if_pos (.inl hf), e0, cutS_all]
  · rename_i hl
    apply toL_inj
    have hx : x.length = 0 := by omega
    have : x.cps.toList = [] := List.length_eq_zero_iff.mp (by rw [len_tl]; exact hx)
    rw [this]
    rfl
def vlC (pr dst : Str) : List (Str × Str) := [("prog", pr), ("dest", dst), ("const", strV .non), ("nargs", strV (.int 0)), ("metavar", strV .non), ("kind", "None"), ("choices", "None"), ("default", strV .non)]
def spValues (CA : Addr) : Sp := fun vs H Q _ => ∃ (v : V) (pr fl dst h : Str), vs = [v, .str pr] ∧ ArgC CA H v fl dst h ∧ pr.length ≤ 100 ∧ ∀ (D : Addr) (H' : Hp), Same H H' → H' D = some (.dK (kvF (vlC pr dst))) → Q (.ref D) H'
def hasW (h : Str) : Prop := Txt.words h ≠ []
def spHasW : Sp := fun vs H Q _ => ∃ h : Str, vs = [.str h] ∧ h.length ≤ 100000 ∧ hasW h ∧ ∀ H', Same H H' → Q (.bl true) H'
def spHelpOf (K : PySem.W.Frag) (CP CA : Addr) : Sp := fun vs H Q _ => ∃ (v : V) (p aL la le ls : Addr) (pr fl dst h : Str) (us ds ep : V) (wd : Int), vs = [v, .ref p] ∧ ArgC CA H v fl dst h ∧ PrT CP H p pr us ds ep wd aL la le ls ∧ pr.length ≤ 100 ∧ NoB h ∧ hasW h ∧ (∀ H', SqT K H' aL []) ∧ ∀ H', Same H H' → Q (.str h) H'
structure DS (D : Addr) (vl : List (Str × Str)) (H H' : Hp) : Prop where
  nD : H D = none
  s : Same H H'
  d : H' D = some (.dK (kvF vl))
theorem DS.put {D : Addr} {vl : List (Str × Str)} {H H' : Hp} {k x : Str} (h : DS D vl H H') (hk : k ∉ vl.map (·.1)) : DS D (vl ++ [(k, x)]) H (upd H' D (.dK (putK (kvF vl) (Sum.inr k : Key) (.str x)))) := by
  refine ⟨h.nD, same_mut h.s h.nD, ?_⟩
  rw [upd_same, put_kvF hk]
section
variable {P : Program} {w : World} {K : PySem.W.Frag} {mg : Str → Option Value} {base : Heap}
theorem scVal : FnScope ["argument", "prog", "choices", "found"] ["argument", "prog"] (defScope sValuesOf) := ⟨rfl, rfl, rfl, by decide +kernel, rfl, by decide +kernel, by decide +kernel⟩
theorem ok_values {f fC CA : Addr} {fd fdC : FuncData} {tn : Tok} (F : Fun K "values_of" "values_of" sValuesOf f fd) (cA : ClsN K CA argF) (zStr : mg "str" = none) (hS : mg "SUPPRESS" = some (.str "==SUPPRESS==" tn)) (Ch : At P w K mg base "choices_of" 1 ["argument"] (spChoices CA) fC fdC) : FnOk P w K mg base CX0 2 f fd ["argument", "prog"] (spValues CA) := by
  refine F.ok scVal (fun vs H Q E h => ?_) (fun cdv A outer s H vs Q E hr h => ?_)
  · obtain ⟨v, pr, fl, dst, h, rfl, _⟩ := h
    rfl
  · obtain ⟨v, pr, fl, dst, h, rfl, a, hpr, k⟩ := h
    have hu1 := hu_of hr
    obtain ⟨A1, dx, U, ve, fe, rfl, hU, hA⟩ := a.ex
    refine ⟨_, pss_cons (ps_set (i := 2) scVal.nd rfl (Or.inl rfl) (pe_call Ch.ok hr rfl Ch.m Ch.k Ch.b .nil pass0 (pa_cons (pv 0) pa_nil)))
      (pss_mid (ps_set (i := 3) scVal.nd rfl (Or.inl rfl) (pe_disp (pps_cons pe_str (pv 1) (pps_cons pe_str (pe_callTy call_strV (by rfl) zStr (by decide +kernel) (pa_cons (pe_fld (pv 0) rfl) pa_nil)) (pps_cons pe_str (pe_callTy call_strV (by rfl) zStr (by decide +kernel) (pa_cons (pe_fld (pv 0) rfl) pa_nil)) (pps_cons pe_str (pe_callTy call_strV (by rfl) zStr (by decide +kernel) (pa_cons (pe_fld (pv 0) rfl) pa_nil)) pps_nil)))) (by rfl) (by rfl) (fun z => by cases z) (by decide)))
      (pss_mid (ps_dput hu1 (pv 3) pe_str (pe_callTy call_strV (by rfl) zStr (by decide +kernel) (pa_cons (pe_fld (pv 0) rfl) pa_nil)) rfl)
      (pss_mid (ps_dput hu1 (pv 3) pe_str (pe_ifExp (pt_cmp (pc_isN (pe_fld (pv 0) rfl))) pe_str pe_never) rfl)
      (pss_mid (ps_dput hu1 (pv 3) pe_str (pe_ifExp (pt_cmp (pc_isN (pv 2))) pe_str pe_never) rfl)
      (pss_mid (ps_if (pt_cmpR op_ne (pe_fld (pv 0) rfl) (pe_glob (v := .str "==SUPPRESS==") rfl hS ⟨tn, rfl⟩) (nomark _)) (pss_one (ps_dput hu1 (pv 3) pe_str (pe_callTy call_strV (by rfl) zStr (by decide +kernel) (pa_cons (pe_fld (pv 0) rfl) pa_nil)) rfl)) pss_nil)
      (pss_one (ps_ret (pv 3)))))))), ?_⟩
    refine ⟨_, rfl, .ref A1, fl, dst, h, rfl, a, ?_⟩
    refine ⟨fun σ' H' => ∃ D, σ' = [some (.ref A1), some (.str pr), some .non, some (.ref D)] ∧ DS D [("prog", pr), ("dest", dst), ("const", strV .non), ("nargs", strV (.int 0))] H H', ?_, ?_⟩
    · intro q hq
      have eq := same_upd (o := .dK []) hq
      have hAq := eq _ _ hA
      refine ⟨_, rfl, _, rfl, A1, CA, dx, _, _, rfl, hAq, cA.cl, cA.no _ (by decide +kernel), rfl, _, rfl, .inr (.inr ⟨_, rfl⟩), ?_⟩
      refine ⟨_, rfl, A1, CA, dx, _, _, rfl, hAq, cA.cl, cA.no _ (by decide +kernel), rfl, _, rfl, .inl rfl, ?_⟩
      refine ⟨_, rfl, A1, CA, dx, _, _, rfl, hAq, cA.cl, cA.no _ (by decide +kernel), rfl, _, rfl, .inr (.inl ⟨_, rfl, by decide +kernel⟩), ?_⟩
      refine ⟨upd_same, kvF [("prog", pr), ("dest", dst), ("const", strV .non), ("nargs", strV (.int 0))], rfl, (by show 4 ≤ 15; decide), q, rfl, hq, same_mut eq hq, ?_⟩
      rw [upd_same]
      have := merge_kvF (vm := [("prog", pr), ("dest", dst), ("const", strV .non), ("nargs", strV (.int 0))]) (vl := []) (fun _ _ z => nomatch z) (show (["prog", "dest", "const", "nargs"] : List Str).Nodup by decide +kernel)
      rw [List.nil_append] at this
      exact congrArg (fun l => some (HO.dK l)) this
    rintro _ H1 ⟨D, rfl, d1⟩
    have hl : ∀ vl : List (Str × Str), vl.length ≤ 20 → (kvF vl).length < sizeLine := fun vl hl => by
      unfold kvF
      rw [List.length_map, PySem.sizeLine_eq]
      omega
    refine ⟨fun σ' H' => σ' = [some (.ref A1), some (.str pr), some .non, some (.ref D)] ∧ DS D [("prog", pr), ("dest", dst), ("const", strV .non), ("nargs", strV (.int 0)), ("metavar", strV .non)] H H', ?_, ?_⟩
    · exact ⟨_, rfl, A1, CA, dx, _, _, rfl, d1.s _ _ hA, cA.cl, cA.no _ (by decide +kernel), rfl, _, rfl, .inl rfl, _, rfl, D, _, rfl, DPut.k (k := (Sum.inr "metavar" : Key)) d1.d (hl _ (by simp)), rfl, d1.put (show ("metavar" : Str) ∉ (["prog", "dest", "const", "nargs"] : List Str) by decide +kernel)⟩
    rintro _ H2 ⟨rfl, d2⟩
    refine ⟨fun σ' H' => σ' = [some (.ref A1), some (.str pr), some .non, some (.ref D)] ∧ DS D [("prog", pr), ("dest", dst), ("const", strV .non), ("nargs", strV (.int 0)), ("metavar", strV .non), ("kind", "None")] H H', ?_, ?_⟩
    · exact ⟨_, rfl, A1, CA, dx, _, _, rfl, d2.s _ _ hA, cA.cl, cA.no _ (by decide +kernel), rfl, _, rfl, iteT ⟨_, rfl, D, _, rfl, DPut.k (k := (Sum.inr "kind" : Key)) d2.d (hl _ (by simp)), rfl, d2.put (show ("kind" : Str) ∉ (["prog", "dest", "const", "nargs", "metavar"] : List Str) by decide +kernel)⟩⟩
    rintro _ H3 ⟨rfl, d3⟩
    refine ⟨fun σ' H' => σ' = [some (.ref A1), some (.str pr), some .non, some (.ref D)] ∧ DS D [("prog", pr), ("dest", dst), ("const", strV .non), ("nargs", strV (.int 0)), ("metavar", strV .non), ("kind", "None"), ("choices", "None")] H H', ?_, ?_⟩
    · exact ⟨_, rfl, _, rfl, iteT ⟨_, rfl, D, _, rfl, DPut.k (k := (Sum.inr "choices" : Key)) d3.d (hl _ (by simp)), rfl, d3.put (show ("choices" : Str) ∉ (["prog", "dest", "const", "nargs", "metavar", "kind"] : List Str) by decide +kernel)⟩⟩
    rintro _ H4 ⟨rfl, d4⟩
    refine ⟨fun σ' H' => σ' = [some (.ref A1), some (.str pr), some .non, some (.ref D)] ∧ DS D (vlC pr dst) H H', ?_, ?_⟩
    · exact ⟨_, rfl, A1, CA, dx, _, _, rfl, d4.s _ _ hA, cA.cl, cA.no _ (by decide +kernel), rfl, rfl, true, rfl, iteT ⟨_, rfl, A1, CA, dx, _, _, rfl, d4.s _ _ hA, cA.cl, cA.no _ (by decide +kernel), rfl, _, rfl, .inl rfl, _, rfl, D, _, rfl, DPut.k (k := (Sum.inr "default" : Key)) d4.d (hl _ (by simp)), rfl, d4.put (show ("default" : Str) ∉ (["prog", "dest", "const", "nargs", "metavar", "kind", "choices"] : List Str) by decide +kernel)⟩⟩
    rintro _ H5 ⟨rfl, d5⟩
    exact ⟨_, rfl, k D H5 d5.s d5.d⟩
theorem scHasW : FnScope ["text"] ["text"] (defScope sHasWords) := ⟨rfl, rfl, rfl, by decide +kernel, rfl, by decide +kernel, by decide +kernel⟩
theorem ok_hasW {f : Addr} {fd : FuncData} (F : Fun K "has_words" "has_words" sHasWords f fd) (T : TxtB mg) : FnOk P w K mg base CX0 1 f fd ["text"] spHasW := by
  refine F.ok scHasW (fun vs H Q E h => ?_) (fun cdv A outer s H vs Q E hr h => ?_)
  · obtain ⟨h, rfl, _⟩ := h
    rfl
  · obtain ⟨h, rfl, hl, hw, k⟩ := h
    have hz6 : PySem.sizeLine = 16777216 := PySem.sizeLine_eq
    refine ⟨_, pss_one (ps_ret (pe_cmpR op_gt (pe_callB call_len_seq (by rfl) T.len PySem.boot_len (pa_cons (pe_bm0 PySem.F.plainAttrs_str PySem.F.slot_str_split PySem.F.type_str_split mt_words (pv 0)) pa_nil)) pe_int (nomark _))), ?_⟩
    refine ⟨_, rfl, rfl, h, rfl, rfl, (by omega), fun W hW => ⟨W, _, rfl, .inl (SqL.of upd_same), _, _, rfl, rfl, ?_⟩⟩
    have hp : 0 < (Txt.words h).length := List.length_pos_iff.mpr hw
    have gen : ∀ b : Bool, b = true → Q (.bl b) (upd H W (.lst ((Txt.words h).map V.str))) := fun b e => by
      rw [e]
      exact k _ (same_upd hW)
    exact gen _ (decide_eq_true (by rw [List.length_map]; omega))
theorem scHelpOf : FnScope ["argument", "parser", "text"] ["argument", "parser"] (defScope sHelpOf) := ⟨rfl, rfl, rfl, by decide +kernel, rfl, by decide +kernel, by decide +kernel⟩
theorem ok_helpOf {f fW fF fV CP CA : Addr} {fd fdW fdF fdV : FuncData} (F : Fun K "help_of" "help_of" sHelpOf f fd) (cP : ClsN K CP parF) (cA : ClsN K CA argF)
    (Hw : At P w K mg base "has_words" 1 ["text"] spHasW fW fdW) (Fi : At P w K mg base "filled_in" 2 ["text", "values"] spFill fF fdF) (Va : At P w K mg base "values_of" 2 ["argument", "prog"] (spValues CA) fV fdV) : FnOk P w K mg base CX0 3 f fd ["argument", "parser"] (spHelpOf K CP CA) := by
  refine F.ok scHelpOf (fun vs H Q E h => ?_) (fun cdv A outer s H vs Q E hr h => ?_)
  · obtain ⟨v, p, aL, la, le, ls, pr, fl, dst, h, us, ds, ep, wd, rfl, _⟩ := h
    rfl
  · obtain ⟨v, p, aL, la, le, ls, pr, fl, dst, h, us, ds, ep, wd, rfl, a, hp, hpr, hb, hw, hL, k⟩ := h
    have r1 : Room 1 (A.deeper (PyProof.Rows.envOfC "help_of" (defScope sHelpOf) s.heap.objs.size f cdv)) := hr.mono (by decide)
    obtain ⟨A1, dx, U, ve, fe, rfl, hU, hA⟩ := a.ex
    obtain ⟨dp, pf, cf, ab, ee, fi, lf, dd, hP⟩ := hp.ex
    have hl := a.l
    refine ⟨_, pss_cons (ps_set (i := 2) scHelpOf.nd rfl (Or.inl rfl) (pe_fld (pv 0) rfl))
      (pss_mid (ps_if (PW.pt (pw_or (pt_cmp (pc_isN (pv 2))) (pw_or1 (pt_not (pt_val (pe_call Hw.ok r1 rfl Hw.m Hw.k Hw.b .nil pass0 (pa_cons (pv 2) pa_nil))))))) pss_never pss_nil)
      (pss_mid (ps_if (PW.pt (pw_and (pt_cmpR op_in_seq pe_str (pe_fld (pv 1) rfl) (by rfl)) pw_never)) pss_never pss_nil)
      (pss_mid (ps_set (i := 2) scHelpOf.nd rfl (Or.inl rfl) (pe_call Fi.ok hr rfl Fi.m Fi.k Fi.b .nil pass0 (pa_cons (pv 2) (pa_cons (pe_call Va.ok hr rfl Va.m Va.k Va.b .nil pass0 (pa_cons (pv 0) (pa_cons (pe_fld (pv 1) rfl) pa_nil))) pa_nil))))
      (pss_one (ps_ret (pe_ifExp (pt_val (pe_call Hw.ok r1 rfl Hw.m Hw.k Hw.b .nil pass0 (pa_cons (pv 2) pa_nil))) (pv 2) pe_never)))))), ?_⟩
    refine ⟨_, rfl, A1, CA, dx, _, _, rfl, hA, cA.cl, cA.no _ (by decide +kernel), rfl, ?_⟩
    refine ⟨fun σ' H' => σ' = [some (.ref A1), some (.ref p), some (.str h)] ∧ Same H H', ?_, ?_⟩
    · exact ⟨_, rfl, _, rfl, iteF ⟨_, rfl, h, rfl, (by omega), hw, fun H' e => ⟨true, rfl, iteF ⟨rfl, e⟩⟩⟩⟩
    rintro _ H1 ⟨rfl, e1⟩
    refine ⟨fun σ' H' => σ' = [some (.ref A1), some (.ref p), some (.str h)] ∧ H1 = H', ?_, ?_⟩
    · exact ⟨_, rfl, p, CP, dp, _, _, rfl, e1 _ _ hP, cP.cl, cP.no _ (by decide +kernel), rfl, aL, [], rfl, .inr (hL _), rfl, rfl, _, rfl, iteF ⟨rfl, rfl⟩⟩
    rintro _ _ ⟨rfl, rfl⟩
    refine ⟨fun σ' H' => σ' = [some (.ref A1), some (.ref p), some (.str h)] ∧ Same H H', ?_, ?_⟩
    · refine ⟨_, rfl, _, rfl, _, rfl, p, CP, dp, _, _, rfl, e1 _ _ hP, cP.cl, cP.no _ (by decide +kernel), rfl, .ref A1, pr, fl, dst, h, rfl, a.keep e1, hpr, fun D H2 e2 hD => ?_⟩
      refine ⟨h, D, vlC pr dst, rfl, hD, (by omega), fun q hq => ?_, fun H3 e3 _ => ?_⟩
      · simp only [vlC, List.mem_cons, List.not_mem_nil, or_false] at hq
        rcases hq with rfl | rfl | rfl | rfl | rfl | rfl | rfl | rfl
        · exact hpr
        · show dst.length ≤ 100
          omega
        all_goals decide +kernel
      · rw [fill_nob hb]
        exact ⟨rfl, e1.trans (e2.trans e3)⟩
    rintro _ H2 ⟨rfl, e2⟩
    exact ⟨_, rfl, h, rfl, (by omega), hw, fun H' e => ⟨true, rfl, iteT ⟨_, rfl, k H' (e2.trans e)⟩⟩⟩
/-! ### the rows of a group -/
def RowAt (H : Hp) (v : V) (p : Str × Str) : Prop := ∃ T, v = .ref T ∧ H T = some (.tup [.str ("  " ++ p.1), .str p.2])
theorem RowAt.keep {H H' : Hp} {v : V} {p : Str × Str} (h : RowAt H v p) (e : Same H H') : RowAt H' v p := by
  obtain ⟨T, h1, h2⟩ := h
  exact ⟨T, h1, e _ _ h2⟩
def RowsAt (H : Hp) (D : Addr) (ps : List (Str × Str)) : Prop := ∃ vs, H D = some (.lst vs) ∧ PySem.Paired (RowAt H) vs ps
theorem RowsAt.keep {H H' : Hp} {D : Addr} {ps : List (Str × Str)} (h : RowsAt H D ps) (e : Same H H') : RowsAt H' D ps := by
  obtain ⟨vs, h1, h2⟩ := h
  exact ⟨vs, e _ _ h1, paired_map (fun _ _ q => q.keep e) h2⟩
/-- a group: what it describes, its title where it is shown, its rows -/
structure SeX (CS CA : Addr) (H : Hp) (v : V) (o : Option Str) (ti : Str) (fls : List (Str × Str)) : Prop where
  ex : ∃ (x dx m : Addr) (h t : V) (as : List V), v = .ref x ∧ H x = some (.ins CS dx (sFs h t (match o with | some y => .str y | none => .non) m)) ∧ H m = some (.lst as) ∧ Opts CA H as fls ∧ as.length ≤ 50 ∧ (o ≠ none ∨ fls ≠ [] → t = .str ti)
  b : ∀ p ∈ fls, NoB p.2 ∧ hasW p.2
theorem SeX.keep {CS CA : Addr} {H H' : Hp} {v : V} {o : Option Str} {ti : Str} {fls : List (Str × Str)} (h : SeX CS CA H v o ti fls) (e : Same H H') : SeX CS CA H' v o ti fls := by
  obtain ⟨x, dx, m, a, t, as, h1, h2, h3, h4, h5, h6⟩ := h.ex
  exact ⟨⟨x, dx, m, a, t, as, h1, e _ _ h2, e _ _ h3, h4.keep e, h5, h6⟩, h.b⟩
def spRows (K : PySem.W.Frag) (CP CS CA : Addr) : Sp := fun vs H Q _ => ∃ (v : V) (o : Option Str) (ti : Str) (fls : List (Str × Str)) (p aL la le ls : Addr) (pr : Str) (us ds ep : V) (wd : Int), vs = [v, .ref p] ∧ SeX CS CA H v o ti fls ∧ PrT CP H p pr us ds ep wd aL la le ls ∧ pr.length ≤ 100 ∧ (∀ H', SqT K H' aL []) ∧ ∀ (D : Addr) (H' : Hp), Same H H' → H D = none → RowsAt H' D fls → Q (.ref D) H'
theorem scRw : FnScope ["section", "parser", "found", "argument"] ["section", "parser"] (defScope sSecRows) := ⟨rfl, rfl, rfl, by decide +kernel, rfl, by decide +kernel, by decide +kernel⟩
theorem ok_rows {f fS fH fO CP CS CA : Addr} {fd fdS fdH fdO : FuncData} (F : Fun K "section_rows" "section_rows" sSecRows f fd) (cP : ClsN K CP parF) (cS : ClsN K CS secF) (cA : ClsN K CA argF) (Sh : At P w K mg base "is_shown" 1 ["argument"] (spShown CA) fS fdS) (Hd : At P w K mg base "head_of" 2 ["argument", "layout"] (spHead CA) fH fdH) (Ho : At P w K mg base "help_of" 3 ["argument", "parser"] (spHelpOf K CP CA) fO fdO) : FnOk P w K mg base CX0 4 f fd ["section", "parser"] (spRows K CP CS CA) := by
  refine F.ok scRw (fun vs H Q E h => ?_) (fun cdv A outer s H vs Q E hr h => ?_)
  · obtain ⟨v, o, ti, fls, p, aL, la, le, ls, pr, us, ds, ep, wd, rfl, _⟩ := h
    rfl
  · obtain ⟨v, o, ti, fls, p, aL, la, le, ls, pr, us, ds, ep, wd, rfl, hS, hp, hpr, hL, k⟩ := h
    have hz6 : PySem.sizeLine = 16777216 := PySem.sizeLine_eq
    have r1 : Room 1 (A.deeper (PyProof.Rows.envOfC "section_rows" (defScope sSecRows) s.heap.objs.size f cdv)) := hr.mono (by decide)
    have r2 : Room 2 (A.deeper (PyProof.Rows.envOfC "section_rows" (defScope sSecRows) s.heap.objs.size f cdv)) := hr.mono (by decide)
    obtain ⟨x, dx, m, a, t, as, rfl, hx, hm, ho, hn, _⟩ := hS.ex
    have hal : as.length = fls.length := PySem.Paired.length ho
    obtain ⟨dp, pf, cf, ab, ee, fi, lf, dd, hP⟩ := hp.ex
    have h2l : ("  " : Str).length = 2 := rfl
    refine ⟨_, pss_mid (ps_set (i := 2) scRw.nd rfl (Or.inl rfl) (pe_lst pa_nil))
      (pss_mid (ps_for PassesOwn.never rfl (pi_list (pe_fld (pv 0) rfl)) (pg_name (i := 3) scRw.nd rfl (Or.inl rfl)) (pss_one (ps_if (pt_val (pe_call Sh.ok r1 rfl Sh.m Sh.k Sh.b .nil pass0 (pa_cons (pv 3) pa_nil)))
        (pss_mid (ps_expr (pe_bm PySem.F.plainAttrs_list PySem.F.slot_list_append PySem.F.type_list_append mt_append (pv 2) (pa_cons (pe_tup (pa_cons (pe_op op_add_str pe_str (pe_call Hd.ok r2 rfl Hd.m Hd.k Hd.b .nil pass0 (pa_cons (pv 3) (pa_cons (pe_fld (pv 1) rfl) pa_nil)))) (pa_cons (pe_call Ho.ok hr rfl Ho.m Ho.k Ho.b .nil pass0 (pa_cons (pv 3) (pa_cons (pv 1) pa_nil))) pa_nil))) pa_nil)))
        (pss_one (ps_if (pt_cmp (pc_notN (pe_fld (pv 3) rfl))) pss_never pss_nil))) pss_nil)))
      (pss_one (ps_ret (pv 2)))), ?_⟩
    refine ⟨fun σ' H' => ∃ D, H D = none ∧ σ' = [some (.ref x), some (.ref p), some (.ref D), none] ∧ Same H H' ∧ H' D = some (.lst []), ?_, ?_⟩
    · exact ⟨(by show 0 ≤ sizeLine; decide), fun D hD => ⟨D, hD, rfl, same_upd hD, upd_same⟩⟩
    rintro _ H1 ⟨D, hD0, rfl, e1, hD⟩
    refine ⟨fun σ' H' => ∃ r, σ' = [some (.ref x), some (.ref p), some (.ref D), r] ∧ Same H H' ∧ RowsAt H' D fls, ?_, ?_⟩
    · refine ⟨_, rfl, x, CS, dx, _, _, rfl, e1 _ _ hx, cS.cl, cS.no _ (by decide +kernel), rfl, m, rfl, ⟨_, SqL.of (e1 _ _ hm)⟩, ?_⟩
      refine for_list (K := K) (a := m) (xs := as) (fun i σ' H' => ∃ r, σ' = [some (.ref x), some (.ref p), some (.ref D), r] ∧ Same H H' ∧ RowsAt H' D (fls.take i)) ⟨none, rfl, e1, [], hD, .nil⟩ ?_ ?_ ?_
      · rintro i σ' H' _ ⟨_, _, e, _⟩
        exact SqL.of (e _ _ hm)
      · rintro i y σ' H' hy ⟨r, rfl, e, vs, hv, hpp⟩
        obtain ⟨q, hq, dst, hA⟩ := paired_at ho hy
        have hi := (List.getElem?_eq_some_iff.mp hy).1
        have hvl := PySem.Paired.length hpp
        rw [List.length_take] at hvl
        obtain ⟨b1, b2⟩ := hS.b q (List.mem_of_getElem? hq)
        have hAe := hA.keep e
        have hal1 := hA.l
        refine ⟨_, rfl, y, q.1, dst, q.2, rfl, hAe, true, rfl, iteT ?_⟩
        refine ⟨fun σ' H2 => σ' = [some (.ref x), some (.ref p), some (.ref D), some y] ∧ Same H H2 ∧ RowsAt H2 D (fls.take (i + 1)), ?_, ?_⟩
        · refine ⟨_, rfl, .inl ⟨rfl, _, SqL.of hv⟩, _, rfl, _, rfl, p, CP, dp, _, _, rfl, e _ _ hP, cP.cl, cP.no _ (by decide +kernel), rfl, y, _, q.1, dst, q.2, rfl, hAe, _, _, rfl, rfl, (by rw [h2l]; omega), ?_⟩
          refine ⟨_, rfl, _, rfl, y, p, aL, la, le, ls, pr, q.1, dst, q.2, us, ds, ep, wd, rfl, hAe, hp.keep e, hpr, b1, b2, hL, fun H2 e2 => ⟨(by show 2 ≤ sizeLine; decide), fun N hN => ?_⟩⟩
          have eN := same_upd (o := .tup [.str ("  " ++ q.1), .str q.2]) hN
          have hNg : (upd H2 N (.tup [.str ("  " ++ q.1), .str q.2])) N = some (.tup [.str ("  " ++ q.1), .str q.2]) := upd_same
          generalize upd H2 N (.tup [.str ("  " ++ q.1), .str q.2]) = GN at eN hNg
          have hvN := eN _ _ (e2 _ _ hv)
          refine ⟨D, vs, _, rfl, rfl, hvN, (by omega), rfl, same_mut (e.trans (e2.trans eN)) hD0, vs ++ [.ref N], upd_same, ?_⟩
          rw [take_more' hq]
          have nND : N ≠ D := fun z => by
            rw [z, hvN] at hNg
            cases hNg
          refine paired_snoc (paired_map (fun v q hq => ?_) hpp) ⟨N, rfl, ?_⟩
          · obtain ⟨T0, q1, q2⟩ := hq
            refine ⟨T0, q1, ?_⟩
            rw [upd_ne (fun z => by rw [z, hv] at q2; cases q2)]
            exact eN _ _ (e2 _ _ q2)
          · rw [upd_ne nND]
            exact hNg
        rintro _ H2 ⟨rfl, e2, hR⟩
        obtain ⟨A1, dx1, U, ve, fe, rfl, hU, hA1⟩ := (hA.keep e2).ex
        exact ⟨_, rfl, A1, CA, dx1, _, _, rfl, hA1, cA.cl, cA.no _ (by decide +kernel), rfl, _, rfl, iteF ⟨_, rfl, e2, hR⟩⟩
      · rintro σ' H' ⟨r, rfl, e, hR⟩
        rw [hal, List.take_length] at hR
        exact ⟨r, rfl, e, hR⟩
    rintro _ H2 ⟨r, rfl, e2, hR⟩
    exact ⟨_, rfl, k D H2 e2 hD0 hR⟩
end
end K46

/-! the words of a text, by its signs -/
namespace XWords
open PySem PySem.StrLaws Builtin Builtin.Str
def sw (cur : List Nat) : List Nat → List (List Nat)
  | [] => if cur = [] then [] else [cur]
  | c :: l => if Unicode.isSpace c = true then (if cur = [] then sw [] l else cur :: sw [] l) else sw (cur ++ [c]) l
theorem sub_list (x : Str) (i j : Nat) : (strSub x i j).cps.toList = (x.cps.toList.drop i).take (j - i) := strSub_toList x i j
def subs (x : Str) (l : List (Nat × Nat)) : List (List Nat) := l.map fun p => (x.cps.toList.drop p.1).take (p.2 - p.1)
def curOf (x : Str) (i : Nat) : Option Nat → List Nat
  | some b => (x.cps.toList.drop b).take (i - b)
  | none => []
/-- a state behind i signs -/
structure Sk (x : Str) (i : Nat) (st : SwSt) : Prop where
  r : st.fst = none
  n : st.snd.fst.size ≤ i
  b : ∀ b, st.snd.snd = some b → b < i
theorem len_toList (x : Str) : x.cps.toList.length = x.length := by simp [Str.length]
theorem drop_cons {l : List Nat} {i : Nat} (h : i < l.length) : l.drop i = l[i] :: l.drop (i + 1) := List.drop_eq_getElem_cons h
theorem getD_at {x : Str} {i : Nat} (h : i < x.cps.toList.length) : x.cps.getD i 0 = x.cps.toList[i] := by
  have h' : i < x.cps.size := by simpa using h
  simp [Array.getD, h']
theorem take_snoc {l : List Nat} {b i : Nat} (hb : b ≤ i) (h : i < l.length) : (l.drop b).take (i + 1 - b) = (l.drop b).take (i - b) ++ [l[i]] := by
  have e : i + 1 - b = (i - b) + 1 := by omega
  rw [e, List.take_succ, List.getElem?_drop]
  have e2 : b + (i - b) = i := by omega
  rw [e2, List.getElem?_eq_getElem h]
  rfl
theorem run_sw (x : Str) (limit : Nat) (hl : x.length < limit) : ∀ (m i : Nat) (st : SwSt), i + m = x.length → Sk x i st →
    subs x (swEnd x (forIn (List.range' i m) st (swBody x limit)).run) = subs x st.snd.fst.toList ++ sw (curOf x i st.snd.snd) (x.cps.toList.drop i)
  | 0, i, (r, ws, start), hm, h => by
    have h1 : r = none := h.r
    subst h1
    have hi : i = x.length := by omega
    subst hi
    have hd : x.cps.toList.drop x.length = [] := List.drop_eq_nil_of_le (by rw [len_toList]; exact Nat.le_refl _)
    show subs x (swEnd x (none, ws, start)) = subs x ws.toList ++ sw (curOf x x.length start) (x.cps.toList.drop x.length)
    rw [hd]
    cases start with
    | none =>
      show subs x ws.toList = subs x ws.toList ++ []
      rw [List.append_nil]
    | some b =>
      have hb := h.b b rfl
      show subs x (ws.push (b, x.length)).toList = subs x ws.toList ++ (if curOf x x.length (some b) = [] then [] else [curOf x x.length (some b)])
      have hne : curOf x x.length (some b) ≠ [] := by
        intro z
        have := congrArg List.length z
        unfold curOf at this
        rw [List.length_take, List.length_drop, len_toList] at this
        have h0 : ([] : List Nat).length = 0 := rfl
        omega
      rw [if_neg hne, Array.toList_push]
      unfold subs curOf
      rw [List.map_append]
      rfl
  | m + 1, i, (r, ws, start), hm, h => by
    have h1 : r = none := h.r
    subst h1
    have hi : i < x.cps.toList.length := by
      rw [len_toList]
      omega
    have hn : ws.size ≤ i := h.n
    have hsz : ¬ ((ws.size == limit) = true) := by
      simp
      rw [len_toList] at hi
      omega
    rw [List.range'_succ, List.forIn_cons, drop_cons hi]
    unfold swBody
    dsimp only
    rw [if_neg hsz, getD_at hi]
    cases start with
    | none =>
      cases hs : Unicode.isSpace x.cps.toList[i] with
      | true =>
        rw [show sw (curOf x i none) (x.cps.toList[i] :: x.cps.toList.drop (i + 1)) = sw [] (x.cps.toList.drop (i + 1)) by
          show sw [] (_ :: _) = _
          rw [sw, if_pos hs, if_pos rfl]]
        exact run_sw x limit hl m (i + 1) (none, ws, none) (by omega) ⟨rfl, by show ws.size ≤ i + 1; omega, fun b e => nomatch e⟩
      | false =>
        rw [show sw (curOf x i none) (x.cps.toList[i] :: x.cps.toList.drop (i + 1)) = sw (curOf x (i + 1) (some i)) (x.cps.toList.drop (i + 1)) by
          show sw [] (_ :: _) = _
          rw [sw, if_neg (by rw [hs]; exact Bool.false_ne_true)]
          unfold curOf
          dsimp only
          rw [take_snoc (Nat.le_refl i) hi, Nat.sub_self, List.take_zero]]
        exact run_sw x limit hl m (i + 1) (none, ws, some i) (by omega) ⟨rfl, by show ws.size ≤ i + 1; omega, fun b e => by cases e; exact Nat.lt_succ_self _⟩
    | some b =>
      have hb : b < i := h.b b rfl
      have hne : curOf x i (some b) ≠ [] := by
        intro z
        have := congrArg List.length z
        unfold curOf at this
        rw [List.length_take, List.length_drop] at this
        have h0 : ([] : List Nat).length = 0 := rfl
        omega
      cases hs : Unicode.isSpace x.cps.toList[i] with
      | true =>
        rw [show sw (curOf x i (some b)) (x.cps.toList[i] :: x.cps.toList.drop (i + 1)) = curOf x i (some b) :: sw [] (x.cps.toList.drop (i + 1)) by
          rw [sw, if_pos hs, if_neg hne]]
        have ih := run_sw x limit hl m (i + 1) (none, ws.push (b, i), none) (by omega) ⟨rfl, by show (ws.push (b, i)).size ≤ i + 1; rw [Array.size_push]; omega, fun b e => nomatch e⟩
        refine ih.trans ?_
        show subs x (ws.push (b, i)).toList ++ sw [] _ = _
        rw [Array.toList_push]
        unfold subs curOf
        rw [List.map_append, List.append_assoc]
        rfl
      | false =>
        rw [show sw (curOf x i (some b)) (x.cps.toList[i] :: x.cps.toList.drop (i + 1)) = sw (curOf x (i + 1) (some b)) (x.cps.toList.drop (i + 1)) by
          rw [sw, if_neg (by rw [hs]; exact Bool.false_ne_true)]
          unfold curOf
          dsimp only
          rw [take_snoc (Nat.le_of_lt hb) hi]]
        exact run_sw x limit hl m (i + 1) (none, ws, some b) (by omega) ⟨rfl, by show ws.size ≤ i + 1; omega, fun b' e => by cases e; omega⟩
theorem toList_inj {a b : Str} (h : a.cps.toList = b.cps.toList) : a = b := by
  cases a
  cases b
  simp at h
  rw [h]
theorem map_inj : ∀ {a b : List Str}, a.map (·.cps.toList) = b.map (·.cps.toList) → a = b
  | [], [], _ => rfl
  | [], _ :: _, h => by cases h
  | _ :: _, [], h => by cases h
  | x :: a, y :: b, h => by
    rw [List.map_cons, List.map_cons, List.cons.injEq] at h
    rw [toList_inj h.1, map_inj h.2]
theorem wordsOf_sw (x : Str) : (wordsOf x).map (·.cps.toList) = sw [] x.cps.toList := by
  unfold wordsOf
  rw [sw_eq, List.map_map]
  have h := run_sw x (x.length + 1) (Nat.lt_succ_self _) x.length 0 (none, #[], none) (by omega) ⟨rfl, Nat.zero_le _, fun b e => nomatch e⟩
  have e : subs x (#[] : Array (Nat × Nat)).toList ++ sw (curOf x 0 none) (x.cps.toList.drop 0) = sw [] x.cps.toList := rfl
  rw [e] at h
  rw [← h]
  unfold subs
  refine List.map_congr_left fun p _ => ?_
  exact sub_list x p.1 p.2
theorem words_sw (x : Str) : (Txt.words x).map (·.cps.toList) = sw [] x.cps.toList := by
  unfold Txt.words
  split
  · rename_i h
    rw [← wordsOf_sw]
    unfold wordsOf
    rw [beq_iff_eq.mp h]
    show [x.cps.toList] = [(strSub x 0 x.length).cps.toList]
    rw [sub_list, List.drop_zero, Nat.sub_zero, List.take_of_length_le (by rw [len_toList]; exact Nat.le_refl _)]
  · exact wordsOf_sw x
def spc (g : List Nat) : Prop := ∀ c ∈ g, Unicode.isSpace c = true
def blk (w : List Nat) : Prop := w ≠ [] ∧ ∀ c ∈ w, Unicode.isSpace c = false
theorem sw_word {w : List Nat} (h : ∀ c ∈ w, Unicode.isSpace c = false) : ∀ (cur l : List Nat), sw cur (w ++ l) = sw (cur ++ w) l := by
  induction w with
  | nil =>
    intro cur l
    rw [List.append_nil]
    rfl
  | cons c w ih =>
    intro cur l
    show sw cur (c :: (w ++ l)) = _
    rw [sw, if_neg (by rw [h c List.mem_cons_self]; exact Bool.false_ne_true), ih (fun d hd => h d (List.mem_cons_of_mem _ hd)), List.append_assoc]
    rfl
theorem sw_gap0 {g : List Nat} (h : spc g) (l : List Nat) : sw [] (g ++ l) = sw [] l := by
  induction g with
  | nil => rfl
  | cons c g ih =>
    show sw [] (c :: (g ++ l)) = _
    rw [sw, if_pos (h c List.mem_cons_self), if_pos rfl]
    exact ih fun d hd => h d (List.mem_cons_of_mem _ hd)
theorem sw_gap {g cur : List Nat} (h : spc g) (hg : g ≠ []) (hc : cur ≠ []) (l : List Nat) : sw cur (g ++ l) = cur :: sw [] l := by
  cases g with
  | nil => exact absurd rfl hg
  | cons c g =>
    show sw cur (c :: (g ++ l)) = _
    rw [sw, if_pos (h c List.mem_cons_self), if_neg hc, sw_gap0 fun d hd => h d (List.mem_cons_of_mem _ hd)]
/-- words, each with a gap behind it -/
theorem sw_list : ∀ (ps : List (List Nat × List Nat)), (∀ p ∈ ps, blk p.1 ∧ spc p.2 ∧ p.2 ≠ []) → ∀ l, sw [] ((ps.map fun p => p.1 ++ p.2).flatten ++ l) = ps.map (·.1) ++ sw [] l
  | [], _, l => rfl
  | p :: ps, h, l => by
    obtain ⟨h1, h2, h3⟩ := h p List.mem_cons_self
    rw [List.map_cons, List.flatten_cons, List.append_assoc, List.append_assoc, sw_word h1.2, List.nil_append, sw_gap h2 h3 h1.1, sw_list ps (fun q hq => h q (List.mem_cons_of_mem _ hq)) l]
    rfl
theorem sw_end {w : List Nat} (h : blk w) : sw [] w = [w] := by
  have := sw_word h.2 [] []
  rw [List.append_nil] at this
  rw [this, List.nil_append, sw, if_neg h.1]
/-- what words are: not empty, without spaces -/
theorem sw_blk : ∀ (l cur : List Nat), (∀ c ∈ cur, Unicode.isSpace c = false) → ∀ w ∈ sw cur l, blk w
  | [], cur, h, w, hw => by
    unfold sw at hw
    split at hw
    · cases hw
    · rename_i hc
      rw [List.mem_singleton.mp hw]
      exact ⟨hc, h⟩
  | c :: l, cur, h, w, hw => by
    unfold sw at hw
    split at hw
    · split at hw
      · exact sw_blk l [] (fun _ z => nomatch z) w hw
      · rename_i hc
        rcases List.mem_cons.mp hw with rfl | hw
        · exact ⟨hc, h⟩
        · exact sw_blk l [] (fun _ z => nomatch z) w hw
    · rename_i hs
      refine sw_blk l (cur ++ [c]) (fun d hd => ?_) w hw
      rcases List.mem_append.mp hd with hd | hd
      · exact h d hd
      · rw [List.mem_singleton.mp hd]
        exact Bool.eq_false_iff.mpr hs
end XWords

namespace K46
open PySem L2 PyProof PyProof.Rows XStrV
/-! ### a row -/
theorem ne_len {x : Str} : x ≠ "" ↔ 1 ≤ x.length := by
  constructor
  · intro h
    rcases Nat.eq_zero_or_pos x.length with e | e
    · exfalso
      apply h
      apply toL_inj
      have : x.cps.toList = [] := List.length_eq_zero_iff.mp (by rw [len_tl]; exact e)
      rw [this]
      rfl
    · exact e
  · rintro h rfl
    exact absurd h (by decide)
theorem chop_ne {z : Nat} : ∀ (n : Nat) (w : Str), 1 ≤ w.length → 1 ≤ (chop z n w).2.length
  | 0, w, h => h
  | n + 1, w, h => by
    unfold chop
    by_cases q : z < w.length
    · rw [if_pos q]
      refine chop_ne n _ ?_
      rw [cutS_from_len]
      omega
    · rw [if_neg q]
      exact h
theorem lay_ne {z : Nat} {st : List Str × Str} {w : Str} (h : 1 ≤ w.length) : (layStep z st w).2 ≠ "" := by
  rw [ne_len]
  unfold layStep
  split
  · show 1 ≤ (st.2 ++ " " ++ w).length
    rw [Str.length_append]
    omega
  · split
    · rename_i _ hq
      refine chop_ne _ _ ?_
      rw [cutS_from_len]
      unfold roomOf
      omega
    · exact chop_ne _ _ h
theorem laid_ne {z : Nat} {ws : List Str} (h0 : ws ≠ []) (h : ∀ w ∈ ws, 1 ≤ w.length) : laidF z ws ≠ [] := by
  have key : (ws.foldl (layStep z) ([], "")).2 ≠ "" := by
    obtain ⟨pre, w, rfl⟩ : ∃ pre w, ws = pre ++ [w] := ⟨ws.dropLast, ws.getLast h0, (List.dropLast_concat_getLast h0).symm⟩
    rw [List.foldl_append]
    exact lay_ne (h w (List.mem_append_right _ List.mem_cons_self))
  unfold laidF
  rw [if_pos key]
  simp
theorem word_len {x w : Str} (h : w ∈ Txt.words x) : 1 ≤ w.length := by
  have : w.cps.toList ∈ (Txt.words x).map (·.cps.toList) := List.mem_map.mpr ⟨w, h, rfl⟩
  rw [XWords.words_sw] at this
  have hb := XWords.sw_blk _ [] (fun _ z => nomatch z) _ this
  rw [← len_tl]
  exact List.length_pos_iff.mpr hb.1
def rsz (wd : Int) (col : Nat) : Nat := (max (wd - col) 11).toNat
def rowL (h : Str) (col : Nat) (wd : Int) : List Str := laidF (rsz wd col) (Txt.words h)
def rowF (hd h : Str) (col : Nat) (wd : Int) : Str :=
  (if hd.length + 2 ≤ col then Txt.join "\n" ((hd ++ sps (col - hd.length) ++ (rowL h col wd).headD "") :: (rowL h col wd).tail.map fun l => sps col ++ l) else Txt.join "\n" (hd :: (rowL h col wd).map fun l => sps col ++ l)) ++ "\n"
theorem cut_list_from (xs : List V) (i : Nat) : cutV xs (some ((i : Nat) : Int)) none = xs.drop i := by
  unfold cutV
  rw [HT.sIx_nat, HT.sIx_none]
  by_cases hi : i ≤ xs.length
  · rw [Nat.min_eq_left hi, List.take_of_length_le (by rw [List.length_drop]; omega)]
  · rw [List.drop_eq_nil_of_le (by omega), List.drop_eq_nil_of_le (by omega), List.take_nil]
theorem row_sizes {h : Str} {col : Nat} {wd : Int} (hh : h.length ≤ 900) : (rowL h col wd).length ≤ 902 ∧ sumL (rowL h col wd) ≤ 901 := by
  have hz : 1 ≤ rsz wd col := by
    unfold rsz
    omega
  have h1 := laid_count hz (Txt.words h)
  have h2 := laid_sum (rsz wd col) (Txt.words h)
  have h3 := StrLaws.words_weight h
  have h4 : wsm (Txt.words h) ≤ h.length + 1 := h3
  unfold rowL
  exact ⟨by omega, by omega⟩
theorem sum_ind {col : Nat} (hc : col ≤ 200) : ∀ ls : List Str, ((ls.map fun l => sps col ++ l).map (·.length)).sum = sumL ls + col * ls.length
  | [] => rfl
  | l :: ls => by
    have ih := sum_ind hc ls
    have e : sumL (l :: ls) = l.length + sumL ls := by
      unfold sumL
      rw [List.map_cons, List.sum_cons]
    rw [List.map_cons, List.map_cons, List.sum_cons, Str.length_append, sps_len hc, ih, e, List.length_cons, Nat.mul_succ]
    omega
theorem sum_mem : ∀ {ls : List Str} {l : Str}, l ∈ ls → l.length ≤ sumL ls
  | a :: ls, l, h => by
    have e : sumL (a :: ls) = a.length + sumL ls := by
      unfold sumL
      rw [List.map_cons, List.sum_cons]
    rcases List.mem_cons.mp h with rfl | h
    · omega
    · have := sum_mem h
      omega
def spRowT (K : PySem.W.Frag) (CP : Addr) : Sp := fun vs H Q _ => ∃ (hd h : Str) (col : Nat) (p aL la le ls : Addr) (pr : Str) (us ds ep : V) (wd : Int), vs = [.str hd, .str h, .int (col : Int), .ref p] ∧ PrT CP H p pr us ds ep wd aL la le ls ∧ hd.length ≤ 100 ∧ h.length ≤ 900 ∧ hasW h ∧ col ≤ 100 ∧ wd ≤ 10000 ∧ (∀ H', SqT K H' aL []) ∧ ∀ H', Same H H' → (rowF hd h col wd).length ≤ 200000 → Q (.str (rowF hd h col wd)) H'
section
variable {P : Program} {w : World} {K : PySem.W.Frag} {mg : Str → Option Value} {base : Heap}
abbrev nRT : List Str := ["head", "text", "column", "parser", "lines", "line"]
theorem scRT : FnScope nRT ["head", "text", "column", "parser"] (defScope sRowText) := ⟨rfl, rfl, rfl, by decide +kernel, rfl, by decide +kernel, by decide +kernel⟩
theorem ok_rowT {f fL CP : Addr} {fd fdL : FuncData} (F : Fun K "row_text" "row_text" sRowText f fd) (T : TxtB mg) (zMax : mg "max" = none) (cP : ClsN K CP parF) (La : At P w K mg base "laid_out" 1 ["text", "size"] spLaid fL fdL) : FnOk P w K mg base CX0 2 f fd ["head", "text", "column", "parser"] (spRowT K CP) := by
  refine F.ok scRT (fun vs H Q E h => ?_) (fun cdv A outer s H vs Q E hr h => ?_)
  · obtain ⟨hd, h, col, p, aL, la, le, ls, pr, us, ds, ep, wd, rfl, _⟩ := h
    rfl
  · obtain ⟨hd, h, col, p, aL, la, le, ls, pr, us, ds, ep, wd, rfl, hp, hhd, hh, hw, hc, hwd, hL, k⟩ := h
    have hz6 : PySem.sizeLine = 16777216 := PySem.sizeLine_eq
    obtain ⟨dx, pf, cf, ab, ee, fi, lf, dd, hP⟩ := hp.ex
    refine ⟨_, pss_cons (ps_if (pt_cmp (pc_isN (pv 1))) pss_never pss_nil)
      (pss_mid (ps_if (pt_cmpR op_in_seq pe_str (pe_fld (pv 3) rfl) (by rfl)) pss_never (pss_one (ps_set (i := 4) scRT.nd rfl (Or.inl rfl) (pe_call La.ok hr rfl La.m La.k La.b .nil pass0 (pa_cons (pv 1) (pa_cons (pe_callB (call_max2 rfl) (by rfl) zMax (by decide +kernel) (pa_cons (pe_op op_sub (pe_fld (pv 3) rfl) (pv 2)) (pa_cons pe_int pa_nil))) pa_nil))))))
      (pss_mid (ps_if (pt_cmpR op_le (pe_callB call_len_str (by rfl) T.len PySem.boot_len (pa_cons (pv 0) pa_nil)) (pe_op op_sub (pv 2) pe_int) (nomark _)) (pss_one (ps_par (i := 0) (j := 4) (by rfl) scRT.nd rfl rfl (by decide) rfl rfl (pa_cons (pe_op op_add_str (pe_op op_add_str (pv 0) (pe_op XR.op_mulS pe_str (pe_op op_sub (pv 2) (pe_callB call_len_str (by rfl) T.len PySem.boot_len (pa_cons (pv 0) pa_nil))))) (pe_ix ix_list (pv 4) pe_int (fun _ _ => rfl))) (pa_cons (pe_slice sl_list (pv 4) (po_some pe_int) po_none) pa_nil)) (by rfl))) pss_nil)
      (pss_one (ps_ret (pe_op op_add_str (pe_bm PySem.F.plainAttrs_str PySem.F.slot_str_join PySem.F.type_str_join mt_join pe_str (pa_cons (pe_op op_cat (pe_lst (pa_cons (pv 0) pa_nil)) (pe_lc (own := [("line", 5)]) (g := gName 5) (tt := tYes) (te := tOp _ (tOp _ (tC (.str " ")) (tVar 2)) (tVar 5)) rfl scRT.nd (pi_list (pv 4)) (blkOk_by (N := nRT) (sc := defScope sRowText) (by decide +kernel)) (fun _ _ _ _ _ => pg_name (i := 5) scRT.nd rfl (Or.inl rfl)) (fun _ _ _ _ _ => pts_nil) (fun _ _ _ _ _ => pe_op op_add_str (pe_op XR.op_mulS pe_str (pv 2)) (pv 5)))) pa_nil)) pe_str))))), ?_⟩
    obtain ⟨c1, c2⟩ := row_sizes (col := col) (wd := wd) hh
    have hne : rowL h col wd ≠ [] := laid_ne hw fun w hw => word_len hw
    have hsz : (if 11 > wd - (col : Int) then 11 else wd - (col : Int)) = ((rsz wd col : Nat) : Int) := by
      unfold rsz
      split <;> omega
    have hrz : 1 ≤ rsz wd col ∧ rsz wd col ≤ 10011 := by
      unfold rsz
      omega
    refine ⟨_, rfl, _, rfl, iteF ?_⟩
    refine ⟨fun σ' H' => ∃ L, σ' = [some (.str hd), some (.str h), some (.int (col : Int)), some (.ref p), some (.ref L), none] ∧ Same H H' ∧ H' L = some (.lst ((rowL h col wd).map V.str)), ?_, ?_⟩
    · refine ⟨_, rfl, p, CP, dx, _, _, rfl, hP, cP.cl, cP.no _ (by decide +kernel), rfl, aL, [], rfl, .inr (hL _), rfl, rfl, _, rfl, iteF ?_⟩
      refine ⟨_, rfl, _, rfl, p, CP, dx, _, _, rfl, hP, cP.cl, cP.no _ (by decide +kernel), rfl, _, rfl, _, _, rfl, rfl, _, _, rfl, ?_⟩
      exact ⟨h, rsz wd col, congrArg (fun i => [V.str h, V.int i]) hsz, hrz.1, (by omega), (by omega), fun D H' e _ hD => ⟨D, rfl, e, hD⟩⟩
    rintro _ H1 ⟨L, rfl, e1, hLs⟩
    have hn1 : ("\n" : Str).length = 1 := rfl
    -- the first line
    refine ⟨fun σ' H' => ∃ (hd2 : Str) (ls2 : List Str) (L2 : Addr), σ' = [some (.str hd2), some (.str h), some (.int (col : Int)), some (.ref p), some (.ref L2), none] ∧ Same H H' ∧ H' L2 = some (.lst (ls2.map V.str)) ∧ hd2.length ≤ 1100 ∧ ls2.length ≤ 902 ∧ sumL ls2 ≤ 901 ∧ rowF hd h col wd = Txt.join "\n" (hd2 :: ls2.map fun l => sps col ++ l) ++ "\n", ?_, ?_⟩
    · refine ⟨_, rfl, _, rfl, (by omega), _, rfl, _, _, rfl, rfl, _, _, rfl, rfl, _, rfl, ite2 (fun hq => ?_) (fun hq => ?_)⟩
      · have hq' : hd.length + 2 ≤ col := by
          have := of_decide_eq_true hq
          omega
        have hsub : ((col : Int) - (hd.length : Int)) = ((col - hd.length : Nat) : Int) := by omega
        cases hrl : rowL h col wd with
        | nil => exact absurd hrl hne
        | cons l0 lt =>
          rw [hrl] at hLs c1 c2
          have hl0 : l0.length ≤ 901 := Nat.le_trans (sum_mem (ls := l0 :: lt) List.mem_cons_self) c2
          have hlt : sumL lt ≤ 901 := by
            have e : sumL (l0 :: lt) = l0.length + sumL lt := by
              unfold sumL
              rw [List.map_cons, List.sum_cons]
            omega
          have hspl := sps_len (n := col - hd.length) (by omega)
          unfold sps at hspl
          refine ⟨_, rfl, _, rfl, _, rfl, _, rfl, (by omega), _, _, rfl, rfl, _, _, rfl, rfl, ?_⟩
          rw [hsub]
          refine ⟨(sps_ok (col - hd.length) (by omega)).1, _, _, rfl, rfl, (by rw [hspl]; omega), ?_⟩
          refine ⟨_, rfl, L, _, 0, _, rfl, rfl, SqL.of hLs, atI_nat (j := 0) rfl, _, _, rfl, rfl, (by rw [Str.length_append, hspl]; omega), ?_⟩
          refine ⟨_, rfl, 1, rfl, L, _, rfl, SqL.of hLs, fun Z hZ => ?_⟩
          have hcut : cutV ((l0 :: lt).map V.str) (some 1) none = lt.map V.str := cut_list_from _ 1
          rw [hcut]
          refine ⟨_, _, rfl, hd ++ sps (col - hd.length) ++ l0, lt, Z, rfl, e1.trans (same_upd hZ), upd_same, ?_, ?_, hlt, ?_⟩
          · rw [Str.length_append, Str.length_append, sps_len (by omega)]
            omega
          · rw [List.length_cons] at c1
            omega
          · unfold rowF
            rw [if_pos hq', hrl]
            rfl
      · have hq' : ¬ hd.length + 2 ≤ col := fun z => hq (decide_eq_true (by omega))
        refine ⟨hd, rowL h col wd, L, rfl, e1, hLs, (by omega), c1, c2, ?_⟩
        unfold rowF
        rw [if_neg hq']
    rintro _ H2 ⟨hd2, ls2, L2, rfl, e2, hL2, b1, b2, b3, heq⟩
    rw [heq] at k
    have hsp := sps_ok col (by omega)
    have hspl : (Txt.mul " " (col : Int)).length = col := sps_len (by omega)
    have hsum : ((hd2 :: ls2.map fun l => sps col ++ l).map (·.length)).sum ≤ 100000 := by
      rw [List.map_cons, List.sum_cons, sum_ind (by omega)]
      have : col * ls2.length ≤ 100 * 902 := Nat.mul_le_mul hc b2
      omega
    have hjl := join_len "\n" (hd2 :: ls2.map fun l => sps col ++ l)
    rw [List.length_cons, List.length_map, hn1] at hjl
    refine ⟨rfl, _, rfl, (by show 1 ≤ sizeLine; decide), fun D4 hD4 => ?_⟩
    have e4 := same_upd (o := .lst [.str hd2]) hD4
    have hD4g : (upd H2 D4 (.lst [.str hd2])) D4 = some (.lst [.str hd2]) := upd_same
    generalize upd H2 D4 (.lst [.str hd2]) = G4 at e4 hD4g
    have hL4 := e4 _ _ hL2
    refine ⟨_, rfl, L2, rfl, ⟨_, SqL.of hL4⟩, fun D5 hD5 => ?_⟩
    refine lc_list (K := K) (a := L2) (xs := ls2.map V.str) (fun i H' => Same G4 H' ∧ H' D5 = some (.lst (((ls2.take i).map fun l => sps col ++ l).map V.str))) ⟨same_upd hD5, upd_same⟩ (fun i H' _ h => SqL.of (h.1 _ _ hL4)) (fun i x H' hx h => ?_) (fun H' h => ?_)
    · obtain ⟨l, hl, rfl⟩ := str_at hx
      have hi := (List.getElem?_eq_some_iff.mp hl).1
      have hll := Nat.le_trans (sum_mem (List.mem_of_getElem? hl)) b3
      obtain ⟨g1, g2⟩ := h
      refine ⟨rfl, _, rfl, _, _, rfl, rfl, hsp.1, _, rfl, _, _, rfl, rfl, (by rw [hspl]; omega), _, g2, (by rw [List.length_map, List.length_map, List.length_take]; omega), same_mut g1 hD5, ?_⟩
      rw [upd_same, take_more' hl, List.map_append, List.map_append]
      rfl
    · obtain ⟨g1, g2⟩ := h
      rw [List.length_map, List.take_length] at g2
      refine ⟨D4, D5, _, _, rfl, rfl, g1 _ _ hD4g, g2, (by rw [List.length_map, List.length_map]; show 1 + _ ≤ sizeLine; omega), fun D6 hD6 => ?_⟩
      refine ⟨"\n", D6, hd2 :: ls2.map (fun l => sps col ++ l), rfl, rfl, .inl (SqL.of (by rw [upd_same]; rfl)), (by rw [List.length_cons, List.length_map, hn1]; omega), ?_⟩
      exact ⟨_, _, rfl, rfl, (by rw [hn1]; omega), k _ (e2.trans (e4.trans (g1.trans (same_upd hD6)))) (by rw [Str.length_append, hn1]; omega)⟩
end
end K46

namespace K46
open PySem L2 PyProof PyProof.Rows XStrV
/-! ### a group in the help -/
def optD (x : Str) (pr : Str) (wd : Int) : Option Str → Str
  | some d => x ++ descF d pr wd 2
  | none => x
def secT (ti : Str) (o : Option Str) (fls : List (Str × Str)) (col : Nat) (pr : Str) (wd : Int) : Str := optD ("\n" ++ ti ++ ":\n") pr wd o ++ Txt.join "" (fls.map fun p => rowF ("  " ++ p.1) p.2 col wd) ++ "\n"
def short (o : Option Str) : Prop := ∀ x, o = some x → x.length ≤ 900
theorem opts_mem {CA : Addr} {H : Hp} {as : List V} {fls : List (Str × Str)} (h : Opts CA H as fls) : ∀ p ∈ fls, p.1.length ≤ 40 ∧ p.2.length ≤ 900 := by
  induction h with
  | nil => intro p z; cases z
  | cons a t ih =>
    intro p hp
    rcases List.mem_cons.mp hp with rfl | hp
    · obtain ⟨d, q⟩ := a
      exact ⟨q.l.1, q.l.2.2⟩
    · exact ih p hp
theorem SeX.lens {CS CA : Addr} {H : Hp} {v : V} {o : Option Str} {ti : Str} {fls : List (Str × Str)} (h : SeX CS CA H v o ti fls) : ∀ p ∈ fls, p.1.length ≤ 40 ∧ p.2.length ≤ 900 := by
  obtain ⟨x, dx, m, a, t, as, h1, h2, h3, h4, h5, h6⟩ := h.ex
  exact opts_mem h4
def spSecT (K : PySem.W.Frag) (CP CS CA : Addr) : Sp := fun vs H Q _ => ∃ (v : V) (o : Option Str) (ti : Str) (fls : List (Str × Str)) (r p aL la le ls : Addr) (col : Nat) (pr : Str) (us ds ep : V) (wd : Int), vs = [v, .ref r, .int (col : Int), .ref p] ∧ SeX CS CA H v o ti fls ∧ (o ≠ none ∨ fls ≠ []) ∧ RowsAt H r fls ∧ fls.length ≤ 2 ∧ ti.length ≤ 100 ∧ col ≤ 100 ∧ short o ∧ PrT CP H p pr us ds ep wd aL la le ls ∧ 1 ≤ wd ∧ wd ≤ 10000 ∧ pr.length ≤ 100 ∧ (∀ H', SqT K H' aL []) ∧ ∀ H', Same H H' → (secT ti o fls col pr wd).length ≤ 802000 → Q (.str (secT ti o fls col pr wd)) H'
section
variable {P : Program} {w : World} {K : PySem.W.Frag} {mg : Str → Option Value} {base : Heap}
abbrev nST : List Str := ["section", "rows", "column", "parser", "found", "head", "text"]
theorem scST : FnScope nST ["section", "rows", "column", "parser"] (defScope sSecText) := ⟨rfl, rfl, rfl, by decide +kernel, rfl, by decide +kernel, by decide +kernel⟩
theorem ok_secT {f fD fR CP CS CA : Addr} {fd fdD fdR : FuncData} (F : Fun K "section_text" "section_text" sSecText f fd) (cS : ClsN K CS secF) (De : At P w K mg base "described" 3 ["text", "parser", "indent"] (spDesc K CP) fD fdD) (Rt : At P w K mg base "row_text" 2 ["head", "text", "column", "parser"] (spRowT K CP) fR fdR) : FnOk P w K mg base CX0 4 f fd ["section", "rows", "column", "parser"] (spSecT K CP CS CA) := by
  refine F.ok scST (fun vs H Q E h => ?_) (fun cdv A outer s H vs Q E hr h => ?_)
  · obtain ⟨v, o, ti, fls, r, p, aL, la, le, ls, col, pr, us, ds, ep, wd, rfl, _⟩ := h
    rfl
  · obtain ⟨v, o, ti, fls, r, p, aL, la, le, ls, col, pr, us, ds, ep, wd, rfl, hS, hsh, hR, hn, hti, hcol, hso, hp, h1, h2, hpr, hL, k⟩ := h
    have hz6 : PySem.sizeLine = 16777216 := PySem.sizeLine_eq
    have r2 : Room 2 (A.deeper (PyProof.Rows.envOfC "section_text" (defScope sSecText) s.heap.objs.size f cdv)) := hr.mono (by decide)
    have hlens := hS.lens
    obtain ⟨sx, dx, m, a, t, as, rfl, hsx, hm, ho, hno, ht⟩ := hS.ex
    obtain rfl := ht hsh
    obtain ⟨vs, hr0, hpp⟩ := hR
    have hvl := PySem.Paired.length hpp
    have hn1 : ("\n" : Str).length = 1 := rfl
    have hc2 : (":\n" : Str).length = 2 := rfl
    have h0l : ("\n" ++ ti ++ ":\n" : Str).length = ti.length + 3 := by
      rw [Str.length_append, Str.length_append, hn1, hc2]
      omega
    refine ⟨_, pss_mid (ps_set (i := 4) scST.nd rfl (Or.inl rfl) (pe_ifExp (pt_cmp (pc_isN (pe_fld (pv 0) rfl))) pe_str (pe_op op_add_str (pe_op op_add_str pe_str (pe_fld (pv 0) rfl)) pe_str)))
      (pss_mid (ps_if (pt_cmp (pc_notN (pe_fld (pv 0) rfl))) (pss_one (ps_set (i := 4) scST.nd rfl (Or.inl rfl) (pe_op op_add_str (pv 4) (pe_call De.ok hr rfl De.m De.k De.b .nil pass0 (pa_cons (pe_fld (pv 0) rfl) (pa_cons (pv 3) (pa_cons pe_int pa_nil))))))) pss_nil)
      (pss_one (ps_ret (pe_op op_add_str (pe_op op_add_str (pv 4) (pe_bm PySem.F.plainAttrs_str PySem.F.slot_str_join PySem.F.type_str_join mt_join pe_str (pa_cons (pe_lc (own := [("head", 5), ("text", 6)]) (g := gTup K 2 (gCons (gName 5) (gCons (gName 6) gNil))) (tt := tYes) rfl scST.nd (pi_list (pv 1)) (blkOk_by (N := nST) (sc := defScope sSecText) (by decide +kernel)) (fun _ _ _ _ _ => pg_tup rfl (pgs_cons (pg_name (i := 5) scST.nd rfl (Or.inl rfl)) (pgs_cons (pg_name (i := 6) scST.nd rfl (Or.inl rfl)) pgs_nil))) (fun _ _ _ _ _ => pts_nil) (fun _ _ _ _ _ => pe_call Rt.ok r2 rfl Rt.m Rt.k Rt.b .nil pass0 (pa_cons (pv 5) (pa_cons (pv 6) (pa_cons (pv 2) (pa_cons (pv 3) pa_nil)))))) pa_nil))) pe_str)))), ?_⟩
    refine ⟨fun σ' H' => σ' = [some (.ref sx), some (.ref r), some (.int (col : Int)), some (.ref p), some (.str ("\n" ++ ti ++ ":\n")), none, none] ∧ H = H', ?_, ?_⟩
    · exact ⟨_, rfl, sx, CS, dx, _, _, rfl, hsx, cS.cl, cS.no _ (by decide +kernel), rfl, _, rfl, iteF ⟨_, rfl, sx, CS, dx, _, _, rfl, hsx, cS.cl, cS.no _ (by decide +kernel), rfl, _, _, rfl, rfl, (by rw [hn1]; omega), _, _, rfl, rfl, (by rw [Str.length_append, hn1, hc2]; omega), rfl, rfl⟩⟩
    rintro _ _ ⟨rfl, rfl⟩
    refine ⟨fun σ' H' => σ' = [some (.ref sx), some (.ref r), some (.int (col : Int)), some (.ref p), some (.str (optD ("\n" ++ ti ++ ":\n") pr wd o)), none, none] ∧ Same H H' ∧ (optD ("\n" ++ ti ++ ":\n") pr wd o).length ≤ 401200, ?_, ?_⟩
    · refine ⟨_, rfl, sx, CS, dx, _, _, rfl, hsx, cS.cl, cS.no _ (by decide +kernel), rfl, _, rfl, ?_⟩
      cases o with
      | none => exact iteF ⟨rfl, Same.refl _, by show ("\n" ++ ti ++ ":\n" : Str).length ≤ _; omega⟩
      | some x =>
        have hx := hso x rfl
        exact iteT ⟨_, rfl, _, rfl, sx, CS, dx, _, _, rfl, hsx, cS.cl, cS.no _ (by decide +kernel), rfl, _, rfl, x, pr, p, aL, la, le, ls, us, ds, ep, wd, 2, rfl, hp, .inr rfl, h1, h2, hx, hpr, hL, fun H' e hl => ⟨_, _, rfl, rfl, (by rw [h0l]; omega), rfl, e, (by show ("\n" ++ ti ++ ":\n" ++ descF x pr wd 2).length ≤ _; rw [Str.length_append, h0l]; omega)⟩⟩
    rintro _ H1 ⟨rfl, e1, hl⟩
    have hr1 := e1 _ _ hr0
    have hu : secT ti o fls col pr wd = optD ("\n" ++ ti ++ ":\n") pr wd o ++ Txt.join "" (fls.map fun p => rowF ("  " ++ p.1) p.2 col wd) ++ "\n" := rfl
    rw [hu] at k
    generalize optD ("\n" ++ ti ++ ":\n") pr wd o = O at hl k ⊢
    have h2l : ("  " : Str).length = 2 := rfl
    refine ⟨_, rfl, rfl, _, rfl, r, rfl, ⟨_, SqL.of hr1⟩, fun D hD => ?_⟩
    refine lc_list (K := K) (a := r) (xs := vs) (fun i H' => Same H1 H' ∧ H' D = some (.lst (((fls.take i).map fun p => rowF ("  " ++ p.1) p.2 col wd).map V.str)) ∧ ∀ p ∈ fls.take i, (rowF ("  " ++ p.1) p.2 col wd).length ≤ 200000) ⟨same_upd hD, upd_same, fun p z => nomatch z⟩ (fun i H' _ h => SqL.of (h.1 _ _ hr1)) (fun i x H' hx h => ?_) (fun H' h => ?_)
    · obtain ⟨q, hq, TT, rfl, hTT⟩ := paired_at hpp hx
      obtain ⟨g1, g2, g3⟩ := h
      have hi := (List.getElem?_eq_some_iff.mp hq).1
      have hqm := List.mem_of_getElem? hq
      obtain ⟨l1, l2⟩ := hlens q hqm
      obtain ⟨_, b2⟩ := hS.b q hqm
      have eg := e1.trans g1
      refine ⟨TT, _, rfl, SqT.of (eg _ _ hTT), rfl, _, _, rfl, _, _, rfl, rfl, rfl, ?_⟩
      refine ⟨_, rfl, _, rfl, _, rfl, _, rfl, "  " ++ q.1, q.2, col, p, aL, la, le, ls, pr, us, ds, ep, wd, rfl, hp.keep eg, (by rw [Str.length_append, h2l]; omega), l2, b2, hcol, h2, hL, fun H2 e2 hrl => ?_⟩
      refine ⟨_, e2 _ _ g2, (by rw [List.length_map, List.length_map, List.length_take]; omega), same_mut (g1.trans e2) hD, ?_, fun z hz => ?_⟩
      · rw [upd_same, take_more' hq, List.map_append, List.map_append]
        rfl
      · rw [take_more' hq] at hz
        rcases List.mem_append.mp hz with hz | hz
        · exact g3 z hz
        · rw [List.mem_singleton.mp hz]
          exact hrl
    · obtain ⟨g1, g2, g3⟩ := h
      rw [hvl, List.take_length] at g2 g3
      have h0 : ("" : Str).length = 0 := rfl
      have hsum := strs_sum (n := 200000) (xs := fls.map fun p => rowF ("  " ++ p.1) p.2 col wd) fun x hx => by
        obtain ⟨p, hp, rfl⟩ := List.mem_map.mp hx
        exact g3 p hp
      rw [List.length_map] at hsum
      have hj := join_len "" (fls.map fun p => rowF ("  " ++ p.1) p.2 col wd)
      rw [h0] at hj
      have hln : (fls.map fun p => rowF ("  " ++ p.1) p.2 col wd).length = fls.length := List.length_map ..
      generalize (fls.map fun p => rowF ("  " ++ p.1) p.2 col wd) = rows at g2 hsum hj k hln
      have hb : (rows.map (·.length)).sum + rows.length * ("" : Str).length ≤ sizeLine := by
        rw [h0]
        omega
      refine ⟨"", D, rows, rfl, rfl, .inl (SqL.of g2), hb, ?_⟩
      refine ⟨_, _, rfl, rfl, (by omega), _, _, rfl, rfl, (by rw [Str.length_append, hn1]; omega), k H' (e1.trans g1) ?_⟩
      rw [Str.length_append, Str.length_append, hn1]
      omega
end
end K46

namespace K46
open PySem L2 PyProof PyProof.Rows XStrV
/-! ### the help of a parser of options -/
def optV : Option Str → V
  | some y => .str y
  | none => .non
def addO (g : Str → Str) (a : Str) : Option Str → Str
  | some x => a ++ g x
  | none => a
abbrev Sct := Option Str × Str × List (Str × Str)
def secStep (col : Nat) (pr : Str) (wd : Int) (f : Str) (s : Sct) : Str := if s.1 ≠ none ∨ s.2.2 ≠ [] then f ++ secT s.2.1 s.1 s.2.2 col pr wd else f
def colOf (lg wd : Nat) : Nat := (min (min ((lg : Int) + 2) 24) (max ((wd : Int) - 20) 4)).toNat
def helpF (pr : Str) (fls : List (Str × Str)) (wd : Nat) (ds : Option Str) (os : List Sct) (ep : Option Str) (col : Nat) : Str :=
  addO (fun x => descF x pr wd 0) (os.foldl (secStep col pr wd) (addO (fun x => descF x pr wd 0) (usF pr fls wd ++ "\n\n") ds)) ep
def headsOf (s : Sct) : List Int := s.2.2.map fun p => ((("  " ++ p.1 : Str).length : Nat) : Int)
def nsOf (os : List Sct) : List Int := 0 :: (os.map headsOf).flatten
def spFH (K : PySem.W.Frag) (CP CS CA : Addr) : Sp := fun vs H Q _ => ∃ (p aL la le ls : Addr) (pr y : Str) (ds ep : Option Str) (wd n lg : Nat) (as vs' : List V) (fls : List (Str × Str)) (os : List Sct), vs = [.ref p] ∧ PrT CP H p pr .non (optV ds) (optV ep) wd aL la le ls ∧ H la = some (.lst as) ∧ Opts CA H as fls ∧ as.length ≤ 4 ∧ H le = some (.lst []) ∧ H ls = some (.lst vs') ∧ PySem.Paired (fun v s => SeX CS CA H v s.1 s.2.1 s.2.2) vs' os ∧ os.length ≤ 4 ∧ (∀ s ∈ os, s.2.2.length ≤ 2 ∧ s.2.1.length ≤ 100 ∧ short s.1) ∧ 1 ≤ wd ∧ wd ≤ 10000 ∧ pr.length ≤ 100 ∧ short ds ∧ short ep ∧ (∀ H', SqT K H' aL []) ∧ (∀ m : Int, m ∈ nsOf os → (∀ y ∈ nsOf os, y ≤ m) → m = lg) ∧ SqTo n (helpF pr fls wd ds os ep (colOf lg wd)) y ∧ ∀ H', Same H H' → Q (.str (Txt.stripChars y "\n" ++ "\n")) H'
theorem min3 (a b c : Int) : nuMin3 (.int a) (.int b) (.int c) = some (.int (min (min a b) c)) := by
  have h2 : ∀ a b : Int, nuMin2 (.int a) (.int b) = some (.int (min a b)) := fun a b => by
    show some (if decide (b < a) = true then V.int b else V.int a) = _
    by_cases h : b < a
    · rw [decide_eq_true h, if_pos rfl]
      congr 2
      omega
    · rw [decide_eq_false h, if_neg Bool.false_ne_true]
      congr 2
      omega
  unfold nuMin3
  rw [h2]
  exact h2 _ _
def TabAt (T : Addr) (H : Hp) (t : V) (s : Sct) : Prop := ∃ D, t = .ref D ∧ D ≠ T ∧ RowsAt H D s.2.2
theorem TabAt.keep {T : Addr} {H H' : Hp} {t : V} {s : Sct} (h : TabAt T H t s) (e : Same H H') : TabAt T H' t s := by
  obtain ⟨D, h1, h2, h3⟩ := h
  exact ⟨D, h1, h2, h3.keep e⟩
theorem TabAt.upd {T : Addr} {H : Hp} {t : V} {s : Sct} {xs : List V} {o : HO} (h : TabAt T H t s) (hT : H T = some (.lst xs)) : TabAt T (upd H T o) t s := by
  obtain ⟨D, h1, h2, vs, h3, h4⟩ := h
  refine ⟨D, h1, h2, vs, by rw [upd_ne h2]; exact h3, paired_map (fun v q hq => ?_) h4⟩
  obtain ⟨T0, q1, q2⟩ := hq
  exact ⟨T0, q1, by rw [upd_ne (fun z => by rw [z, hT] at q2; cases q2)]; exact q2⟩
theorem hso_lens {CS CA : Addr} {H : Hp} {vs' : List V} {os : List Sct} (hse : PySem.Paired (fun v s => SeX CS CA H v s.1 s.2.1 s.2.2) vs' os) {i : Nat} {o : Sct} (ho : os[i]? = some o) : ∀ p ∈ o.2.2, p.1.length ≤ 40 ∧ p.2.length ≤ 900 := by
  have key : ∀ {vs' : List V} {os : List Sct}, PySem.Paired (fun v s => SeX CS CA H v s.1 s.2.1 s.2.2) vs' os → ∀ o ∈ os, ∀ p ∈ o.2.2, p.1.length ≤ 40 ∧ p.2.length ≤ 900 := fun h => by
    induction h with
    | nil => intro o z; cases z
    | cons a t ih =>
      intro o ho
      rcases List.mem_cons.mp ho with rfl | ho
      · exact a.lens
      · exact ih o ho
  exact key hse o (List.mem_of_getElem? ho)
section
variable {P : Program} {w : World} {K : PySem.W.Frag} {mg : Str → Option Value} {base : Heap}
abbrev nFH : List Str := ["parser", "tables", "longest", "column", "found", "section", "rows", "head", "text"]
theorem scFH : FnScope nFH ["parser"] (defScope sFormatHelp) := ⟨rfl, rfl, rfl, by decide +kernel, rfl, by decide +kernel, by decide +kernel⟩
theorem ul_small {x : Str} {os : List Str} {sz : Nat} (hx : x.length ≤ 150) (ho : small1 os) (h4 : os.length ≤ 4) : (ulF x os [] sz).length ≤ 10 ∧ ∀ r ∈ ulF x os [] sz, r.length ≤ 2000 := by
  have key : ∀ {y : Str} {ps : List Str} {ind : Nat} {z : Int}, ind ≤ 200 → small1 ps → ps.length ≤ 4 → y.length ≤ 150 → (takF y ps ind z).length ≤ 5 ∧ ∀ r ∈ takF y ps ind z, r.length ≤ 2000 := fun {y ps ind z} hi h hn hy => by
    obtain ⟨a1, a2, a3⟩ := tak_len (sz := z) hi (ps := ps) (q := ([], y)) (n := 0) (m := 400) h.2 (Nat.le_refl _) (by show y.length ≤ 400; omega) (by decide) (fun _ z => nomatch z)
    have ht : takF y ps ind z = if (ps.foldl (takStep ind z) ([], y)).2 ≠ "" then (ps.foldl (takStep ind z) ([], y)).1 ++ [(ps.foldl (takStep ind z) ([], y)).2] else (ps.foldl (takStep ind z) ([], y)).1 := rfl
    rw [ht]
    split
    · refine ⟨by rw [List.length_append]; show _ + 1 ≤ _; omega, fun r hr => ?_⟩
      rcases List.mem_append.mp hr with hr | hr
      · have := a3 r hr
        omega
      · rw [List.mem_singleton.mp hr]
        omega
    · exact ⟨by omega, fun r hr => by have := a3 r hr; omega⟩
  have s0 : small1 ([] : List Str) := ⟨by decide, fun _ z => nomatch z⟩
  have n0 : ([] : List Str).length ≤ 4 := by decide
  have e0 : ("" : Str).length ≤ 150 := by decide
  unfold ulF
  split
  · split
    · obtain ⟨a, b⟩ := key (y := x) (ind := x.length + 1) (z := (sz : Int)) (by omega) s0 n0 hx
      exact ⟨by omega, b⟩
    · obtain ⟨a, b⟩ := key (y := x) (ind := x.length + 1) (z := (sz : Int)) (by omega) ho h4 hx
      obtain ⟨c, d⟩ := key (y := "") (ind := x.length + 1) (z := (sz : Int)) (by omega) s0 n0 e0
      refine ⟨by rw [List.length_append]; omega, fun r hr => ?_⟩
      rcases List.mem_append.mp hr with hr | hr
      · exact b r hr
      · exact d r hr
  · rw [List.append_nil]
    obtain ⟨a, b⟩ := key (y := "") (ind := 7) (z := (sz : Int)) (by omega) ho h4 e0
    obtain ⟨c, d⟩ := key (y := "") (ind := 7) (z := (sz : Int)) (by omega) s0 n0 e0
    have h5 : (if 1 < (takF "" os 7 (sz : Int)).length then takF "" os 7 (sz : Int) ++ takF "" [] 7 (sz : Int) else takF "" os 7 (sz : Int)).length ≤ 9 ∨ (if 1 < (takF "" os 7 (sz : Int)).length then takF "" os 7 (sz : Int) ++ takF "" [] 7 (sz : Int) else takF "" os 7 (sz : Int)).length = 10 := by
      split
      · rw [List.length_append]
        omega
      · omega
    have t0 : takF "" [] 7 (sz : Int) = [] := rfl
    refine ⟨?_, fun r hr => ?_⟩
    · rw [List.length_cons]
      split
      · rw [List.length_append, t0]
        show (takF "" os 7 (sz : Int)).length + 0 + 1 ≤ 10
        omega
      · omega
    · rcases List.mem_cons.mp hr with rfl | hr
      · omega
      · split at hr
        · rcases List.mem_append.mp hr with hr | hr
          · exact b r hr
          · exact d r hr
        · exact b r hr
theorem usF_len {CA : Addr} {H : Hp} {as : List V} {fls : List (Str × Str)} (h : Opts CA H as fls) (hn : as.length ≤ 4) {pr : Str} (hpr : pr.length ≤ 100) (wd : Nat) : (usF pr fls wd).length ≤ 200000 := by
  have hsm := opts_len h (by omega)
  have hal : as.length = fls.length := PySem.Paired.length h
  have hsl : ("usage: " : Str).length = 7 := rfl
  have h1 : (" " : Str).length = 1 := rfl
  have h2 : ("\n" : Str).length = 1 := rfl
  have hul : ("usage: " ++ pr).length ≤ 150 := by
    rw [Str.length_append, hsl]
    omega
  have s0 : small1 ([] : List Str) := ⟨by decide, fun _ z => nomatch z⟩
  show (if _ then _ else _ : Str).length ≤ _
  split
  · have := strs_sum (n := 200) (xs := ("usage: " ++ pr) :: fls.map fun q => br q.1) fun x hx => by
      rcases List.mem_cons.mp hx with rfl | hx
      · omega
      · exact hsm.2 x hx
    have hj := join_len " " (("usage: " ++ pr) :: fls.map fun q => br q.1)
    rw [List.length_cons, List.length_map] at this
    rw [List.length_cons, List.length_map, h1] at hj
    omega
  · have hf : (fls.map fun p => br p.1).length ≤ 4 := by
      rw [List.length_map]
      omega
    obtain ⟨u1, u2⟩ := ul_small (sz := wd) hul hsm hf
    have := strs_sum u2
    have hj := join_len "\n" (ulF ("usage: " ++ pr) (fls.map fun p => br p.1) [] wd)
    rw [h2] at hj
    omega
theorem ok_fh {f fR fU fD fS fQ CP CS CA : Addr} {fd fdR fdU fdD fdS fdQ : FuncData} (F : Fun K "format_help" "format_help" sFormatHelp f fd) (T : TxtB mg) (zMax : mg "max" = none) (zMin : mg "min" = none) (cP : ClsN K CP parF) (cS : ClsN K CS secF)
    (Ro : At P w K mg base "section_rows" 4 ["section", "parser"] (spRows K CP CS CA) fR fdR) (Ut : At P w K mg base "usage_text" 5 ["parser"] (spUsage K CP CA) fU fdU) (De : At P w K mg base "described" 3 ["text", "parser", "indent"] (spDesc K CP) fD fdD) (St : At P w K mg base "section_text" 4 ["section", "rows", "column", "parser"] (spSecT K CP CS CA) fS fdS) (Sq : At P w K mg base "squeezed" 1 ["text"] spSq fQ fdQ) :
    FnOk P w K mg base CX0 6 f fd ["parser"] (spFH K CP CS CA) := by
  refine F.ok scFH (fun vs H Q E h => ?_) (fun cdv A outer s H vs Q E hr h => ?_)
  · obtain ⟨p, aL, la, le, ls, pr, y, ds, ep, wd, n, lg, as, vs', fls, os, rfl, _⟩ := h
    rfl
  · obtain ⟨p, aL, la, le, ls, pr, y, ds, ep, wd, n, lg, as, vs', fls, os, rfl, hp, hla, hop, han, hle, hls, hse, hol, hos, hw1, hw2, hpr, hds, hep, hL, hlg, hsq, k⟩ := h
    have hz6 : PySem.sizeLine = 16777216 := PySem.sizeLine_eq
    have r1 : Room 1 (A.deeper (PyProof.Rows.envOfC "format_help" (defScope sFormatHelp) s.heap.objs.size f cdv)) := hr.mono (by decide)
    have r3 : Room 3 (A.deeper (PyProof.Rows.envOfC "format_help" (defScope sFormatHelp) s.heap.objs.size f cdv)) := hr.mono (by decide)
    have r4 : Room 4 (A.deeper (PyProof.Rows.envOfC "format_help" (defScope sFormatHelp) s.heap.objs.size f cdv)) := hr.mono (by decide)
    obtain ⟨dx, pf, cf, ab, ee, fi, lf, dd, hP⟩ := hp.ex
    have hvl : vs'.length = os.length := PySem.Paired.length hse
    refine ⟨_, pss_mid (ps_setLc (i := 1) (own := [("section", 5)]) (g := gName 5) (tt := tYes) rfl scFH.nd rfl rfl (sw_true rfl rfl rfl (by decide +kernel)) (pi_list (pe_fld (pv 0) rfl)) (blkOk_by (N := nFH) (sc := defScope sFormatHelp) (by decide +kernel)) (fun _ _ _ _ _ => pg_name (i := 5) scFH.nd rfl (Or.inl rfl)) (fun _ _ _ _ _ => pts_nil) (fun _ _ _ _ _ => pe_call Ro.ok r4 rfl Ro.m Ro.k Ro.b .nil pass0 (pa_cons (pv 5) (pa_cons (pv 0) pa_nil))))
      (pss_mid (ps_set (i := 2) scFH.nd rfl (Or.inl rfl) (pe_callB (cr_max rfl) (by rfl) zMax (by decide +kernel) (pa_cons (pe_op op_cat (pe_lst (pa_cons pe_int pa_nil)) (pe_lc2 (own := [("rows", 6), ("head", 7), ("text", 8)]) (vs1 := [7, 8]) (g := gName 6) (tt := tYes) (wi1 := iList K (tVar 6)) (g1 := gTup K 2 (gCons (gName 7) (gCons (gName 8) gNil))) (tt1 := tYes) (te := tCB _ (tCons (tVar 7) tNil)) rfl scFH.nd (pi_list (pv 1)) (blkOk_by (N := nFH) (sc := defScope sFormatHelp) (by decide +kernel)) (by decide) (fun _ _ _ _ _ => pg_name (i := 6) scFH.nd rfl (Or.inl rfl)) (fun _ _ _ _ _ => pts_nil) (fun _ _ _ _ _ => by exact pi_list (pv 6)) (fun _ _ _ _ _ => pg_tup rfl (pgs_cons (pg_name (i := 7) scFH.nd rfl (Or.inl rfl)) (pgs_cons (pg_name (i := 8) scFH.nd rfl (Or.inl rfl)) pgs_nil))) (fun _ _ _ _ _ => pts_nil) (fun _ _ _ _ _ => by exact pe_callB call_len_str (by rfl) T.len PySem.boot_len (pa_cons (pv 7) pa_nil)))) pa_nil)))
      (pss_mid (ps_set (i := 3) scFH.nd rfl (Or.inl rfl) (pe_callB (call_min3Nu rfl) (by rfl) zMin (by decide +kernel) (pa_cons (pe_op op_add (pv 2) pe_int) (pa_cons pe_int (pa_cons (pe_callB (call_max2 rfl) (by rfl) zMax (by decide +kernel) (pa_cons (pe_op op_sub (pe_fld (pv 0) rfl) pe_int) (pa_cons pe_int pa_nil))) pa_nil)))))
      (pss_mid (ps_set (i := 4) scFH.nd rfl (Or.inl rfl) (pe_op op_add_str (pe_call Ut.ok hr rfl Ut.m Ut.k Ut.b .nil pass0 (pa_cons (pv 0) pa_nil)) pe_str))
      (pss_mid (ps_if (pt_cmp (pc_notN (pe_fld (pv 0) rfl))) (pss_one (ps_set (i := 4) scFH.nd rfl (Or.inl rfl) (pe_op op_add_str (pv 4) (pe_call De.ok r3 rfl De.m De.k De.b .nil pass0 (pa_cons (pe_fld (pv 0) rfl) (pa_cons (pv 0) (pa_cons pe_int pa_nil))))))) pss_nil)
      (pss_mid (ps_for PassesOwn.never rfl (RZ.pi_zipA (by rfl) T.zip (pa_cons (pe_fld (pv 0) rfl) (pa_cons (pv 1) pa_nil))) (pg_tup rfl (pgs_cons (pg_name (i := 5) scFH.nd rfl (Or.inl rfl)) (pgs_cons (pg_name (i := 6) scFH.nd rfl (Or.inl rfl)) pgs_nil)))
        (pss_one (ps_if (PW.pt (pw_or (pt_cmp (pc_notN (pe_fld (pv 5) rfl))) (pw_or1 (pt_cmpR op_gt (pe_callB call_len_seq (by rfl) T.len PySem.boot_len (pa_cons (pv 6) pa_nil)) pe_int (nomark _))))) (pss_one (ps_set (i := 4) scFH.nd rfl (Or.inl rfl) (pe_op op_add_str (pv 4) (pe_call St.ok r4 rfl St.m St.k St.b .nil pass0 (pa_cons (pv 5) (pa_cons (pv 6) (pa_cons (pv 3) (pa_cons (pv 0) pa_nil)))))))) pss_nil)))
      (pss_mid (ps_if (pt_cmp (pc_notN (pe_fld (pv 0) rfl))) (pss_one (ps_set (i := 4) scFH.nd rfl (Or.inl rfl) (pe_op op_add_str (pv 4) (pe_call De.ok r3 rfl De.m De.k De.b .nil pass0 (pa_cons (pe_fld (pv 0) rfl) (pa_cons (pv 0) (pa_cons pe_int pa_nil))))))) pss_nil)
      (pss_one (ps_ret (pe_call Sq.ok r1 rfl Sq.m Sq.k Sq.b .nil pass0 (pa_cons (pv 4) pa_nil)))))))))), ?_⟩
    -- tables
    refine ⟨fun σ' H' => ∃ (T : Addr) (ts : List V), σ' = [some (.ref p), some (.ref T), none, none, none, none, none, none, none] ∧ Same H H' ∧ H' T = some (.lst ts) ∧ PySem.Paired (TabAt T H') ts os, ?_, ?_⟩
    · refine ⟨_, rfl, p, CP, dx, _, _, rfl, hP, cP.cl, cP.no _ (by decide +kernel), rfl, ls, rfl, ⟨_, SqL.of hls⟩, fun T hT => ?_⟩
      refine lc_list (K := K) (a := ls) (xs := vs') (fun i H' => Same H H' ∧ ∃ ts : List V, H' T = some (.lst ts) ∧ PySem.Paired (TabAt T H') ts (os.take i)) ⟨same_upd hT, [], upd_same, .nil⟩ (fun i H' _ h => SqL.of (h.1 _ _ hls)) (fun i x H' hx h => ?_) (fun H' h => ?_)
      · obtain ⟨e, ts, h1, h2⟩ := h
        obtain ⟨o, ho, hso⟩ := paired_at hse hx
        have hi : i < vs'.length := (List.getElem?_eq_some_iff.mp hx).1
        have htl := PySem.Paired.length h2
        rw [List.length_take] at htl
        refine ⟨rfl, _, rfl, _, rfl, x, o.1, o.2.1, o.2.2, p, aL, la, le, ls, pr, _, _, _, (wd : Int), rfl, hso.keep e, hp.keep e, hpr, hL, fun D H'' e' hD0 hD => ⟨ts, e' _ _ h1, (by omega), same_mut (e.trans e') hT, ts ++ [.ref D], upd_same, ?_⟩⟩
        have nD : D ≠ T := (ne_of_none h1 hD0).symm
        rw [take_more' ho]
        have hD' : TabAt T H'' (.ref D) o := ⟨D, rfl, nD, hD⟩
        exact paired_snoc (paired_map (fun _ _ q => (q.keep e').upd (e' _ _ h1)) h2) (hD'.upd (e' _ _ h1))
      · obtain ⟨e, ts, h1, h2⟩ := h
        rw [hvl, List.take_length] at h2
        exact ⟨T, ts, rfl, e, h1, h2⟩
    rintro _ H1 ⟨T, ts, rfl, e1, hT, hts⟩
    have htl := PySem.Paired.length hts
    -- longest
    refine ⟨fun σ' H' => σ' = [some (.ref p), some (.ref T), some (.int (lg : Int)), none, none, none, none, none, none] ∧ Same H1 H', ?_, ?_⟩
    · refine ⟨(by show 1 ≤ sizeLine; decide), fun L1 hL1 => ?_⟩
      have eL := same_upd (o := .lst [.int 0]) hL1
      have gL : (upd H1 L1 (.lst [.int 0])) L1 = some (.lst [.int 0]) := upd_same
      generalize upd H1 L1 (.lst [.int 0]) = G at eL gL
      have hTG := eL _ _ hT
      refine ⟨_, rfl, T, rfl, ⟨_, SqL.of hTG⟩, fun D hD => ?_⟩
      have hflat : ∀ i, (((os.take i).map headsOf).flatten).length ≤ 2 * i := fun i => by
        have key : ∀ (l : List Sct), (∀ s ∈ l, s.2.2.length ≤ 2) → ((l.map headsOf).flatten).length ≤ 2 * l.length := fun l => by
          induction l with
          | nil => intro _; exact Nat.le_refl _
          | cons a l ih =>
            intro h
            have h1 := h a List.mem_cons_self
            have h2 := ih fun x hx => h x (List.mem_cons_of_mem _ hx)
            rw [List.map_cons, List.flatten_cons, List.length_append, List.length_cons]
            have : (headsOf a).length = a.2.2.length := by unfold headsOf; rw [List.length_map]
            omega
        have := key (os.take i) fun s hs => (hos s (List.mem_of_mem_take hs)).1
        rw [List.length_take] at this
        omega
      refine ⟨fun i m H' => m = ts.length - i ∧ i ≤ ts.length ∧ Same G H' ∧ H' D = some (.lst ((((os.take i).map headsOf).flatten).map V.int)), ⟨ts.length, by omega, Nat.zero_le _, same_upd hD, upd_same⟩, ?_⟩
      rintro i m H' ⟨rfl, hi, e, hD'⟩
      have hT' := e _ _ hTG
      by_cases hlt : i < ts.length
      · refine .inr ⟨⟨ts, ts[i], SqL.of hT', by simp [hlt]⟩, fun H'' => Same G H'' ∧ H'' D = some (.lst ((((os.take (i + 1)).map headsOf).flatten).map V.int)), fun H'' h => ⟨ts.length - (i + 1), by omega, rfl, hlt, h.1, h.2⟩, fun x H'' q => ?_⟩
        obtain ⟨ey, q⟩ := q
        subst ey
        obtain ⟨o, ho, t, rfl, _, vsr, hvs, hpp⟩ := paired_at hts (q ts (SqL.of hT'))
        have hrl := PySem.Paired.length hpp
        have ht' := e _ _ (eL _ _ hvs)
        have hst : ((os.take (i + 1)).map headsOf).flatten = ((os.take i).map headsOf).flatten ++ headsOf o := by
          rw [take_more' ho, List.map_append, List.flatten_append]
          simp
        rw [hst]
        have hio : i < os.length := (List.getElem?_eq_some_iff.mp ho).1
        have hf := hflat i
        have hho : (headsOf o).length ≤ 2 := by
          unfold headsOf
          rw [List.length_map]
          exact (hos o (List.mem_of_getElem? ho)).1
        have hhl : (headsOf o).length = vsr.length := by
          unfold headsOf
          rw [List.length_map]
          exact hrl.symm
        refine ⟨rfl, _, rfl, t, rfl, ⟨vsr, SqL.of ht'⟩, fun j k H3 => k = vsr.length - j ∧ j ≤ vsr.length ∧ Same G H3 ∧ H3 D = some (.lst ((((os.take i).map headsOf).flatten ++ (headsOf o).take j).map V.int)), ⟨vsr.length, rfl, Nat.zero_le _, e, by rw [List.take_zero, List.append_nil]; exact hD'⟩, ?_⟩
        rintro j k' H3 ⟨rfl, hj, e3, hD3⟩
        have ht3 := e3 _ _ (eL _ _ hvs)
        by_cases hlj : j < vsr.length
        · refine .inr ⟨⟨vsr, vsr[j], SqL.of ht3, by simp [hlj]⟩, fun H4 => Same G H4 ∧ H4 D = some (.lst ((((os.take i).map headsOf).flatten ++ (headsOf o).take (j + 1)).map V.int)), fun H4 h => ⟨vsr.length - (j + 1), by omega, rfl, hlj, h.1, h.2⟩, fun x H4 q => ?_⟩
          obtain ⟨ey, q⟩ := q
          subst ey
          obtain ⟨r, hr', T2, rfl, hT2⟩ := paired_at hpp (q vsr (SqL.of ht3))
          have hT2' := e3 _ _ (eL _ _ hT2)
          have hrm := (hso_lens hse ho) r (List.mem_of_getElem? hr')
          refine ⟨T2, _, rfl, SqT.of hT2', rfl, _, _, rfl, _, _, rfl, rfl, rfl, ?_⟩
          have h2l : ("  " : Str).length = 2 := rfl
          refine ⟨_, rfl, "  " ++ r.1, rfl, (by rw [Str.length_append, h2l]; omega), _, hD3, ?_, same_mut e3 hD, ?_⟩
          · rw [List.length_map, List.length_append, List.length_take]
            omega
          · have hh : (headsOf o)[j]? = some (((("  " ++ r.1 : Str).length : Nat) : Int)) := by
              unfold headsOf
              rw [List.getElem?_map, hr']
              rfl
            rw [upd_same, take_more' hh, ← List.append_assoc, List.map_append (l₂ := [_])]
            rfl
        · have : j = vsr.length := by omega
          subst this
          refine .inl ⟨⟨vsr, SqL.of ht3, Nat.le_refl _⟩, e3, ?_⟩
          rw [← hhl, List.take_length] at hD3
          exact hD3
      · have : i = ts.length := by omega
        subst this
        have hf := hflat os.length
        rw [List.take_length] at hf
        rw [htl, List.take_length] at hD'
        refine .inl ⟨⟨ts, SqL.of hT', by omega⟩, L1, D, _, _, rfl, rfl, e _ _ gL, hD', (by rw [List.length_map]; show 1 + _ ≤ sizeLine; omega), fun D3 hD3 => ⟨D3, nsOf os, rfl, SqL.of (by rw [upd_same]; rfl), (by show 0 < _ + 1; omega), fun mx h1 h2 => ?_⟩⟩
        have := hlg mx h1 h2
        subst this
        exact ⟨rfl, (eL.trans e).trans (same_upd hD3)⟩
    rintro _ H2 ⟨rfl, e2⟩
    have hP2 := e2 _ _ (e1 _ _ hP)
    have hcb : colOf lg wd ≤ 100 ∧ (min (min ((lg : Int) + 2) 24) (if 4 > (wd : Int) - 20 then 4 else (wd : Int) - 20)) = ((colOf lg wd : Nat) : Int) := by
      unfold colOf
      constructor
      · omega
      · split <;> omega
    obtain ⟨hc100, hceq⟩ := hcb
    -- column
    refine ⟨fun σ' H' => σ' = [some (.ref p), some (.ref T), some (.int (lg : Int)), some (.int ((colOf lg wd : Nat) : Int)), none, none, none, none, none] ∧ H2 = H', ?_, ?_⟩
    · have hz := min3 ((lg : Int) + 2) 24 (if 4 > (wd : Int) - 20 then 4 else (wd : Int) - 20)
      rw [hceq] at hz
      exact ⟨_, rfl, _, _, rfl, rfl, _, rfl, p, CP, dx, _, _, rfl, hP2, cP.cl, cP.no _ (by decide +kernel), rfl, _, _, rfl, rfl, _, _, rfl, _, _, _, _, rfl, hz, rfl, rfl⟩
    rintro _ _ ⟨rfl, rfl⟩
    generalize hcol : colOf lg wd = col at hc100 hsq
    -- usage
    have eH2 := e1.trans e2
    have hul := usF_len hop han hpr wd
    have hn2 : ("\n\n" : Str).length = 2 := rfl
    refine ⟨fun σ' H' => σ' = [some (.ref p), some (.ref T), some (.int (lg : Int)), some (.int (col : Int)), some (.str (usF pr fls wd ++ "\n\n")), none, none, none, none] ∧ Same H2 H', ?_, ?_⟩
    · exact ⟨_, rfl, p, aL, la, le, ls, pr, _, _, wd, as, fls, rfl, hp.keep eH2, eH2 _ _ hla, hop.keep eH2, (by omega), eH2 _ _ hle, hpr, hw2, fun H' e => ⟨_, _, rfl, rfl, (by rw [hn2]; omega), rfl, e⟩⟩
    rintro _ H3 ⟨rfl, e3⟩
    have eH3 := eH2.trans e3
    have l0 : (usF pr fls wd ++ "\n\n").length ≤ 200002 := by
      rw [Str.length_append, hn2]
      omega
    generalize hF0 : usF pr fls wd ++ "\n\n" = F0 at l0
    have hw1' : (1 : Int) ≤ (wd : Int) := by omega
    have hw2' : (wd : Int) ≤ 10000 := by omega
    -- description
    refine ⟨fun σ' H' => σ' = [some (.ref p), some (.ref T), some (.int (lg : Int)), some (.int (col : Int)), some (.str (addO (fun x => descF x pr wd 0) F0 ds)), none, none, none, none] ∧ Same H3 H' ∧ (addO (fun x => descF x pr wd 0) F0 ds).length ≤ 602000, ?_, ?_⟩
    · refine ⟨_, rfl, p, CP, dx, _, _, rfl, eH3 _ _ hP, cP.cl, cP.no _ (by decide +kernel), rfl, _, rfl, ?_⟩
      cases ds with
      | none => exact iteF ⟨rfl, Same.refl _, by show F0.length ≤ _; omega⟩
      | some d => exact iteT ⟨_, rfl, _, rfl, p, CP, dx, _, _, rfl, eH3 _ _ hP, cP.cl, cP.no _ (by decide +kernel), rfl, _, rfl, d, pr, p, aL, la, le, ls, _, _, _, wd, 0, rfl, hp.keep eH3, .inl rfl, hw1', hw2', hds d rfl, hpr, hL, fun H' e hl => ⟨_, _, rfl, rfl, (by omega), rfl, e, (by show (F0 ++ descF d pr wd 0).length ≤ _; rw [Str.length_append]; omega)⟩⟩
    rintro _ H4 ⟨rfl, e4, l1⟩
    have eH4 := eH3.trans e4
    generalize hF1 : addO (fun x => descF x pr wd 0) F0 ds = F1 at l1
    have h14 := (e2.trans e3).trans e4
    -- groups
    refine ⟨fun σ' H' => ∃ r5 r6, σ' = [some (.ref p), some (.ref T), some (.int (lg : Int)), some (.int (col : Int)), some (.str (os.foldl (secStep col pr wd) F1)), r5, r6, none, none] ∧ Same H4 H' ∧ (os.foldl (secStep col pr wd) F1).length ≤ 602000 + 802000 * 4, ?_, ?_⟩
    · refine ⟨_, rfl, p, CP, dx, _, _, rfl, eH4 _ _ hP, cP.cl, cP.no _ (by decide +kernel), rfl, _, rfl, ls, T, vs', ts, rfl, .inl ⟨SqL.of (eH4 _ _ hls), SqL.of (h14 _ _ hT), ?_⟩⟩
      refine for_it (walk_zip (K := K) (a := ls) (b := T) (xs := vs') (ys := ts) (n := os.length) (by omega)) (fun i σ' H' => ∃ r5 r6, σ' = [some (.ref p), some (.ref T), some (.int (lg : Int)), some (.int (col : Int)), some (.str ((os.take i).foldl (secStep col pr wd) F1)), r5, r6, none, none] ∧ Same H4 H' ∧ ((os.take i).foldl (secStep col pr wd) F1).length ≤ 602000 + 802000 * i) ⟨none, none, rfl, Same.refl _, by show F1.length ≤ _; omega⟩ ?_ ?_ ?_
      · rintro i σ' H' _ ⟨_, _, _, e, _⟩
        exact ⟨SqL.of (e _ _ (eH4 _ _ hls)), SqL.of (e _ _ (h14 _ _ hT))⟩
      · rintro i v σ' H' H'' hi ⟨r5, r6, rfl, e, hl⟩ yp
        obtain ⟨TT, x, y, rfl, hTT, rfl, hx, hy⟩ := yp
        obtain ⟨o, ho, hso⟩ := paired_at hse hx
        obtain ⟨o', ho', D, rfl, _, hD⟩ := paired_at hts hy
        rw [ho] at ho'
        cases ho'
        obtain ⟨q1, q2, q3⟩ := hos o (List.mem_of_getElem? ho)
        have eT := same_upd (o := .tup [x, .ref D]) hTT
        have hgT : (upd H' TT (.tup [x, .ref D])) TT = some (.tup [x, .ref D]) := upd_same
        generalize upd H' TT (.tup [x, .ref D]) = G at eT hgT
        have eG := eH4.trans (e.trans eT)
        have hsG := hso.keep eG
        have hDG := hD.keep (h14.trans (e.trans eT))
        have htk : os.take (i + 1) = os.take i ++ [o] := take_more' ho
        rw [htk, List.foldl_append]
        show ∃ a, _
        obtain ⟨od, oti, ofl⟩ := o
        have hstep : List.foldl (secStep col pr wd) ((os.take i).foldl (secStep col pr wd) F1) [(od, oti, ofl)] = if od ≠ none ∨ ofl ≠ [] then (os.take i).foldl (secStep col pr wd) F1 ++ secT oti od ofl col pr wd else (os.take i).foldl (secStep col pr wd) F1 := rfl
        rw [hstep]
        generalize (os.take i).foldl (secStep col pr wd) F1 = FF at hl ⊢
        obtain ⟨vr, hvr, hpr2⟩ := hDG
        have hvrl := PySem.Paired.length hpr2
        have hsG' : SeX CS CA G x od oti ofl := hsG
        obtain ⟨sx, sdx, sm, sa, st, sas, rfl, hsx, hsm, _, _, hst⟩ := hsG'.ex
        refine ⟨TT, _, rfl, SqT.of hgT, rfl, _, _, rfl, _, _, rfl, rfl, ?_⟩
        refine ⟨_, rfl, sx, CS, sdx, _, _, rfl, hsx, cS.cl, cS.no _ (by decide +kernel), rfl, _, rfl, ?_⟩
        cases od with
        | some xd =>
          have hsh : (some xd ≠ none ∨ ofl ≠ []) := .inl (fun z => nomatch z)
          exact iteT (iteT ⟨_, rfl, _, rfl, _, rfl, _, rfl, _, rfl, .ref sx, some xd, oti, ofl, D, p, aL, la, le, ls, col, pr, _, _, _, (wd : Int), rfl, hsG', hsh, ⟨vr, hvr, hpr2⟩, q1, q2, hc100, q3, hp.keep eG, hw1', hw2', hpr, hL, fun H7 e7 hl7 => ⟨_, _, rfl, rfl, (by omega), some (.ref sx), some (.ref D), by rw [if_pos hsh]; rfl, e.trans (eT.trans e7), by rw [if_pos hsh, Str.length_append]; omega⟩⟩)
        | none =>
          refine iteF ⟨_, rfl, D, vr, rfl, .inl (SqL.of hvr), _, _, rfl, rfl, _, rfl, ite2 (fun hc => ?_) (fun hc => ?_)⟩
          · have hsh : ((none : Option Str) ≠ none ∨ ofl ≠ []) := .inr (fun z => by
              have := of_decide_eq_true hc
              have hvrl' : vr.length = ofl.length := hvrl
              rw [z] at hvrl'
              have h0 : ([] : List (Str × Str)).length = 0 := rfl
              omega)
            exact ⟨_, rfl, _, rfl, _, rfl, _, rfl, _, rfl, .ref sx, none, oti, ofl, D, p, aL, la, le, ls, col, pr, _, _, _, (wd : Int), rfl, hsG', hsh, ⟨vr, hvr, hpr2⟩, q1, q2, hc100, q3, hp.keep eG, hw1', hw2', hpr, hL, fun H7 e7 hl7 => ⟨_, _, rfl, rfl, (by omega), some (.ref sx), some (.ref D), by rw [if_pos hsh]; rfl, e.trans (eT.trans e7), by rw [if_pos hsh, Str.length_append]; omega⟩⟩
          · have hno : ¬ ((none : Option Str) ≠ none ∨ ofl ≠ []) := fun z => by
              rcases z with z | z
              · exact z rfl
              · apply hc
                have hvrl' : vr.length = ofl.length := hvrl
                have := List.length_pos_iff.mpr z
                exact decide_eq_true (by omega)
            refine ⟨some (.ref sx), some (.ref D), by rw [if_neg hno]; rfl, e.trans eT, ?_⟩
            rw [if_neg hno]
            omega
      · rintro σ' H' ⟨r5, r6, rfl, e, hl⟩
        rw [List.take_length] at hl
        exact ⟨r5, r6, by rw [List.take_length], e, by omega⟩
    rintro _ H5 ⟨r5, r6, rfl, e5, l2⟩
    have eH5 := eH4.trans e5
    generalize hF2 : os.foldl (secStep col pr wd) F1 = F2 at l2
    -- epilog
    refine ⟨fun σ' H' => σ' = [some (.ref p), some (.ref T), some (.int (lg : Int)), some (.int (col : Int)), some (.str (addO (fun x => descF x pr wd 0) F2 ep)), r5, r6, none, none] ∧ Same H5 H' ∧ (addO (fun x => descF x pr wd 0) F2 ep).length ≤ 4900000, ?_, ?_⟩
    · refine ⟨_, rfl, p, CP, dx, _, _, rfl, eH5 _ _ hP, cP.cl, cP.no _ (by decide +kernel), rfl, _, rfl, ?_⟩
      cases ep with
      | none => exact iteF ⟨rfl, Same.refl _, by show F2.length ≤ _; omega⟩
      | some d => exact iteT ⟨_, rfl, _, rfl, p, CP, dx, _, _, rfl, eH5 _ _ hP, cP.cl, cP.no _ (by decide +kernel), rfl, _, rfl, d, pr, p, aL, la, le, ls, _, _, _, wd, 0, rfl, hp.keep eH5, .inl rfl, hw1', hw2', hep d rfl, hpr, hL, fun H' e hl => ⟨_, _, rfl, rfl, (by omega), rfl, e, (by show (F2 ++ descF d pr wd 0).length ≤ _; rw [Str.length_append]; omega)⟩⟩
    rintro _ H6 ⟨rfl, e6, l3⟩
    have hF : addO (fun x => descF x pr wd 0) F2 ep = helpF pr fls wd ds os ep col := by
      unfold helpF
      rw [hF0, hF1, hF2]
    rw [hF] at l3 ⊢
    exact ⟨_, rfl, _, y, n, rfl, hsq, (by omega), k H6 (eH5.trans e6)⟩
end
end K46

namespace K46
open PySem L2 PyProof PyProof.Rows
theorem none_of' {H H' : Hp} (e : Same H H') {b : Addr} (h : H' b = none) : H b = none := by
  cases q : H b with
  | none => rfl
  | some o =>
    rw [e _ _ q] at h
    cases h
def spAddG (CP CS CA : Addr) : Sp := fun vs H Q _ => ∃ (p aL la le ls : Addr) (pr x : Str) (us ds ep : V) (wd : Int) (vs' : List V), vs = [.ref p, .str "t", .str x] ∧ PrT CP H p pr us ds ep wd aL la le ls ∧ H ls = some (.lst vs') ∧ vs'.length ≤ 100 ∧ ∀ (g : Addr) (H' : Hp), Kb ls H H' → H' ls = some (.lst (vs' ++ [.ref g])) → SeX CS CA H' (.ref g) (some x) "t" [] → Q (.ref g) H'
section
variable {P : Program} {w : World} {K : PySem.W.Frag} {mg : Str → Option Value} {base : Heap}
theorem scAG : FnScope ["self", "title", "description", "made"] ["self", "title", "description"] (defScope sAddGroup) := ⟨rfl, rfl, rfl, by decide +kernel, rfl, by decide +kernel, by decide +kernel⟩
theorem ok_addG {dvs : List V} {kws : List (Str × V)} {f fS CP CS CA : Addr} {fd fdS : FuncData} (F : FunD K "add_argument_group" "Parser.add_argument_group" (defArgs sAddGroup) (defBody sAddGroup) (defScope sAddGroup) dvs kws f fd) (cP : ClsN K CP parF) (mS : mg "Section" = some (.ref CS)) (MS : Mk K CS fS) (GS : FnOk P w K mg base CX0 1 fS fdS ["self", "home", "title", "description"] (spSecI CS)) (bS : Binds K fdS ["self", "home", "title", "description"] []) :
    FnOk P w K mg base CX0 5 f fd ["self", "title", "description"] (spAddG CP CS CA) := by
  refine F.ok scAG (fun vs H Q E h => ?_) (fun cdv A0 outer s H vs Q E hr h => ?_)
  · obtain ⟨p, aL, la, le, ls, pr, x, us, ds, ep, wd, vs', rfl, _⟩ := h
    rfl
  · obtain ⟨p, aL, la, le, ls, pr, x, us, ds, ep, wd, vs', rfl, hp, hls, hvl, k⟩ := h
    have hz6 : PySem.sizeLine = 16777216 := PySem.sizeLine_eq
    have r2 : Room 2 (A0.deeper (PyProof.Rows.envOfC "Parser.add_argument_group" (defScope sAddGroup) s.heap.objs.size f cdv)) := hr.mono (by decide)
    obtain ⟨dx, pf, cf, ab, ee, fi, lf, dd, hP⟩ := hp.ex
    refine ⟨_, PSs.nox (pss_mid (ps_set (i := 3) scAG.nd rfl (Or.inl rfl) (pe_make MS GS r2 rfl mS bS .nil pass0 (pa_cons (pv 0) (pa_cons (pv 1) (pa_cons (pv 2) pa_nil)))))
      (pss_cons (ps_expr (pe_bm PySem.F.plainAttrs_list PySem.F.slot_list_append PySem.F.type_list_append mt_append (pe_fld (pv 0) rfl) (pa_cons (pv 3) pa_nil)))
      (pss_one (ps_ret (pv 3))))), ?_⟩
    refine ⟨fun σ' H' => ∃ (g d m : Addr), σ' = [some (.ref p), some (.str "t"), some (.str x), some (.ref g)] ∧ Same H H' ∧ H g = none ∧ H m = none ∧ H' g = some (.ins CS d (sFs (.ref p) (.str "t") (.str x) m)) ∧ H' m = some (.lst []), ?_, ?_⟩
    · refine ⟨_, rfl, _, rfl, _, rfl, fun a0 d0 ha0 hd0 ne0 => ⟨a0, d0, _, _, _, rfl, upd_same, fun m0 K1 kp1 nm0 hm0 hs0 => ⟨rfl, a0, d0, m0, rfl, ?_, ha0, ?_, hs0, hm0⟩⟩⟩
      · have q1 : Same H (upd (upd H d0 (.own a0)) a0 (.ins CS d0 [])) := same_upd2 (same_upd hd0) (by rw [upd_ne ne0.symm]; exact ha0)
        exact fun b o e => kp1 _ _ (q1 _ _ e) (ne_of_none e ha0)
      · have q1 : Same H (upd (upd H d0 (.own a0)) a0 (.ins CS d0 [])) := same_upd2 (same_upd hd0) (by rw [upd_ne ne0.symm]; exact ha0)
        exact none_of' q1 nm0
    rintro _ H1 ⟨g, d, m, rfl, e1, hg0, hm0, hg, hm⟩
    have hl1 := e1 _ _ hls
    refine ⟨_, rfl, p, CP, dx, _, _, rfl, e1 _ _ hP, cP.cl, cP.no _ (by decide +kernel), rfl, .inl ⟨rfl, _, SqL.of hl1⟩, _, rfl, ls, _, _, rfl, rfl, hl1, (by omega), ?_⟩
    have ng : g ≠ ls := (ne_of_none hls hg0).symm
    have nm : m ≠ ls := (ne_of_none hls hm0).symm
    exact ⟨_, rfl, k g _ (fun b u e n => by rw [upd_ne n]; exact e1 _ _ e) upd_same ⟨⟨g, d, m, _, _, [], rfl, by rw [upd_ne ng]; exact hg, by rw [upd_ne nm]; exact hm, .nil, by decide, fun _ => rfl⟩, fun p z => nomatch z⟩⟩
theorem scPFH : FnScope ["self"] ["self"] (defScope sParFH) := ⟨rfl, rfl, rfl, by decide +kernel, rfl, by decide +kernel, by decide +kernel⟩
theorem ok_pfh {f fF CP CS CA : Addr} {fd fdF : FuncData} (F : Fun K "format_help" "Parser.format_help" sParFH f fd) (Fh : At P w K mg base "format_help_helping" 6 ["parser"] (spFH K CP CS CA) fF fdF) : FnOk P w K mg base CX0 7 f fd ["self"] (spFH K CP CS CA) := by
  refine F.ok scPFH (fun vs H Q E h => ?_) (fun cdv A outer s H vs Q E hr h => ?_)
  · obtain ⟨p, aL, la, le, ls, pr, y, ds, ep, wd, n, lg, as, vs', fls, os, rfl, _⟩ := h
    rfl
  · have hh := h
    obtain ⟨p, aL, la, le, ls, pr, y, ds, ep, wd, n, lg, as, vs', fls, os, rfl, _⟩ := hh
    refine ⟨_, pss_one (ps_ret (pe_call Fh.ok hr rfl Fh.m Fh.k Fh.b .nil pass0 (pa_cons (pv 0) pa_nil))), ?_⟩
    exact ⟨_, rfl, h⟩
end
end K46

/-! split and replace of a text whose parts are known -/
namespace XTight
open PySem PySem.StrLaws Builtin Builtin.Str
def jn (y : List Nat) : List (List Nat) → List Nat
  | [] => []
  | [p] => p
  | p :: q :: r => p ++ y ++ jn y (q :: r)
/-- y begins nowhere in l ahead of n -/
def NoAt (y l : List Nat) (n : Nat) : Prop := ∀ k, k < n → (l.drop k).take y.length ≠ y
def Tight (y : List Nat) : List (List Nat) → Prop
  | [] => False
  | [p] => NoAt y p (p.length + 1)
  | p :: q :: r => NoAt y (jn y (p :: q :: r)) p.length ∧ Tight y (q :: r)
theorem at_iff {s sub : Str} {i : Nat} : At s sub s.length i ↔ i + sub.length ≤ s.length ∧ (s.cps.toList.drop i).take sub.length = sub.cps.toList := by
  unfold At
  rw [subAt_eq]
  constructor
  · rintro ⟨h1, h2⟩
    exact ⟨h1, by simpa using h2⟩
  · rintro ⟨h1, h2⟩
    exact ⟨h1, by simpa using h2⟩
theorem len_toList (x : Str) : x.cps.toList.length = x.length := by simp [Str.length]
theorem take_eq_len {l y : List Nat} {k : Nat} (h : (l.drop k).take y.length = y) (hy : y ≠ []) : k + y.length ≤ l.length := by
  have := congrArg List.length h
  rw [List.length_take, List.length_drop] at this
  have hp : 0 < y.length := List.length_pos_iff.mpr hy
  omega
theorem cuts_of {x y : Str} (hy : y.cps.toList ≠ []) : ∀ (parts : List (List Nat)) (pre : List Nat) (cuts : List Nat) (f : Nat), x.cps.toList = pre ++ jn y.cps.toList parts → Tight y.cps.toList parts → ChainG x y x.length pre.length cuts f → (∀ k, f ≤ k → ¬ At x y x.length k) →
    (partsFrom x y.length pre.length cuts).map (·.cps.toList) = parts ∧ (parts.length = 1 → cuts = []) ∧ (cuts = [] → parts.length = 1)
  | [], pre, cuts, f, _, t, _, _ => t.elim
  | [p], pre, cuts, f, e, t, ch, no => by
    have e' : x.cps.toList = pre ++ p := e
    have xl : x.length = pre.length + p.length := by rw [← len_toList, e', List.length_append]
    have nat : ∀ c, pre.length ≤ c → ¬ At x y x.length c := fun c hc ha => by
      obtain ⟨h1, h2⟩ := at_iff.mp ha
      rw [e', List.drop_append] at h2
      have d0 : pre.drop c = [] := List.drop_eq_nil_of_le hc
      rw [d0, List.nil_append, ← len_toList y] at h2
      refine t (c - pre.length) ?_ h2
      omega
    have hc : cuts = [] := by
      cases cuts with
      | nil => rfl
      | cons c r => exact absurd ch.2.1 (nat c ch.1)
    subst hc
    refine ⟨?_, fun _ => rfl, fun _ => rfl⟩
    show [(strSub x pre.length x.length).cps.toList] = [p]
    rw [strSub_toList, e', List.drop_append, List.drop_eq_nil_of_le (Nat.le_refl _), Nat.sub_self, List.drop_zero, List.nil_append]
    rw [List.take_of_length_le (by omega)]
  | p :: q :: r, pre, cuts, f, e, t, ch, no => by
    have yl := len_toList y
    have hyp : 0 < y.cps.toList.length := List.length_pos_iff.mpr hy
    have e' : x.cps.toList = (pre ++ p ++ y.cps.toList) ++ jn y.cps.toList (q :: r) := by
      rw [e]
      show pre ++ (p ++ y.cps.toList ++ jn _ _) = _
      simp only [List.append_assoc]
    have xl : x.length = pre.length + p.length + y.length + (jn y.cps.toList (q :: r)).length := by
      rw [← len_toList x, e', List.length_append, List.length_append, List.length_append, yl]
    have hat : At x y x.length (pre.length + p.length) := by
      refine at_iff.mpr ⟨by omega, ?_⟩
      rw [e', List.append_assoc, ← List.length_append, List.drop_left, List.take_append_of_le_length (by omega), ← yl, List.take_length]
    have nat : ∀ c, pre.length ≤ c → c < pre.length + p.length → ¬ At x y x.length c := fun c h1 h2 ha => by
      obtain ⟨_, h3⟩ := at_iff.mp ha
      rw [e, List.drop_append] at h3
      have d0 : pre.drop c = [] := List.drop_eq_nil_of_le h1
      rw [d0, List.nil_append, ← yl] at h3
      exact t.1 (c - pre.length) (by omega) h3
    cases cuts with
    | nil =>
      have ef : f = pre.length := ch
      exact absurd hat (no _ (by omega))
    | cons c cs =>
      obtain ⟨c1, c2, c3, c4⟩ := ch
      have ec : c = pre.length + p.length := by
        rcases Nat.lt_trichotomy c (pre.length + p.length) with h | h | h
        · exact absurd c2 (nat c c1 h)
        · exact h
        · exact absurd hat (c3 _ (by omega) h)
      subst ec
      have el : (pre ++ p ++ y.cps.toList).length = pre.length + p.length + y.length := by rw [List.length_append, List.length_append, yl]
      rw [← el] at c4
      obtain ⟨i1, _⟩ := cuts_of hy (q :: r) (pre ++ p ++ y.cps.toList) cs f e' t.2 c4 no
      refine ⟨?_, fun h => by simp at h, fun h => by cases h⟩
      show (strSub x pre.length (pre.length + p.length)).cps.toList :: (partsFrom x y.length (pre.length + p.length + y.length) cs).map (·.cps.toList) = p :: q :: r
      rw [← el, i1, strSub_toList, e', List.append_assoc, List.append_assoc, List.drop_left, Nat.add_sub_cancel_left, List.take_left]
theorem toList_inj {a b : Str} (h : a.cps.toList = b.cps.toList) : a = b := by
  cases a
  cases b
  simp at h
  rw [h]
theorem map_inj : ∀ {a b : List Str}, a.map (·.cps.toList) = b.map (·.cps.toList) → a = b
  | [], [], _ => rfl
  | [], _ :: _, h => by cases h
  | _ :: _, [], h => by cases h
  | x :: a, y :: b, h => by
    rw [List.map_cons, List.map_cons, List.cons.injEq] at h
    rw [toList_inj h.1, map_inj h.2]
theorem jn_str (y : Str) : ∀ ps : List Str, (Str.join y ps).cps.toList = jn y.cps.toList (ps.map (·.cps.toList))
  | [] => rfl
  | [p] => rfl
  | p :: q :: r => by
    show (p ++ y ++ Str.join y (q :: r)).cps.toList = _
    rw [Str.cps_append, Str.cps_append, Array.toList_append, Array.toList_append, jn_str y (q :: r)]
    rfl
theorem parts_ne {y : Str} {parts : List Str} (t : Tight y.cps.toList (parts.map (·.cps.toList))) : parts ≠ [] := by
  rintro rfl
  exact t
/-- the parts of a text, told -/
theorem between_of {y : Str} {parts : List Str} (hy : y.cps.toList ≠ []) (t : Tight y.cps.toList (parts.map (·.cps.toList))) :
    partsBetween (Str.join y parts) (occurrences (Str.join y parts) y 0 (Str.join y parts).length ((Str.join y parts).length + 1)) y.length = parts ∧ ((occurrences (Str.join y parts) y 0 (Str.join y parts).length ((Str.join y parts).length + 1)).isEmpty = true ↔ parts.length = 1) := by
  have hl : 1 ≤ y.length := by
    rw [← len_toList]
    exact List.length_pos_iff.mpr hy
  obtain ⟨f, c, no⟩ := occ_tight (Str.join y parts) y hl
  obtain ⟨h1, h2, h3⟩ := cuts_of hy (parts.map (·.cps.toList)) [] _ f (by rw [List.nil_append]; exact jn_str y parts) t c no
  rw [List.length_map] at h2 h3
  rw [partsBetween_eq]
  refine ⟨map_inj h1, ⟨fun h => h3 (List.isEmpty_iff.mp h), fun h => List.isEmpty_iff.mpr (h2 h)⟩⟩
theorem kind_pos (x : Str) : 1 ≤ PySem.Builtin.Str.strKind x := by
  unfold PySem.Builtin.Str.strKind
  split
  · exact Nat.le_refl _
  · split <;> omega
theorem one_of {y : Str} {parts : List Str} (h : parts.length = 1) : [Str.join y parts] = parts := by
  match parts, h with
  | [p], _ => rfl
theorem split_of {y : Str} {parts : List Str} (hy : y.cps.toList ≠ []) (hk : PySem.Builtin.Str.strKind y = 1) (t : Tight y.cps.toList (parts.map (·.cps.toList))) : Txt.split (Str.join y parts) y = parts := by
  obtain ⟨h1, h2⟩ := between_of hy t
  unfold Txt.split
  have hkk : decide (PySem.Builtin.Str.strKind (Str.join y parts) < PySem.Builtin.Str.strKind y) = false := decide_eq_false (by have := kind_pos (Str.join y parts); omega)
  rw [hkk, Bool.or_false]
  by_cases hlt : (Str.join y parts).length < y.length
  · rw [if_pos (decide_eq_true hlt)]
    have : parts.length = 1 := by
      rcases parts with _ | ⟨p, _ | ⟨q, r⟩⟩
      · exact absurd rfl (parts_ne t)
      · rfl
      · exfalso
        have e : (Str.join y (p :: q :: r)).length = p.length + y.length + (Str.join y (q :: r)).length := by
          show (p ++ y ++ Str.join y (q :: r)).length = _
          rw [Str.length_append, Str.length_append]
        omega
    exact one_of this
  · rw [if_neg (fun z => hlt (of_decide_eq_true z))]
    by_cases he : (occurrences (Str.join y parts) y 0 (Str.join y parts).length ((Str.join y parts).length + 1)).isEmpty = true
    · rw [if_pos he]
      exact one_of (h2.mp he)
    · rw [if_neg he]
      exact h1
theorem replace_of {y z : Str} {parts : List Str} (hy : y.cps.toList ≠ []) (t : Tight y.cps.toList (parts.map (·.cps.toList))) : Txt.replace (Str.join y parts) y z = Str.join z parts := by
  obtain ⟨h1, h2⟩ := between_of hy t
  have hyl : (y.length == 0) = false := by
    rw [← len_toList]
    have := List.length_pos_iff.mpr hy
    exact beq_eq_false_iff_ne.mpr (by omega)
  unfold Txt.replace
  rw [hyl, Bool.false_and, Bool.or_false]
  by_cases he : (occurrences (Str.join y parts) y 0 (Str.join y parts).length ((Str.join y parts).length + 1)).isEmpty = true
  · rw [if_pos he]
    match parts, h2.mp he with
    | [p], _ => rfl
  · rw [if_neg he, h1, glued_eq_join]
/-- whether y is in a text -/
theorem found_of {y : Str} {parts : List Str} (hy : y.cps.toList ≠ []) (t : Tight y.cps.toList (parts.map (·.cps.toList))) : (!(occurrences (Str.join y parts) y 0 (Str.join y parts).length 1).isEmpty) = decide (parts.length ≠ 1) := by
  obtain ⟨h1, h2⟩ := between_of hy t
  by_cases hp : parts.length = 1
  · rw [decide_eq_false (fun z => z hp)]
    cases q : !(occurrences (Str.join y parts) y 0 (Str.join y parts).length 1).isEmpty with
    | false => rfl
    | true =>
      obtain ⟨i, a1, a2⟩ := (found_iff (Str.join y parts) y).mp q
      match parts, hp with
      | [p], _ =>
        have ha := at_iff.mp (show At p y p.length i from ⟨a1, a2⟩)
        exact absurd (by rw [len_toList]; exact ha.2) (t i (by rw [len_toList]; omega))
  · rw [decide_eq_true hp]
    refine (found_iff (Str.join y parts) y).mpr ?_
    rcases parts with _ | ⟨p, _ | ⟨q, r⟩⟩
    · exact absurd rfl (parts_ne t)
    · exact absurd rfl hp
    · have e : (Str.join y (p :: q :: r)).length = p.length + y.length + (Str.join y (q :: r)).length := by
        show (p ++ y ++ Str.join y (q :: r)).length = _
        rw [Str.length_append, Str.length_append]
      have ha : At (Str.join y (p :: q :: r)) y (Str.join y (p :: q :: r)).length p.length := by
        refine at_iff.mpr ⟨by omega, ?_⟩
        rw [jn_str]
        show ((p.cps.toList ++ y.cps.toList ++ jn _ _).drop p.length).take y.length = _
        rw [List.append_assoc, ← len_toList p, List.drop_left, List.take_append_of_le_length (by rw [len_toList]; exact Nat.le_refl _), ← len_toList, List.take_length]
      exact ⟨_, ha.1, ha.2⟩
end XTight

/-! texts of rows, blocks of rows, and line feeds between them -/
namespace XRuns
open PySem XTight
/-- the longest run of line feeds, cur of them ahead -/
def mr (cur : Nat) : List Nat → Nat
  | [] => cur
  | c :: l => if c = 10 then mr (cur + 1) l else max cur (mr 0 l)
theorem mr_nl (cur : Nat) (l : List Nat) : mr cur (10 :: l) = mr (cur + 1) l := by
  rw [mr, if_pos rfl]
theorem mr_ot {c : Nat} (h : c ≠ 10) (cur : Nat) (l : List Nat) : mr cur (c :: l) = max cur (mr 0 l) := by
  rw [mr, if_neg h]
theorem mr_ge : ∀ (l : List Nat) (cur : Nat), cur ≤ mr cur l
  | [], cur => Nat.le_refl _
  | c :: l, cur => by
    unfold mr
    split
    · exact Nat.le_trans (Nat.le_succ _) (mr_ge l (cur + 1))
    · exact Nat.le_max_left _ _
theorem mr_mono : ∀ (l : List Nat) (a b : Nat), a ≤ b → mr a l ≤ mr b l
  | [], a, b, h => h
  | c :: l, a, b, h => by
    unfold mr
    split
    · exact mr_mono l _ _ (Nat.succ_le_succ h)
    · have := Nat.le_max_left b (mr 0 l)
      exact Nat.max_le.mpr ⟨by omega, Nat.le_max_right _ _⟩
theorem mr_drop : ∀ (l : List Nat) (cur k : Nat), mr 0 (l.drop k) ≤ mr cur l
  | [], cur, k => by
    rw [List.drop_nil]
    exact Nat.zero_le _
  | c :: l, cur, 0 => mr_mono _ _ _ (Nat.zero_le _)
  | c :: l, cur, k + 1 => by
    show mr 0 (l.drop k) ≤ _
    by_cases h : c = 10
    · subst h
      rw [mr_nl]
      exact mr_drop l _ k
    · rw [mr_ot h]
      exact Nat.le_trans (mr_drop l 0 k) (Nat.le_max_right _ _)
theorem mr_rep : ∀ (r cur : Nat) (l : List Nat), mr cur (List.replicate r 10 ++ l) = mr (cur + r) l
  | 0, cur, l => rfl
  | r + 1, cur, l => by
    rw [List.replicate_succ]
    show mr cur (10 :: (List.replicate r 10 ++ l)) = _
    rw [mr_nl, mr_rep r (cur + 1) l]
    have e : cur + 1 + r = cur + (r + 1) := by omega
    rw [e]
theorem no_inf {l : List Nat} {m : Nat} (h : mr 0 l < m) (k : Nat) : (l.drop k).take m ≠ List.replicate m 10 := by
  intro e
  have h1 := mr_drop l 0 k
  have h2 : l.drop k = List.replicate m 10 ++ (l.drop k).drop m := by
    have := List.take_append_drop m (l.drop k)
    rw [e] at this
    exact this.symm
  rw [h2, mr_rep] at h1
  have := mr_ge ((l.drop k).drop m) (0 + m)
  omega
/-- a row: not empty, without line feeds -/
def Row (r : List Nat) : Prop := r ≠ [] ∧ 10 ∉ r
theorem mr_row {r : List Nat} (h : Row r) (cur n : Nat) (l : List Nat) (h1 : cur ≤ n) (h2 : mr 0 l ≤ n) : mr cur (r ++ l) ≤ n := by
  obtain ⟨h0, hn⟩ := h
  induction r generalizing cur with
  | nil => exact absurd rfl h0
  | cons c r ih =>
    show mr cur (c :: (r ++ l)) ≤ n
    have hc : ¬ c = 10 := fun z => hn (by rw [z]; exact List.mem_cons_self)
    rw [mr_ot hc]
    refine Nat.max_le.mpr ⟨h1, ?_⟩
    cases r with
    | nil => exact h2
    | cons d r => exact ih 0 (Nat.zero_le _) (fun z => nomatch z) (fun z => hn (List.mem_cons_of_mem _ z))
/-- a block: rows with one line feed between -/
def Blk (rs : List (List Nat)) : Prop := rs ≠ [] ∧ ∀ r ∈ rs, Row r
def bt (rs : List (List Nat)) : List Nat := jn [10] rs
theorem mr_blk : ∀ {rs : List (List Nat)}, Blk rs → ∀ (cur n : Nat) (l : List Nat), 1 ≤ n → cur ≤ n → mr 0 l ≤ n → mr cur (bt rs ++ l) ≤ n
  | [], h, _, _, _, _, _, _ => absurd rfl h.1
  | [r], h, cur, n, l, _, h1, h2 => mr_row (h.2 r List.mem_cons_self) cur n l h1 h2
  | r :: s :: t, h, cur, n, l, hn, h1, h2 => by
    have e : bt (r :: s :: t) ++ l = r ++ ([10] ++ (bt (s :: t) ++ l)) := by
      show (r ++ [10] ++ jn [10] (s :: t)) ++ l = _
      simp only [List.append_assoc]
      rfl
    rw [e]
    refine mr_row (h.2 r List.mem_cons_self) cur n _ h1 ?_
    show mr 0 (10 :: (bt (s :: t) ++ l)) ≤ n
    rw [mr_nl]
    exact mr_blk (rs := s :: t) ⟨(fun z => nomatch z), fun x hx => h.2 x (List.mem_cons_of_mem _ hx)⟩ 1 n l hn hn h2
theorem mr_end {rs : List (List Nat)} (h : Blk rs) (cur n : Nat) (hn : 1 ≤ n) (h1 : cur ≤ n) : mr cur (bt rs) ≤ n := by
  have := mr_blk h cur n [] hn h1 (Nat.zero_le _)
  rw [List.append_nil] at this
  exact this
theorem mr_run (r cur n : Nat) (l : List Nat) (h : mr (cur + r) l ≤ n) : mr cur (List.replicate r 10 ++ l) ≤ n := by
  rw [mr_rep]
  exact h
/-- the last sign is no line feed -/
def Lst (l : List Nat) : Prop := ∃ a c, l = a ++ [c] ∧ c ≠ 10
theorem lst_row {r : List Nat} (h : Row r) : Lst r := by
  refine ⟨r.dropLast, r.getLast h.1, (List.dropLast_concat_getLast h.1).symm, fun z => h.2 ?_⟩
  rw [← z]
  exact List.getLast_mem h.1
theorem lst_app {a b : List Nat} (h : Lst b) : Lst (a ++ b) := by
  obtain ⟨x, c, e, hc⟩ := h
  exact ⟨a ++ x, c, by rw [e, List.append_assoc], hc⟩
theorem lst_blk : ∀ {rs : List (List Nat)}, Blk rs → Lst (bt rs)
  | [], h => absurd rfl h.1
  | [r], h => lst_row (h.2 r List.mem_cons_self)
  | r :: s :: t, h => by
    show Lst (r ++ [10] ++ jn [10] (s :: t))
    exact lst_app (lst_blk (rs := s :: t) ⟨(fun z => nomatch z), fun x hx => h.2 x (List.mem_cons_of_mem _ hx)⟩)
theorem no_at {m : Nat} (hm : 1 ≤ m) {p l : List Nat} (h : mr 0 p < m) (hl : Lst p) : NoAt (List.replicate m 10) (p ++ l) p.length := by
  intro k hk e
  rw [List.length_replicate] at e
  by_cases hle : k + m ≤ p.length
  · rw [List.drop_append_of_le_length (by omega), List.take_append_of_le_length (by rw [List.length_drop]; omega)] at e
    exact no_inf h k e
  · obtain ⟨a, c, rfl, hc⟩ := hl
    rw [List.length_append] at hk hle
    have hk' : k ≤ a.length := by
      have h1 : ([c] : List Nat).length = 1 := rfl
      omega
    have h1 : ([c] : List Nat).length = 1 := rfl
    have hi : a.length - k < m := by omega
    have e1 : ((((a ++ [c]) ++ l).drop k).take m)[a.length - k]? = (List.replicate m 10)[a.length - k]? := by rw [e]
    rw [List.getElem?_take_of_lt hi, List.getElem?_drop] at e1
    have e2 : k + (a.length - k) = a.length := by omega
    rw [e2, List.append_assoc, List.getElem?_append_right (Nat.le_refl _), Nat.sub_self] at e1
    rw [List.getElem?_replicate, if_pos hi] at e1
    simp at e1
    exact hc e1
theorem no_at_end {m : Nat} {p : List Nat} (h : mr 0 p < m) : NoAt (List.replicate m 10) p (p.length + 1) := by
  intro k _ e
  rw [List.length_replicate] at e
  exact no_inf h k e
/-- parts with short runs, none but the last one ends with a line feed -/
def Pts (m : Nat) : List (List Nat) → Prop
  | [] => False
  | [p] => mr 0 p < m
  | p :: q :: r => mr 0 p < m ∧ Lst p ∧ Pts m (q :: r)
theorem tight_pts {m : Nat} (hm : 1 ≤ m) : ∀ {ps : List (List Nat)}, Pts m ps → Tight (List.replicate m 10) ps
  | [], h => h.elim
  | [p], h => no_at_end h
  | p :: q :: r, h => by
    refine ⟨?_, tight_pts hm h.2.2⟩
    show NoAt _ (p ++ List.replicate m 10 ++ jn _ (q :: r)) p.length
    rw [List.append_assoc]
    exact no_at hm h.1 h.2.1
theorem pts_rows : ∀ {rs : List (List Nat)}, Blk rs → Pts 1 rs
  | [], h => absurd rfl h.1
  | [r], h => by
    have hr := h.2 r List.mem_cons_self
    have := mr_row hr 0 0 [] (Nat.le_refl _) (Nat.le_refl _)
    rw [List.append_nil] at this
    show mr 0 r < 1
    omega
  | r :: s :: t, h => by
    have hr := h.2 r List.mem_cons_self
    have := mr_row hr 0 0 [] (Nat.le_refl _) (Nat.le_refl _)
    rw [List.append_nil] at this
    exact ⟨by omega, lst_row hr, pts_rows (rs := s :: t) ⟨(fun z => nomatch z), fun x hx => h.2 x (List.mem_cons_of_mem _ hx)⟩⟩
end XRuns

/-! texts by their signs: strip of line feeds, split and replace by line feeds -/
namespace XStrip
open PySem PySem.StrLaws Builtin Builtin.Str XTight XRuns
def mk (l : List Nat) : Str := ⟨l.toArray⟩
theorem mk_list (l : List Nat) : (mk l).cps.toList = l := rfl
theorem mk_of (x : Str) : mk x.cps.toList = x := toList_inj rfl
theorem map_mk : ∀ ps : List (List Nat), (ps.map mk).map (·.cps.toList) = ps
  | [] => rfl
  | p :: ps => by
    rw [List.map_cons, List.map_cons, map_mk ps]
    rfl
theorem join_mk {x y : Str} {ps : List (List Nat)} (h : x.cps.toList = jn y.cps.toList ps) : x = Str.join y (ps.map mk) := by
  apply toList_inj
  rw [jn_str, map_mk]
  exact h
def nls (m : Nat) (y : Str) : Prop := y.cps.toList = List.replicate m 10
theorem nls_ne {m : Nat} {y : Str} (hm : 1 ≤ m) (hy : nls m y) : y.cps.toList ≠ [] := by
  rw [hy]
  intro e
  have := congrArg List.length e
  rw [List.length_replicate] at this
  have h0 : ([] : List Nat).length = 0 := rfl
  omega
theorem tight_mk {m : Nat} {y : Str} {ps : List (List Nat)} (hm : 1 ≤ m) (hy : nls m y) (hp : Pts m ps) : Tight y.cps.toList ((ps.map mk).map (·.cps.toList)) := by
  rw [map_mk, hy]
  exact tight_pts hm hp
theorem rep_pts {m : Nat} {x y : Str} (z : Str) {ps : List (List Nat)} (hm : 1 ≤ m) (hy : nls m y) (hp : Pts m ps) (hx : x.cps.toList = jn y.cps.toList ps) : (Txt.replace x y z).cps.toList = jn z.cps.toList ps := by
  rw [join_mk hx, replace_of (nls_ne hm hy) (tight_mk hm hy hp), jn_str, map_mk]
theorem found_pts {m : Nat} {x y : Str} {ps : List (List Nat)} (hm : 1 ≤ m) (hy : nls m y) (hp : Pts m ps) (hx : x.cps.toList = jn y.cps.toList ps) : (!(occurrences x y 0 x.length 1).isEmpty) = decide (ps.length ≠ 1) := by
  have := found_of (nls_ne hm hy) (tight_mk hm hy hp)
  rw [← join_mk hx, List.length_map] at this
  exact this
theorem split_pts {m : Nat} {x y : Str} {ps : List (List Nat)} (hm : 1 ≤ m) (hy : nls m y) (hk : PySem.Builtin.Str.strKind y = 1) (hp : Pts m ps) (hx : x.cps.toList = jn y.cps.toList ps) : Txt.split x y = ps.map mk := by
  have := split_of (nls_ne hm hy) hk (tight_mk hm hy hp)
  rw [← join_mk hx] at this
  exact this
theorem tw_none {g : Nat → Bool} {c : Nat} {l : List Nat} (h : g c = false) : (c :: l).takeWhile g = [] := by
  rw [List.takeWhile_cons, h]
  rfl
theorem tw_rep {g : Nat → Bool} {d : Nat} (h : g d = true) : ∀ (k : Nat) (l : List Nat), (List.replicate k d ++ l).takeWhile g = List.replicate k d ++ l.takeWhile g
  | 0, l => rfl
  | k + 1, l => by
    rw [List.replicate_succ]
    show (d :: (List.replicate k d ++ l)).takeWhile g = _
    rw [List.takeWhile_cons, h, if_pos rfl, tw_rep h k l]
    rfl
theorem strip_nl {x : Str} {c : Nat} {m : List Nat} {k : Nat} (hx : x.cps.toList = (c :: m) ++ List.replicate k 10) (h0 : c ≠ 10) (hl : Lst (c :: m)) : Txt.stripChars x "\n" = mk (c :: m) := by
  have g1 : ("\n" : Str).cps.contains 10 = true := by decide +kernel
  have g2 : ∀ d : Nat, d ≠ 10 → ("\n" : Str).cps.contains d = false := fun d hd => by
    cases q : ("\n" : Str).cps.contains d with
    | false => rfl
    | true =>
      have h1 := Array.contains_iff_mem.mp q
      have h2 : d ∈ ("\n" : Str).cps.toList := Array.mem_toList_iff.mpr h1
      have h3 : ("\n" : Str).cps.toList = [10] := by decide +kernel
      rw [h3] at h2
      exact absurd (List.mem_singleton.mp h2) hd
  apply toList_inj
  show (Txt.stripBy ("\n" : Str).cps.contains true true x).cps.toList = c :: m
  rw [PyProof.Rows.stripBy_eq]
  have lo : stripLo ("\n" : Str).cps.contains true x = 0 := by
    unfold stripLo
    rw [if_pos rfl, hx]
    show (List.takeWhile _ (c :: (m ++ List.replicate k 10))).length = 0
    rw [tw_none (g2 c h0)]
    rfl
  rw [lo]
  have xl : x.length = (c :: m).length + k := by
    have : x.cps.toList.length = x.length := by simp [Str.length]
    rw [← this, hx, List.length_append, List.length_replicate]
  have hi : stripHi ("\n" : Str).cps.contains true x 0 = (c :: m).length := by
    unfold stripHi
    rw [if_pos rfl, List.drop_zero, hx, List.reverse_append, List.reverse_replicate, tw_rep g1]
    obtain ⟨a, d, e, hd⟩ := hl
    rw [e, List.reverse_append]
    show x.length - (List.replicate k 10 ++ List.takeWhile _ (d :: a.reverse)).length = _
    rw [tw_none (g2 d hd), List.append_nil, List.length_replicate, xl, e]
    omega
  rw [hi, strSub_toList, hx, List.drop_zero, Nat.sub_zero, List.take_left]
end XStrip

namespace K46
open PySem L2 PyProof PyProof.Rows XRuns XTight XStrip XStrV
/-! ### line feeds three in a row become two -/
abbrev nn : List Nat := [10, 10]
def G (d : List (List Nat)) (l : List Nat) : List Nat := bt d ++ (nn ++ l)
theorem mr_nn (cur : Nat) (l : List Nat) : mr cur (nn ++ l) = mr (cur + 2) l := mr_rep 2 cur l
theorem g_le {d : List (List Nat)} {l : List Nat} {cur : Nat} (h : Blk d) (hl : mr 2 l ≤ 2) (hc : cur ≤ 2) : mr cur (G d l) ≤ 2 := by
  unfold G
  refine mr_blk h cur 2 _ (by decide) hc ?_
  rw [mr_nn]
  exact hl
theorem e_le {d : List (List Nat)} {cur : Nat} (h : Blk d) (hc : cur ≤ 2) : mr cur (bt d) ≤ 2 := mr_end h cur 2 (by decide) hc
theorem n_le {d : List (List Nat)} (h : Blk d) : mr 0 (10 :: bt d) ≤ 2 := by
  rw [mr_nl]
  exact e_le h (by decide)
theorem jn1 (y u : List Nat) : jn y [u] = u := rfl
theorem mr_2 : mr 2 [] ≤ 2 := Nat.le_refl _
theorem g_lst {d : List (List Nat)} {l : List Nat} (h : Lst l) : Lst (G d l) := lst_app (lst_app h)
theorem n_lst {d : List (List Nat)} (h : Blk d) : Lst (10 :: bt d) := lst_app (a := [10]) (lst_blk h)
theorem row_blk {u : List Nat} (h : Row u) : Blk [u] := ⟨(fun z => nomatch z), fun r hr => by rw [List.mem_singleton.mp hr]; exact h⟩
theorem n3 : nls 3 "\n\n\n" := by
  show _ = _
  decide +kernel
theorem n3l : ("\n\n\n" : Str).cps.toList = [10, 10, 10] := by decide +kernel
theorem n2 : nls 2 "\n\n" := by
  show _ = _
  decide +kernel
theorem n2l : ("\n\n" : Str).cps.toList = [10, 10] := by decide +kernel
theorem n1 : nls 1 "\n" := by
  show _ = _
  decide +kernel
theorem n1l : ("\n" : Str).cps.toList = [10] := by decide +kernel
theorem sq_zero {x : Str} (h : mr 0 x.cps.toList ≤ 2) : SqTo 0 x x := by
  refine ⟨?_, rfl⟩
  have := found_pts (m := 3) (x := x) (ps := [x.cps.toList]) (by decide) n3 (by show _ < 3; omega) rfl
  rw [this]
  rfl
theorem sq_more {x y : Str} {n : Nat} {ps : List (List Nat)} {l : List Nat} (hp : Pts 3 ps) (h1 : ps.length ≠ 1) (hx : x.cps.toList = jn [10, 10, 10] ps) (hz : jn nn ps = l) (hl : l.length ≤ 5000000) (k : ∀ z : Str, z.cps.toList = l → SqTo n z y) : SqTo (n + 1) x y := by
  have hx' : x.cps.toList = jn ("\n\n\n" : Str).cps.toList ps := by rw [n3l]; exact hx
  have hr := rep_pts (m := 3) "\n\n" (by decide) n3 hp hx'
  rw [n2l] at hr
  have hr' := hr.trans hz
  refine ⟨?_, ?_, k _ hr'⟩
  · rw [found_pts (m := 3) (by decide) n3 hp hx']
    exact decide_eq_true h1
  · rw [← len_tl, hr']
    exact hl
theorem join_bt (rows : List Str) : (Str.join "\n" rows).cps.toList = bt (rows.map (·.cps.toList)) := by
  rw [jn_str, n1l]
  rfl
theorem split_blk {rows : List Str} (h : Blk (rows.map (·.cps.toList))) : Txt.split (Str.join "\n" rows) "\n" = rows := by
  have := split_pts (m := 1) (x := Str.join "\n" rows) (ps := rows.map (·.cps.toList)) (by decide) n1 (by decide +kernel) (pts_rows h) (jn_str _ _)
  rw [this]
  apply XTight.map_inj
  exact map_mk _
theorem bt_cons {r : List Nat} : ∀ {rs : List (List Nat)}, rs ≠ [] → bt (r :: rs) = r ++ [10] ++ bt rs
  | [], h => absurd rfl h
  | s :: t, _ => rfl
theorem spcs_0 : spcs 0 = "" := by decide +kernel
theorem spcs_2 : spcs 2 = "  " := by decide +kernel
theorem nil_str (x : Str) : "" ++ x = x := by
  apply K46.toL_inj
  rw [Str.cps_append, Array.toList_append]
  rfl
theorem sIx_m1 (n d : Nat) : HT.sIx n d (some (-1)) = n - 1 := by
  show (if (-1 : Int) < 0 then ((-1 : Int) + (n : Int)).toNat else min ((-1 : Int)).toNat n) = _
  rw [if_pos (by decide)]
  omega
theorem cutS_last (e : Str) : cutS (e ++ "\n") (some (-1)) none = "\n" := by
  apply K46.toL_inj
  unfold cutS
  rw [sIx_m1, HT.sIx_none]
  have hl : (e ++ "\n").length = e.length + 1 := by rw [Str.length_append]; rfl
  have ht : (e ++ "\n").cps.toList = e.cps.toList ++ [10] := by rw [Str.cps_append, Array.toList_append, n1l]
  show ((e ++ "\n").cps.toList.drop ((e ++ "\n").length - 1)).take _ = ("\n" : Str).cps.toList
  rw [hl, ht, n1l, Nat.add_sub_cancel, ← len_tl, List.drop_left, List.take_of_length_le (by show 1 ≤ _; omega)]
theorem cutS_init (e : Str) : cutS (e ++ "\n") none (some (-1)) = e := by
  apply K46.toL_inj
  unfold cutS
  rw [sIx_m1, HT.sIx_none]
  have hl : (e ++ "\n").length = e.length + 1 := by rw [Str.length_append]; rfl
  have ht : (e ++ "\n").cps.toList = e.cps.toList ++ [10] := by rw [Str.cps_append, Array.toList_append, n1l]
  show ((e ++ "\n").cps.toList.drop 0).take ((e ++ "\n").length - 1 - 0) = _
  rw [hl, ht, Nat.add_sub_cancel, List.drop_zero, Nat.sub_zero, ← len_tl, List.take_left]
theorem two_list : ("  " : Str).cps.toList = [32, 32] := by decide +kernel
theorem cutS_rest (y : Str) : cutS ("  " ++ y) (some 2) none = y := by
  apply K46.toL_inj
  have := cutS_from ("  " ++ y) 2
  refine this.trans ?_
  rw [Str.cps_append, Array.toList_append, two_list]
  rfl
theorem strip_len (y z : Str) : (Txt.stripChars y z).length ≤ y.length := by
  unfold Txt.stripChars Txt.stripBy
  split
  · exact Nat.le_refl _
  · unfold stripped
    rw [← len_tl, StrLaws.strSub_toList, List.length_take, List.length_drop, len_tl]
    omega
/-! ### the help of the law's parsers -/
theorem sq_one {RU RD OP TG : List (List Nat)} {x : Str} (hU : Blk RU) (hD : Blk RD) (hO : Blk OP) (hT : Blk TG) (hx : x.cps.toList = G RU (G RD (10 :: (bt OP ++ ([10, 10, 10] ++ (bt TG ++ [10, 10, 10])))))) (hl : x.length ≤ 4000000) :
    ∃ y, SqTo 1 x y ∧ y.cps.toList = jn nn [bt RU, bt RD, bt OP, bt TG] ++ nn := by
  have hxl : (G RU (G RD (10 :: (bt OP ++ ([10, 10, 10] ++ (bt TG ++ [10, 10, 10])))))).length ≤ 4000000 := by
    rw [← hx, len_tl]
    exact hl
  have eT : mr 2 (G TG []) ≤ 2 := g_le hT mr_2 (by decide)
  have eO : mr 2 (G OP (G TG [])) ≤ 2 := g_le hO eT (by decide)
  refine ⟨mk (G RU (G RD (G OP (G TG [])))), sq_more (ps := [G RU (bt RD), bt OP, bt TG, []]) (l := G RU (G RD (G OP (G TG [])))) ⟨Nat.lt_succ_of_le (g_le hU (e_le hD (by decide)) (by decide)), g_lst (lst_blk hD), Nat.lt_succ_of_le (e_le hO (by decide)), lst_blk hO, Nat.lt_succ_of_le (e_le hT (by decide)), lst_blk hT, (by decide : mr 0 [] < 3)⟩ (by simp) ?_ ?_ ?_ (fun z hz => ?_), ?_⟩
  · rw [hx]
    simp [G, jn]
  · simp [G, jn]
  · simp [G] at hxl ⊢
    omega
  · have : z = mk (G RU (G RD (G OP (G TG [])))) := XTight.toList_inj hz
    subst this
    refine sq_zero ?_
    rw [mk_list]
    exact g_le hU (g_le hD eO (by decide)) (by decide)
  · rw [mk_list]
    simp [G, jn]
theorem split_help {RU RD OP TG : List (List Nat)} {y : Str} (hU : Blk RU) (hD : Blk RD) (hO : Blk OP) (hT : Blk TG) (hy : y.cps.toList = jn nn [bt RU, bt RD, bt OP, bt TG] ++ nn) (h0 : ∃ c l, bt RU = c :: l ∧ c ≠ 10) :
    Txt.split (cutS (Txt.stripChars y "\n" ++ "\n") none (some (-1))) "\n\n" = [mk (bt RU), mk (bt RD), mk (bt OP), mk (bt TG)] := by
  obtain ⟨c, l, e, hc⟩ := h0
  have hj : jn nn [bt RU, bt RD, bt OP, bt TG] = c :: (l ++ nn ++ jn nn [bt RD, bt OP, bt TG]) := by
    show bt RU ++ nn ++ jn nn [bt RD, bt OP, bt TG] = _
    rw [e]
    simp
  have hlst : Lst (jn nn [bt RU, bt RD, bt OP, bt TG]) := by
    show Lst (bt RU ++ nn ++ (bt RD ++ nn ++ (bt OP ++ nn ++ bt TG)))
    exact lst_app (lst_app (lst_app (lst_blk hT)))
  rw [hj] at hy hlst
  have hst := strip_nl (k := 2) hy hc hlst
  rw [hst, cutS_init]
  have hx : (mk (c :: (l ++ nn ++ jn nn [bt RD, bt OP, bt TG]))).cps.toList = jn ("\n\n" : Str).cps.toList [bt RU, bt RD, bt OP, bt TG] := by
    rw [mk_list, n2l, hj]
  have hp : ∀ {b : List (List Nat)}, Blk b → mr 0 (bt b) < 2 := fun h => Nat.lt_succ_of_le (mr_end h 0 1 (by decide) (by decide))
  exact split_pts (m := 2) (ps := [bt RU, bt RD, bt OP, bt TG]) (by decide) n2 (by decide +kernel) ⟨hp hU, lst_blk hU, hp hD, lst_blk hD, hp hO, lst_blk hO, hp hT⟩ hx
end K46

namespace K46
open PySem L2 PyProof PyProof.Rows XRuns XTight XStrip XStrV
/-! ### texts of long words -/
theorem join_nil : ∀ xs : List Str, (Txt.join "" xs).cps.toList = (xs.map (·.cps.toList)).flatten := by
  intro xs
  show (Builtin.Str.glued "" xs).cps.toList = _
  rw [StrLaws.glued_eq_join]
  induction xs with
  | nil => rfl
  | cons x xs ih =>
    cases xs with
    | nil =>
      show x.cps.toList = _
      simp
    | cons y ys =>
      show (x ++ "" ++ Str.join "" (y :: ys)).cps.toList = _
      rw [Str.cps_append, Str.cps_append, Array.toList_append, Array.toList_append, ih]
      show x.cps.toList ++ [] ++ _ = _
      rw [List.append_nil]
      rfl
def J (g : List Str) : Str := Str.join " " g
theorem join_J (g : List Str) : Txt.join " " g = J g := StrLaws.glued_eq_join " " g
theorem words_J {ws : List Str} (h : ∀ w ∈ ws, XWords.blk w.cps.toList) : Txt.words (J ws) = ws := by
  apply XWords.map_inj
  rw [XWords.words_sw]
  induction ws with
  | nil => rfl
  | cons x r ih =>
    have hx := h x List.mem_cons_self
    cases r with
    | nil => exact XWords.sw_end hx
    | cons y r =>
      have e : (J (x :: y :: r)).cps.toList = x.cps.toList ++ ([32] ++ (J (y :: r)).cps.toList) := by
        show (x ++ " " ++ J (y :: r)).cps.toList = _
        rw [Str.cps_append, Str.cps_append, Array.toList_append, Array.toList_append, List.append_assoc]
        rfl
      rw [e, XWords.sw_word hx.2, List.nil_append, XWords.sw_gap (fun c hc => by rw [List.mem_singleton.mp hc]; decide +kernel) (by simp) hx.1, ih fun w hw => h w (List.mem_cons_of_mem _ hw)]
      rfl
structure WX (w : Str) : Prop where
  b : XWords.blk w.cps.toList
  l : 1 ≤ w.length
  l2 : w.length ≤ 50
  n1 : 123 ∉ w.cps.toList
  n2 : 61 ∉ w.cps.toList
  k : PyData.strOk w = true
structure TX (t : Str) (ws : List Str) : Prop where
  e : t = J ws
  n : ws ≠ []
  n8 : ws.length ≤ 8
  w : ∀ w ∈ ws, WX w
theorem TX.words {t : Str} {ws : List Str} (h : TX t ws) : Txt.words t = ws := by
  rw [h.e]
  exact words_J fun w hw => (h.w w hw).b
theorem J_list : ∀ {ws : List Str} {c : Nat}, c ∈ (J ws).cps.toList → c = 32 ∨ ∃ w ∈ ws, c ∈ w.cps.toList
  | [], c, h => by cases h
  | [x], c, h => .inr ⟨x, List.mem_cons_self, h⟩
  | x :: y :: r, c, h => by
    have h' : c ∈ x.cps.toList ++ [32] ++ (J (y :: r)).cps.toList := by
      have : (J (x :: y :: r)).cps.toList = x.cps.toList ++ [32] ++ (J (y :: r)).cps.toList := by
        show (x ++ " " ++ J (y :: r)).cps.toList = _
        rw [Str.cps_append, Str.cps_append, Array.toList_append, Array.toList_append]
        rfl
      rw [← this]
      exact h
    rcases List.mem_append.mp h' with h' | h'
    · rcases List.mem_append.mp h' with h' | h'
      · exact .inr ⟨x, List.mem_cons_self, h'⟩
      · exact .inl (List.mem_singleton.mp h')
    · rcases J_list h' with q | ⟨w, hw, q⟩
      · exact .inl q
      · exact .inr ⟨w, List.mem_cons_of_mem _ hw, q⟩
theorem TX.no {t : Str} {ws : List Str} (h : TX t ws) : NoB t ∧ t ≠ SUP := by
  have no : ∀ c, c ≠ 32 → (∀ w ∈ ws, c ∉ w.cps.toList) → c ∉ t.cps.toList := fun c h1 h2 z => by
    rw [h.e] at z
    rcases J_list z with q | ⟨w, hw, q⟩
    · exact h1 q
    · exact h2 w hw q
  refine ⟨no 123 (by decide) fun w hw => (h.w w hw).n1, fun z => no 61 (by decide) (fun w hw => (h.w w hw).n2) ?_⟩
  rw [z]
  decide +kernel
theorem TX.len {t : Str} {ws : List Str} (h : TX t ws) : t.length ≤ 410 := by
  rw [h.e, ← join_J]
  have := join_len " " ws
  have hs := strs_sum (n := 50) (xs := ws) fun w hw => (h.w w hw).l2
  have h8 := h.n8
  have h1 : (" " : Str).length = 1 := rfl
  rw [h1] at this
  omega
/-! ### the rows -/
def RowS (r : Str) : Prop := Row r.cps.toList
theorem rowS_word {w : Str} (h : WX w) : RowS w := ⟨h.b.1, fun z => absurd (h.b.2 10 z) (by decide +kernel)⟩
theorem rowS_len {r : Str} (h : RowS r) : r ≠ "" := fun z => h.1 (by rw [z]; rfl)
theorem row_cut {w : Str} {z : Nat} (h : RowS w) (hz : 1 ≤ z) : RowS (cutS w none (some (z : Int))) := by
  unfold RowS
  rw [cutS_to]
  refine ⟨fun e => ?_, fun q => h.2 (List.mem_of_mem_take q)⟩
  have := congrArg List.length e
  rw [List.length_take] at this
  have h1 : 0 < w.cps.toList.length := List.length_pos_iff.mpr h.1
  have h0 : ([] : List Nat).length = 0 := rfl
  omega
theorem row_rest {w : Str} {z : Nat} (h : RowS w) (hz : z < w.length) : RowS (cutS w (some (z : Int)) none) := by
  unfold RowS
  rw [cutS_from]
  refine ⟨fun e => ?_, fun q => h.2 (List.mem_of_mem_drop q)⟩
  have := congrArg List.length e
  rw [List.length_drop, len_tl] at this
  have h0 : ([] : List Nat).length = 0 := rfl
  omega
theorem chop_rows {z : Nat} (hz : 1 ≤ z) : ∀ (n : Nat) (w : Str), RowS w → (∀ r ∈ (chop z n w).1, RowS r) ∧ RowS (chop z n w).2
  | 0, w, h => ⟨(fun r q => nomatch q), h⟩
  | n + 1, w, h => by
    unfold chop
    by_cases q : z < w.length
    · rw [if_pos q]
      obtain ⟨a, b⟩ := chop_rows hz n (cutS w (some (z : Int)) none) (row_rest h q)
      refine ⟨fun r hr => ?_, b⟩
      rcases List.mem_cons.mp hr with rfl | hr
      · exact row_cut h hz
      · exact a r hr
    · rw [if_neg q]
      exact ⟨(fun r q => nomatch q), h⟩
theorem rowS_app {a b : Str} (h : RowS a) (hb : 10 ∉ b.cps.toList) : RowS (a ++ b) := by
  unfold RowS
  rw [Str.cps_append, Array.toList_append]
  refine ⟨fun e => h.1 (List.append_eq_nil_iff.mp e).1, fun q => ?_⟩
  rcases List.mem_append.mp q with q | q
  · exact h.2 q
  · exact hb q
def StS (st : List Str × Str) : Prop := (∀ r ∈ st.1, RowS r) ∧ (st.2 = "" ∨ RowS st.2)
theorem sp_no : 10 ∉ (" " : Str).cps.toList := by decide +kernel
theorem lay_rows {z : Nat} (hz : 1 ≤ z) {st : List Str × Str} {w : Str} (h : StS st) (hw : RowS w) : StS (layStep z st w) := by
  obtain ⟨h1, h2⟩ := h
  unfold layStep
  split
  · rename_i hc
    have h2' : RowS st.2 := h2.resolve_left hc.1
    exact ⟨h1, .inr (rowS_app (rowS_app h2' sp_no) hw.2)⟩
  · split
    · rename_i _ hc
      have h2' : RowS st.2 := h2.resolve_left hc.1
      have hro : roomOf z st.2 < w.length := by
        unfold roomOf
        omega
      obtain ⟨a, b⟩ := chop_rows hz w.length _ (row_rest (z := roomOf z st.2) hw hro)
      have hf : RowS (filledL z st.2 w) := by
        unfold filledL
        split
        · refine rowS_app h2' ?_
          rw [Str.cps_append, Array.toList_append, cutS_to]
          intro q
          rcases List.mem_append.mp q with q | q
          · exact sp_no q
          · exact hw.2 (List.mem_of_mem_take q)
        · refine rowS_app h2' (fun q => nomatch q)
      refine ⟨fun r hr => ?_, .inr b⟩
      rw [if_pos (rowS_len hf)] at hr
      rcases List.mem_append.mp hr with hr | hr
      · rcases List.mem_append.mp hr with hr | hr
        · exact h1 r hr
        · rw [List.mem_singleton.mp hr]
          exact hf
      · exact a r hr
    · obtain ⟨a, b⟩ := chop_rows hz w.length _ hw
      refine ⟨fun r hr => ?_, .inr b⟩
      rcases List.mem_append.mp hr with hr | hr
      · split at hr
        · rename_i hne
          rcases List.mem_append.mp hr with hr | hr
          · exact h1 r hr
          · rw [List.mem_singleton.mp hr]
            exact h2.resolve_left hne
        · exact h1 r hr
      · exact a r hr
theorem fold_rows {z : Nat} (hz : 1 ≤ z) : ∀ {ws : List Str} {st : List Str × Str}, StS st → (∀ w ∈ ws, RowS w) → StS (ws.foldl (layStep z) st)
  | [], st, h, _ => h
  | w :: ws, st, h, hw => fold_rows hz (ws := ws) (lay_rows hz h (hw w List.mem_cons_self)) fun x hx => hw x (List.mem_cons_of_mem _ hx)
theorem laid_rows {z : Nat} (hz : 1 ≤ z) {ws : List Str} (hw : ∀ w ∈ ws, RowS w) : ∀ r ∈ laidF z ws, RowS r := by
  obtain ⟨a, b⟩ := fold_rows hz (st := ([], "")) ⟨(fun _ q => nomatch q), .inl rfl⟩ hw
  unfold laidF
  intro r hr
  split at hr
  · rename_i hne
    rcases List.mem_append.mp hr with hr | hr
    · exact a r hr
    · rw [List.mem_singleton.mp hr]
      exact b.resolve_left hne
  · exact a r hr
/-! ### no sign is lost -/
def nbl (l : List Nat) : List Nat := l.filter fun c => !Unicode.isSpace c
def nb (x : Str) : List Nat := nbl x.cps.toList
theorem nbl_app (a b : List Nat) : nbl (a ++ b) = nbl a ++ nbl b := List.filter_append ..
theorem nb_app (a b : Str) : nb (a ++ b) = nb a ++ nb b := by
  unfold nb
  rw [Str.cps_append, Array.toList_append, nbl_app]
theorem nb_cut (w : Str) (z : Nat) : nb (cutS w none (some (z : Int))) ++ nb (cutS w (some (z : Int)) none) = nb w := by
  unfold nb
  rw [cutS_to, cutS_from, ← nbl_app, List.take_append_drop]
theorem nb_sp : nb " " = [] := by decide +kernel
theorem nb_e : nb "" = [] := rfl
def nbs (rs : List Str) : List Nat := (rs.map nb).flatten
theorem nbs_app (a b : List Str) : nbs (a ++ b) = nbs a ++ nbs b := by
  unfold nbs
  rw [List.map_append, List.flatten_append]
theorem nbs_one (x : Str) : nbs [x] = nb x := by
  unfold nbs
  simp
theorem nb_chop {z : Nat} : ∀ (n : Nat) (w : Str), nbs (chop z n w).1 ++ nb (chop z n w).2 = nb w
  | 0, w => rfl
  | n + 1, w => by
    unfold chop
    by_cases q : z < w.length
    · rw [if_pos q]
      have ih := nb_chop (z := z) n (cutS w (some (z : Int)) none)
      show (nb _ ++ nbs _) ++ nb _ = _
      rw [List.append_assoc, ih, nb_cut]
    · rw [if_neg q]
      rfl
theorem nb_lay {z : Nat} (st : List Str × Str) (w : Str) : nbs (layStep z st w).1 ++ nb (layStep z st w).2 = nbs st.1 ++ nb st.2 ++ nb w := by
  unfold layStep
  split
  · show nbs st.1 ++ nb (st.2 ++ " " ++ w) = _
    rw [nb_app, nb_app, nb_sp, List.append_nil, List.append_assoc]
  · split
    · rename_i _ hc
      have hf : nb (filledL z st.2 w) ++ nb (cutS w (some ((roomOf z st.2 : Nat) : Int)) none) = nb st.2 ++ nb w := by
        unfold filledL
        rw [nb_app]
        split
        · rw [nb_app, nb_sp, List.nil_append, List.append_assoc, nb_cut]
        · rename_i hr
          have : roomOf z st.2 = 0 := by omega
          rw [this, nb_e, List.append_nil]
          congr 1
          unfold nb
          rw [cutS_from]
          rfl
      have hc2 := nb_chop (z := z) w.length (cutS w (some ((roomOf z st.2 : Nat) : Int)) none)
      show nbs (_ ++ (chop z w.length _).1) ++ nb (chop z w.length _).2 = _
      rw [nbs_app, List.append_assoc, hc2]
      split
      · rw [nbs_app, nbs_one, List.append_assoc, hf, List.append_assoc]
      · rename_i hne
        have : filledL z st.2 w = "" := Classical.not_not.mp hne
        rw [this, nb_e, List.nil_append] at hf
        rw [hf, List.append_assoc]
    · have hc2 := nb_chop (z := z) w.length w
      show nbs (_ ++ (chop z w.length w).1) ++ nb (chop z w.length w).2 = _
      rw [nbs_app, List.append_assoc, hc2]
      split
      · rw [nbs_app, nbs_one]
      · rename_i hne
        have : st.2 = "" := Classical.not_not.mp hne
        rw [this, nb_e, List.append_nil]
theorem nb_fold {z : Nat} : ∀ (ws : List Str) (st : List Str × Str), nbs (ws.foldl (layStep z) st).1 ++ nb (ws.foldl (layStep z) st).2 = nbs st.1 ++ nb st.2 ++ nbs ws
  | [], st => by
    show _ = _ ++ []
    rw [List.append_nil]
    rfl
  | w :: ws, st => by
    rw [List.foldl_cons, nb_fold ws, nb_lay, List.append_assoc]
    rfl
theorem nb_laid (z : Nat) (ws : List Str) : nbs (laidF z ws) = nbs ws := by
  have h := nb_fold (z := z) ws ([], "")
  have e : nbs ([] : List Str) ++ nb "" = [] := rfl
  rw [e, List.nil_append] at h
  unfold laidF
  split
  · rw [nbs_app, nbs_one]
    exact h
  · rename_i hne
    have : (ws.foldl (layStep z) ([], "")).2 = "" := Classical.not_not.mp hne
    rw [this, nb_e, List.append_nil] at h
    exact h
theorem sw_nbl : ∀ (l cur : List Nat), (XWords.sw cur l).flatten = cur ++ nbl l
  | [], cur => by
    unfold XWords.sw
    split
    · rename_i h
      rw [h]
      rfl
    · show cur ++ [] = cur ++ []
      rfl
  | c :: l, cur => by
    unfold XWords.sw
    by_cases hs : Unicode.isSpace c = true
    · have hn : nbl (c :: l) = nbl l := by
        unfold nbl
        rw [List.filter_cons_of_neg (by simp [hs])]
      rw [if_pos hs, hn]
      split
      · rename_i h
        rw [sw_nbl l [], h]
      · rw [List.flatten_cons, sw_nbl l []]
        rfl
    · have hn : nbl (c :: l) = c :: nbl l := by
        unfold nbl
        rw [List.filter_cons_of_pos (by simp [hs])]
      rw [if_neg hs, hn, sw_nbl l (cur ++ [c]), List.append_assoc]
      rfl
theorem words_nb (x : Str) : (Txt.join "" (Txt.words x)).cps.toList = nb x := by
  rw [join_nil, XWords.words_sw, sw_nbl, List.nil_append]
  rfl
theorem nb_bt : ∀ (rows : List Str), nb (Str.join "\n" rows) = nbs rows
  | [] => rfl
  | [r] => by rw [nbs_one]; rfl
  | r :: s :: t => by
    show nb (r ++ "\n" ++ Str.join "\n" (s :: t)) = _
    have hn : nb "\n" = [] := by decide +kernel
    rw [nb_app, nb_app, hn, List.append_nil, nb_bt (s :: t)]
    rfl
theorem tight_c {c : Nat} : ∀ {ps : List (List Nat)}, ps ≠ [] → (∀ p ∈ ps, c ∉ p) → Tight [c] ps
  | [], h, _ => absurd rfl h
  | [p], _, h => by
    intro k _ e
    have : c ∈ p := List.mem_of_mem_drop (List.mem_of_mem_take (by rw [e]; exact List.mem_cons_self))
    exact h p List.mem_cons_self this
  | p :: q :: r, _, h => by
    refine ⟨fun k hk e => ?_, tight_c (fun z => nomatch z) fun x hx => h x (List.mem_cons_of_mem _ hx)⟩
    have e' : ((p ++ [c] ++ jn [c] (q :: r)).drop k).take 1 = [c] := e
    rw [List.append_assoc, List.drop_append_of_le_length (by omega), List.take_append_of_le_length (by rw [List.length_drop]; omega)] at e'
    have : c ∈ p := List.mem_of_mem_drop (List.mem_of_mem_take (by rw [e']; exact List.mem_cons_self))
    exact h p List.mem_cons_self this
theorem TX.bare {t : Str} {ws : List Str} (h : TX t ws) : (Txt.replace t " " "").cps.toList = nbs ws := by
  have ht : Tight (" " : Str).cps.toList (ws.map (·.cps.toList)) := by
    have e : (" " : Str).cps.toList = [32] := by decide +kernel
    rw [e]
    refine tight_c (fun z => h.n (List.map_eq_nil_iff.mp z)) fun p hp q => ?_
    obtain ⟨w, hw, rfl⟩ := List.mem_map.mp hp
    exact absurd ((h.w w hw).b.2 32 q) (by decide +kernel)
  have := XTight.replace_of (y := " ") (z := "") (parts := ws) (by decide +kernel) ht
  have e : t = Str.join " " ws := h.e
  rw [e, this]
  have hj : Str.join "" ws = Txt.join "" ws := (StrLaws.glued_eq_join "" ws).symm
  rw [hj, join_nil]
  unfold nbs
  congr 1
  apply List.map_congr_left
  intro w hw
  unfold nb nbl
  rw [List.filter_eq_self.mpr]
  intro c hc
  rw [(h.w w hw).b.2 c hc]
  rfl
/-- what is cut is found again -/
theorem same_signs {t : Str} {ws : List Str} (h : TX t ws) (z : Nat) : Txt.join "" (Txt.words (Str.join "\n" (laidF z ws))) = Txt.replace t " " "" := by
  apply K46.toL_inj
  rw [words_nb, nb_bt, nb_laid, h.bare]
end K46

namespace K46
open PySem L2 PyProof PyProof.Rows XRuns XTight XStrip XStrV
/-! ### the parts of the law's help -/
def colW (wd : Nat) : Nat := colOf 4 wd
theorem colW_is (wd : Nat) : (colW wd : Int) = min 6 (max ((wd : Int) - 20) 4) ∧ 4 ≤ colW wd ∧ colW wd ≤ 6 := by
  unfold colW colOf
  omega
def lawRows (ls : List Str) (col : Nat) : List Str := if col = 6 then ("  -a  " ++ ls.headD "") :: ls.tail.map fun l => sps col ++ l else ls.map fun l => sps col ++ l
def opRows (h : Str) (wd : Nat) : List Str := ("options:" : Str) :: ((if colW wd < 6 then [("  -a" : Str)] else []) ++ lawRows (rowL h (colW wd) wd) (colW wd))
theorem row_op (h : Str) (wd : Nat) : rowF ("  " ++ "-a") h (colW wd) wd = Str.join "\n" ((opRows h wd).tail) ++ "\n" := by
  have hc := colW_is wd
  have hl : ("  " ++ "-a" : Str).length = 4 := by decide +kernel
  have hp : ("  " ++ "-a" : Str) = "  -a" := by decide +kernel
  have hs : ("  -a" : Str) ++ sps 2 = "  -a  " := by decide +kernel
  unfold rowF opRows lawRows
  rw [hl, List.tail_cons]
  by_cases h6 : colW wd = 6
  · rw [if_pos (by omega), if_neg (by omega : ¬ colW wd < 6), if_pos h6, List.nil_append, h6, hp]
    show Txt.join "\n" (("  -a" ++ sps 2 ++ _) :: _) ++ "\n" = _
    rw [hs]
    congr 1
    exact StrLaws.glued_eq_join "\n" _
  · rw [if_neg (by omega), if_pos (by omega : colW wd < 6), if_neg h6, hp]
    congr 1
    exact StrLaws.glued_eq_join "\n" _
def uRows (wd : Nat) : List Str := if 13 ≤ wd then ["usage: p [-a]"] else ulF ("usage: " ++ "p") [br "-a"] [] wd
def uCheck (wd : Nat) : Bool := decide (usF "p" [("-a", "")] wd = Str.join "\n" (uRows wd)) && !(uRows wd).isEmpty && (uRows wd).all (fun r => !r.cps.toList.isEmpty && !r.cps.toList.contains 10) && decide ((Str.join "\n" (uRows wd)).cps.toList.head? = some 117) && decide ((Str.join "\n" (uRows wd)).length ≤ 100)
theorem u_all : ∀ wd, wd < 41 → uCheck wd = true := by decide +kernel
theorem u_ok {wd : Nat} (h : wd ≤ 40) (t : Str) : (usF "p" [("-a", t)] wd).cps.toList = bt ((uRows wd).map (·.cps.toList)) ∧ Blk ((uRows wd).map (·.cps.toList)) ∧ (∃ l, bt ((uRows wd).map (·.cps.toList)) = 117 :: l) ∧ (usF "p" [("-a", t)] wd).length ≤ 100 := by
  have := u_all wd (by omega)
  unfold uCheck at this
  simp only [Bool.and_eq_true, decide_eq_true_eq, List.all_eq_true, Bool.not_eq_true'] at this
  obtain ⟨⟨⟨⟨a, b⟩, c⟩, d⟩, e⟩ := this
  have hu : usF "p" [("-a", t)] wd = Str.join "\n" (uRows wd) := a
  rw [hu]
  refine ⟨join_bt _, ⟨fun z => ?_, fun r hr => ?_⟩, ?_, e⟩
  · rw [List.map_eq_nil_iff.mp z] at b
    cases b
  · obtain ⟨x, hx, rfl⟩ := List.mem_map.mp hr
    obtain ⟨c1, c2⟩ := c x hx
    refine ⟨fun z => ?_, fun z => ?_⟩
    · rw [z] at c1
      cases c1
    · rw [List.contains_iff_mem.mpr z] at c2
      cases c2
  · rw [join_bt] at d
    cases q : bt ((uRows wd).map (·.cps.toList)) with
    | nil =>
      rw [q] at d
      cases d
    | cons x l =>
      rw [q] at d
      exact ⟨l, by rw [Option.some.inj d]⟩
theorem blk_of {rows : List Str} (h0 : rows ≠ []) (h : ∀ r ∈ rows, RowS r) : Blk (rows.map (·.cps.toList)) := ⟨fun e => h0 (List.map_eq_nil_iff.mp e), fun r hr => by
  obtain ⟨x, hx, rfl⟩ := List.mem_map.mp hr
  exact h x hx⟩
theorem sps_row {n : Nat} {l : Str} (hn : n ≤ 200) (h : RowS l) : RowS (sps n ++ l) := by
  unfold RowS
  rw [Str.cps_append, Array.toList_append]
  have hs : (sps n).cps.toList = List.replicate n 32 := (sps_ok n (by omega)).2
  rw [hs]
  refine ⟨fun e => h.1 (List.append_eq_nil_iff.mp e).2, fun q => ?_⟩
  rcases List.mem_append.mp q with q | q
  · exact absurd (List.eq_of_mem_replicate q) (by decide)
  · exact h.2 q
def rowsD (D : Str) (wd : Nat) : List Str := laidF (sizeOf wd 0) (Txt.words D)
def rowsT (x : Str) (wd : Nat) : List Str := ("t:" : Str) :: (laidF (sizeOf wd 2) (Txt.words x)).map fun l => ("  " : Str) ++ l
theorem sizes_ok {wd : Nat} : 9 ≤ sizeOf (wd : Int) 0 ∧ 9 ≤ sizeOf (wd : Int) 2 := by
  unfold sizeOf
  constructor <;> split <;> omega
theorem rowsD_ok {D : Str} {ws : List Str} {wd : Nat} (h : TX D ws) : rowsD D wd ≠ [] ∧ ∀ r ∈ rowsD D wd, RowS r := by
  have hz := sizes_ok (wd := wd)
  unfold rowsD
  rw [h.words]
  exact ⟨laid_ne h.n fun w hw => (h.w w hw).l, laid_rows (by omega) fun w hw => rowS_word (h.w w hw)⟩
theorem rowsT_ok {x : Str} {ws : List Str} {wd : Nat} (h : TX x ws) : (∀ r ∈ rowsT x wd, RowS r) ∧ laidF (sizeOf wd 2) (Txt.words x) ≠ [] := by
  have hz := sizes_ok (wd := wd)
  unfold rowsT
  rw [h.words]
  refine ⟨fun r hr => ?_, laid_ne h.n fun w hw => (h.w w hw).l⟩
  rcases List.mem_cons.mp hr with rfl | hr
  · exact ⟨by decide +kernel, by decide +kernel⟩
  · obtain ⟨l, hl, rfl⟩ := List.mem_map.mp hr
    have hl' := laid_rows (z := sizeOf wd 2) (by omega) (fun w hw => rowS_word (h.w w hw)) l hl
    have := sps_row (n := 2) (by decide) hl'
    have e : sps 2 = "  " := by decide +kernel
    rw [e] at this
    exact this
theorem rowL_ok {h : Str} {ws : List Str} {wd : Nat} (t : TX h ws) : rowL h (colW wd) wd ≠ [] ∧ ∀ r ∈ rowL h (colW wd) wd, RowS r := by
  have hz : 1 ≤ rsz wd (colW wd) := by
    unfold rsz
    omega
  unfold rowL
  rw [t.words]
  exact ⟨laid_ne t.n fun w hw => (t.w w hw).l, laid_rows hz fun w hw => rowS_word (t.w w hw)⟩
theorem opRows_ok {h : Str} {ws : List Str} {wd : Nat} (t : TX h ws) : ∀ r ∈ opRows h wd, RowS r := by
  obtain ⟨h1, h2⟩ := rowL_ok (wd := wd) t
  have hc := colW_is wd
  have hA : RowS "  -a" := ⟨by decide +kernel, by decide +kernel⟩
  intro r hr
  rcases List.mem_cons.mp hr with rfl | hr
  · exact ⟨by decide +kernel, by decide +kernel⟩
  · rcases List.mem_append.mp hr with hr | hr
    · split at hr
      · rw [List.mem_singleton.mp hr]
        exact hA
      · exact nomatch hr
    · unfold lawRows at hr
      split at hr
      · rcases List.mem_cons.mp hr with rfl | hr
        · have hB : RowS "  -a  " := ⟨by decide +kernel, by decide +kernel⟩
          refine rowS_app hB ?_
          cases q : rowL h (colW wd) wd with
          | nil => exact absurd q h1
          | cons a b =>
            show 10 ∉ a.cps.toList
            exact (h2 a (by rw [q]; exact List.mem_cons_self)).2
        · obtain ⟨l, hl, rfl⟩ := List.mem_map.mp hr
          exact sps_row (by omega) (h2 l (List.mem_of_mem_tail hl))
      · obtain ⟨l, hl, rfl⟩ := List.mem_map.mp hr
        exact sps_row (by omega) (h2 l hl)
theorem desc_list {t pr : Str} (hb : NoB t) (wd : Int) (ind : Int) : (descF t pr wd ind).cps.toList = bt (((laidF (sizeOf wd ind) (Txt.words t)).map fun l => spcs ind ++ l).map (·.cps.toList)) ++ nn := by
  unfold descF rowsF
  rw [fill_nob hb, Str.cps_append, Array.toList_append, n2l]
  congr 1
  exact ((congrArg (fun s : Str => s.cps.toList) (StrLaws.glued_eq_join "\n" _)).trans (join_bt _))
theorem e_list : ("" : Str).cps.toList = [] := rfl
def osL (h x ti : Str) : List Sct := [(none, ti, []), (none, "options", [("-a", h)]), (some x, "t", [])]
theorem help_list {D h x ti : Str} {wsD wsH wsX : List Str} {wd : Nat} (tD : TX D wsD) (tH : TX h wsH) (tX : TX x wsX) (hw : wd ≤ 40) :
    (helpF "p" [("-a", h)] wd (some D) (osL h x ti) none (colW wd)).cps.toList = G ((uRows wd).map (·.cps.toList)) (G ((rowsD D wd).map (·.cps.toList)) (10 :: (bt ((opRows h wd).map (·.cps.toList)) ++ ([10, 10, 10] ++ (bt ((rowsT x wd).map (·.cps.toList)) ++ [10, 10, 10]))))) := by
  have e1 : helpF "p" [("-a", h)] wd (some D) (osL h x ti) none (colW wd) = usF "p" [("-a", h)] wd ++ "\n\n" ++ descF D "p" wd 0 ++ secT "options" none [("-a", h)] (colW wd) "p" wd ++ secT "t" (some x) [] (colW wd) "p" wd := rfl
  have e2 : secT "options" none [("-a", h)] (colW wd) "p" wd = "\n" ++ "options" ++ ":\n" ++ Txt.join "" [rowF ("  " ++ "-a") h (colW wd) wd] ++ "\n" := rfl
  have e3 : secT "t" (some x) [] (colW wd) "p" wd = "\n" ++ "t" ++ ":\n" ++ descF x "p" wd 2 ++ Txt.join "" [] ++ "\n" := rfl
  have j1 : Txt.join "" [rowF ("  " ++ "-a") h (colW wd) wd] = rowF ("  " ++ "-a") h (colW wd) wd := StrLaws.glued_eq_join "" _
  have j0 : Txt.join "" ([] : List Str) = "" := rfl
  have o1 : ("\n" : Str).cps.toList ++ ("options" : Str).cps.toList ++ (":\n" : Str).cps.toList = 10 :: (("options:" : Str).cps.toList ++ [10]) := by decide +kernel
  have o2 : ("\n" : Str).cps.toList ++ ("t" : Str).cps.toList ++ (":\n" : Str).cps.toList = 10 :: (("t:" : Str).cps.toList ++ [10]) := by decide +kernel
  have d0 : ((laidF (sizeOf wd 0) (Txt.words D)).map fun l => spcs 0 ++ l) = rowsD D wd := by
    unfold rowsD
    conv => rhs; rw [← List.map_id (laidF (sizeOf wd 0) (Txt.words D))]
    apply List.map_congr_left
    intro l _
    rw [spcs_0, nil_str]
    rfl
  have hop : bt ((opRows h wd).map (·.cps.toList)) = ("options:" : Str).cps.toList ++ [10] ++ bt ((opRows h wd).tail.map (·.cps.toList)) := by
    have : (opRows h wd).tail ≠ [] := by
      obtain ⟨q1, q2⟩ := rowL_ok (wd := wd) tH
      unfold opRows lawRows
      rw [List.tail_cons]
      intro z
      have z2 := (List.append_eq_nil_iff.mp z).2
      split at z2
      · cases z2
      · exact q1 (List.map_eq_nil_iff.mp z2)
    exact bt_cons (r := ("options:" : Str).cps.toList) (fun z => this (List.map_eq_nil_iff.mp z))
  have htg : bt ((rowsT x wd).map (·.cps.toList)) = ("t:" : Str).cps.toList ++ [10] ++ bt ((rowsT x wd).tail.map (·.cps.toList)) := by
    refine bt_cons (r := ("t:" : Str).cps.toList) (fun z => ?_)
    exact (rowsT_ok (wd := wd) tX).2 (List.map_eq_nil_iff.mp (List.map_eq_nil_iff.mp z))
  have hx2 : ((laidF (sizeOf wd 2) (Txt.words x)).map fun l => spcs 2 ++ l) = (rowsT x wd).tail := by
    rw [spcs_2]
    rfl
  rw [e1, e2, e3, j1, j0, row_op]
  unfold G
  rw [hop, htg]
  simp only [Str.cps_append, Array.toList_append]
  rw [(u_ok hw h).1, desc_list tD.no.1, desc_list tX.no.1, d0, hx2, join_bt, n2l, o1, o2, e_list, n1l]
  simp
theorem laid_lens {z : Nat} (hz : 1 ≤ z) {t : Str} (ht : t.length ≤ 410) : (laidF z (Txt.words t)).length ≤ 412 ∧ ∀ r ∈ laidF z (Txt.words t), r.length ≤ 411 := by
  have h1 := laid_count hz (Txt.words t)
  have h2 := laid_sum z (Txt.words t)
  have h4 : wsm (Txt.words t) ≤ t.length + 1 := StrLaws.words_weight t
  exact ⟨by omega, fun r hr => by have := sum_mem hr; omega⟩
theorem help_parts {D h x ti : Str} {wsD wsH wsX : List Str} {wd : Nat} (tD : TX D wsD) (tH : TX h wsH) (tX : TX x wsX) (hw : wd ≤ 40) (hl : (helpF "p" [("-a", h)] wd (some D) (osL h x ti) none (colW wd)).length ≤ 4000000) :
    ∃ y, SqTo 1 (helpF "p" [("-a", h)] wd (some D) (osL h x ti) none (colW wd)) y ∧ Txt.split (cutS (Txt.stripChars y "\n" ++ "\n") none (some (-1))) "\n\n" = [Str.join "\n" (uRows wd), Str.join "\n" (rowsD D wd), Str.join "\n" (opRows h wd), Str.join "\n" (rowsT x wd)] := by
  obtain ⟨a1, a2, a3, _⟩ := u_ok hw h
  have bD := blk_of (rowsD_ok (wd := wd) tD).1 (rowsD_ok tD).2
  have bO := blk_of (rows := opRows h wd) (fun z => nomatch z) (opRows_ok tH)
  have bT := blk_of (rows := rowsT x wd) (fun z => nomatch z) (rowsT_ok tX).1
  obtain ⟨y, h1, h2⟩ := sq_one a2 bD bO bT (help_list tD tH tX hw) hl
  refine ⟨y, h1, ?_⟩
  obtain ⟨l, hl'⟩ := a3
  rw [split_help a2 bD bO bT h2 ⟨117, l, hl', by decide⟩]
  have e : ∀ rows : List Str, mk (bt (rows.map (·.cps.toList))) = Str.join "\n" rows := fun rows => by
    apply K46.toL_inj
    rw [mk_list, join_bt]
  rw [e, e, e, e]
end K46

namespace K46
open PySem L2 PyProof PyProof.Rows XRuns XTight XStrip XStrV
/-! ### the law's own laying out -/
def rw_ (st : List Str × Str) : List Str := if st.2 ≠ "" then st.1 ++ [st.2] else st.1
theorem laid_rw (z : Nat) (ws : List Str) : laidF z ws = rw_ (ws.foldl (layStep z) ([], "")) := rfl
theorem cutS_ab (w : Str) (a b : Nat) (hab : a ≤ b) : (cutS w (some (a : Int)) (some (b : Int))).cps.toList = (w.cps.toList.drop a).take (b - a) := by
  unfold cutS
  have q1 : HT.sIx w.length 0 (some (a : Int)) = min a w.length := HT.sIx_nat w.length 0 a
  have q2 : HT.sIx w.length w.length (some (b : Int)) = min b w.length := HT.sIx_nat w.length w.length b
  rw [q1, q2]
  show (w.cps.toList.drop (min a w.length)).take (min b w.length - min a w.length) = _
  have hl := len_tl w
  by_cases h : a ≤ w.length
  · rw [Nat.min_eq_left h]
    by_cases h2 : b ≤ w.length
    · rw [Nat.min_eq_left h2]
    · rw [Nat.min_eq_right (by omega), List.take_of_length_le (by rw [List.length_drop]; omega), List.take_of_length_le (by rw [List.length_drop]; omega)]
  · rw [List.drop_eq_nil_of_le (by omega), List.drop_eq_nil_of_le (by omega), List.take_nil, List.take_nil]
def cnt (z n : Nat) : Nat := (n + z - 1) / z
theorem cnt_one {z n : Nat} (h1 : 1 ≤ n) (h2 : n ≤ z) : cnt z n = 1 := by
  unfold cnt
  have : n + z - 1 = (n - 1) + z := by omega
  rw [this, Nat.add_div_right _ (by omega), Nat.div_eq_of_lt (by omega)]
theorem cnt_more {z n : Nat} (hz : 1 ≤ z) (h : z < n) : cnt z n = cnt z (n - z) + 1 := by
  unfold cnt
  have : n + z - 1 = (n - z + z - 1) + z := by omega
  rw [this, Nat.add_div_right _ (by omega)]
theorem cnt_le {z n : Nat} (hz : 1 ≤ z) (hn : 1 ≤ n) : cnt z n ≤ n := by
  unfold cnt
  rw [Nat.div_le_iff_le_mul (by omega)]
  have : n + z ≤ n * z + 1 := by
    obtain ⟨m, rfl⟩ : ∃ m, n = m + 1 := ⟨n - 1, by omega⟩
    obtain ⟨k, rfl⟩ : ∃ k, z = k + 1 := ⟨z - 1, by omega⟩
    have e : (m + 1) * (k + 1) = m * k + m + k + 1 := by
      rw [Nat.add_mul, Nat.mul_add]
      omega
    rw [e]
    have := Nat.zero_le (m * k)
    omega
  omega
def pcs (z : Nat) (w : Str) : List Str := (List.range (cnt z w.length)).map fun i => cutS w (some ((i * z : Nat) : Int)) (some ((i * z + z : Nat) : Int))
theorem pcs_chop {z : Nat} (hz : 1 ≤ z) : ∀ (n : Nat) (w : Str), w.length ≤ n → 1 ≤ w.length → pcs z w = (chop z n w).1 ++ [(chop z n w).2]
  | 0, w, h1, h2 => by omega
  | n + 1, w, h1, h2 => by
    unfold chop
    by_cases hlt : z < w.length
    · rw [if_pos hlt]
      have hl := cutS_from_len w z
      have ih := pcs_chop hz n (cutS w (some (z : Int)) none) (by omega) (by omega)
      show pcs z w = cutS w none (some (z : Int)) :: ((chop z n (cutS w (some (z : Int)) none)).1 ++ [(chop z n (cutS w (some (z : Int)) none)).2])
      rw [← ih]
      unfold pcs
      rw [cnt_more hz hlt, hl, List.range_succ_eq_map, List.map_cons, List.map_map]
      congr 1
      · apply K46.toL_inj
        rw [cutS_ab _ _ _ (by omega), cutS_to]
        simp
      · apply List.map_congr_left
        intro i _
        show cutS w (some (((i + 1) * z : Nat) : Int)) (some (((i + 1) * z + z : Nat) : Int)) = _
        apply K46.toL_inj
        rw [cutS_ab _ _ _ (by omega), cutS_ab _ _ _ (by omega), cutS_from, List.drop_drop]
        have e1 : z + i * z = (i + 1) * z := by rw [Nat.add_mul]; omega
        rw [e1]
        have e2 : (i + 1) * z + z - (i + 1) * z = i * z + z - i * z := by omega
        rw [e2]
    · rw [if_neg hlt]
      show pcs z w = [w]
      unfold pcs
      rw [cnt_one h2 (by omega)]
      show [cutS w (some ((0 * z : Nat) : Int)) (some ((0 * z + z : Nat) : Int))] = [w]
      congr 1
      apply K46.toL_inj
      rw [cutS_ab _ _ _ (by omega), Nat.zero_mul, List.drop_zero, List.take_of_length_le (by rw [len_tl]; omega)]
theorem step_nil {z : Nat} (hz : 1 ≤ z) {w : Str} (hw : 1 ≤ w.length) : rw_ (layStep z ([], "") w) = pcs z w := by
  have hne := lay_ne (z := z) (st := ([], "")) hw
  have h1 : layStep z ([], "") w = ((chop z w.length w).1, (chop z w.length w).2) := by
    unfold layStep
    rw [if_neg (fun q => q.1 rfl), if_neg (fun q => q.1 rfl), if_neg (fun q => q rfl)]
    rfl
  rw [h1] at hne ⊢
  unfold rw_
  rw [if_pos hne, pcs_chop hz w.length w (Nat.le_refl _) hw]
theorem step_on {z : Nat} {fo : List Str} {ln w : Str} (hl : ln ≠ "") (hc : ln.length + 1 + w.length ≤ z) : rw_ (layStep z (fo, ln) w) = fo ++ [ln ++ " " ++ w] := by
  have h1 : layStep z (fo, ln) w = (fo, ln ++ " " ++ w) := by
    unfold layStep
    rw [if_pos ⟨hl, hc⟩]
  rw [h1]
  unfold rw_
  rw [if_pos (by rw [ne_len]; show 1 ≤ (ln ++ " " ++ w).length; rw [Str.length_append, Str.length_append]; have : (" " : Str).length = 1 := rfl; omega)]
theorem step_cut {z : Nat} (hz : 1 ≤ z) {fo : List Str} {ln w : Str} {room : Nat} (hl : ln ≠ "") (hr : (room : Int) = (z : Int) - ln.length - 1) (h0 : 0 < room) (hw : z < w.length) :
    rw_ (layStep z (fo, ln) w) = fo ++ [ln ++ " " ++ cutS w none (some (room : Int))] ++ pcs z (cutS w (some (room : Int)) none) := by
  have hro : roomOf z ln = room := by
    unfold roomOf
    omega
  have hlen := cutS_from_len w room
  have hf : filledL z ln w = ln ++ " " ++ cutS w none (some (room : Int)) := by
    unfold filledL
    rw [hro, if_pos h0]
    apply K46.toL_inj
    simp only [Str.cps_append, Array.toList_append, List.append_assoc]
  have hfn : filledL z ln w ≠ "" := by
    rw [hf, ne_len, Str.length_append, Str.length_append]
    have : (" " : Str).length = 1 := rfl
    omega
  have h1 : layStep z (fo, ln) w = (fo ++ [filledL z ln w] ++ (chop z w.length (cutS w (some (room : Int)) none)).1, (chop z w.length (cutS w (some (room : Int)) none)).2) := by
    unfold layStep
    rw [if_neg (fun q => by have := q.2; have q2 : ln.length + 1 + w.length ≤ z := this; omega), if_pos ⟨hl, hw⟩, if_pos hfn]
    show (fo ++ [filledL z ln w] ++ (chop z w.length (cutS w (some ((roomOf z ln : Nat) : Int)) none)).1, (chop z w.length (cutS w (some ((roomOf z ln : Nat) : Int)) none)).2) = _
    rw [hro]
  have hne := lay_ne (z := z) (st := (fo, ln)) (w := w) (by omega)
  rw [h1] at hne ⊢
  unfold rw_
  rw [if_pos hne, hf, pcs_chop hz w.length _ (by omega) (by omega), List.append_assoc]
theorem step_new {z : Nat} (hz : 1 ≤ z) {fo : List Str} {ln w : Str} (hl : ln ≠ "") (hw : 1 ≤ w.length) (h1 : ¬ (w.length : Int) ≤ (z : Int) - ln.length - 1) (h2 : ¬ (z < w.length ∧ 0 < (z : Int) - ln.length - 1)) :
    rw_ (layStep z (fo, ln) w) = fo ++ [ln] ++ pcs z w := by
  have e : layStep z (fo, ln) w = (fo ++ [ln] ++ (chop z w.length w).1, (chop z w.length w).2) := by
    unfold layStep
    rw [if_neg (fun q => by have q2 : ln.length + 1 + w.length ≤ z := q.2; omega)]
    by_cases hlt : z < w.length
    · have hro : roomOf z ln = 0 := by
        unfold roomOf
        omega
      have hf : filledL z ln w = ln := by
        unfold filledL
        rw [hro, if_neg (by omega)]
        apply K46.toL_inj
        rw [Str.cps_append, Array.toList_append]
        show _ ++ [] = _
        rw [List.append_nil]
      rw [if_pos ⟨hl, hlt⟩]
      show ((if filledL z ln w ≠ "" then fo ++ [filledL z ln w] else fo) ++ (chop z w.length (cutS w (some ((roomOf z ln : Nat) : Int)) none)).1, (chop z w.length (cutS w (some ((roomOf z ln : Nat) : Int)) none)).2) = _
      rw [hf, if_pos hl, hro, cutS_all]
    · rw [if_neg (fun q => hlt q.2), if_pos hl]
  have hne := lay_ne (z := z) (st := (fo, ln)) (w := w) hw
  rw [e] at hne ⊢
  unfold rw_
  rw [if_pos hne, pcs_chop hz w.length w (Nat.le_refl _) hw, List.append_assoc]
/-! ### the signs that a row can have -/
def ChS (p : Nat → Prop) (x : Str) : Prop := ∀ c ∈ x.cps.toList, p c
theorem chS_app {p : Nat → Prop} {a b : Str} (h : ChS p a) (hb : ChS p b) : ChS p (a ++ b) := fun c hc => by
  rw [Str.cps_append, Array.toList_append] at hc
  rcases List.mem_append.mp hc with hc | hc
  · exact h c hc
  · exact hb c hc
theorem chS_to {p : Nat → Prop} {a : Str} (z : Nat) (h : ChS p a) : ChS p (cutS a none (some (z : Int))) := fun c hc => by
  rw [cutS_to] at hc
  exact h c (List.mem_of_mem_take hc)
theorem chS_from {p : Nat → Prop} {a : Str} (z : Nat) (h : ChS p a) : ChS p (cutS a (some (z : Int)) none) := fun c hc => by
  rw [cutS_from] at hc
  exact h c (List.mem_of_mem_drop hc)
theorem chop_chS {p : Nat → Prop} {z : Nat} : ∀ (n : Nat) (w : Str), ChS p w → (∀ r ∈ (chop z n w).1, ChS p r) ∧ ChS p (chop z n w).2
  | 0, w, h => ⟨(fun r q => nomatch q), h⟩
  | n + 1, w, h => by
    unfold chop
    by_cases q : z < w.length
    · rw [if_pos q]
      obtain ⟨a, b⟩ := chop_chS n (cutS w (some (z : Int)) none) (chS_from z h)
      refine ⟨fun r hr => ?_, b⟩
      rcases List.mem_cons.mp hr with rfl | hr
      · exact chS_to z h
      · exact a r hr
    · rw [if_neg q]
      exact ⟨(fun r q => nomatch q), h⟩
theorem lay_chS {p : Nat → Prop} {z : Nat} (hs : ChS p " ") {st : List Str × Str} {w : Str} (h : (∀ r ∈ st.1, ChS p r) ∧ ChS p st.2) (hw : ChS p w) : (∀ r ∈ (layStep z st w).1, ChS p r) ∧ ChS p (layStep z st w).2 := by
  obtain ⟨h1, h2⟩ := h
  unfold layStep
  split
  · exact ⟨h1, chS_app (chS_app h2 hs) hw⟩
  · split
    · obtain ⟨a, b⟩ := chop_chS (z := z) w.length _ (chS_from (roomOf z st.2) hw)
      have hf : ChS p (filledL z st.2 w) := by
        unfold filledL
        split
        · exact chS_app h2 (chS_app hs (chS_to _ hw))
        · exact chS_app h2 (fun c q => nomatch q)
      refine ⟨fun r hr => ?_, b⟩
      rcases List.mem_append.mp hr with hr | hr
      · split at hr
        · rcases List.mem_append.mp hr with hr | hr
          · exact h1 r hr
          · rw [List.mem_singleton.mp hr]
            exact hf
        · exact h1 r hr
      · exact a r hr
    · obtain ⟨a, b⟩ := chop_chS (z := z) w.length _ hw
      refine ⟨fun r hr => ?_, b⟩
      rcases List.mem_append.mp hr with hr | hr
      · split at hr
        · rcases List.mem_append.mp hr with hr | hr
          · exact h1 r hr
          · rw [List.mem_singleton.mp hr]
            exact h2
        · exact h1 r hr
      · exact a r hr
theorem fold_chS {p : Nat → Prop} {z : Nat} (hs : ChS p " ") : ∀ {ws : List Str} {st : List Str × Str}, ((∀ r ∈ st.1, ChS p r) ∧ ChS p st.2) → (∀ w ∈ ws, ChS p w) → (∀ r ∈ (ws.foldl (layStep z) st).1, ChS p r) ∧ ChS p (ws.foldl (layStep z) st).2
  | [], st, h, _ => h
  | w :: ws, st, h, hw => fold_chS hs (ws := ws) (lay_chS hs h (hw w List.mem_cons_self)) fun x hx => hw x (List.mem_cons_of_mem _ hx)
theorem strOk_ch {x : Str} : PyData.strOk x = true ↔ ChS (fun c => c < 1114112) x := by
  unfold PyData.strOk ChS
  rw [Array.all_eq_true]
  constructor
  · intro h c hc
    obtain ⟨i, hi, rfl⟩ := List.getElem_of_mem hc
    have := of_decide_eq_true (h i (by simpa using hi))
    simpa using this
  · intro h i hi
    exact decide_eq_true (h _ (Array.mem_toList_iff.mpr (Array.getElem_mem hi)))
theorem rw_strOk {z : Nat} {ws : List Str} (h : ∀ w ∈ ws, PyData.strOk w = true) : ∀ r ∈ rw_ (ws.foldl (layStep z) ([], "")), PyData.strOk r = true := by
  obtain ⟨a, b⟩ := fold_chS (p := fun c => c < 1114112) (z := z) (st := ([], "")) (strOk_ch.mp (by decide +kernel)) ⟨(fun r q => nomatch q), fun c q => nomatch q⟩ fun w hw => strOk_ch.mp (h w hw)
  intro r hr
  unfold rw_ at hr
  rw [strOk_ch]
  split at hr
  · rcases List.mem_append.mp hr with hr | hr
    · exact a r hr
    · rw [List.mem_singleton.mp hr]
      exact b
  · exact a r hr
theorem rgC : ∀ j : Nat, j < 61 → ∀ c : Nat, c < 61 → 1 ≤ c → 1 ≤ j → (decide ((c : Int) ≠ 0) && decide ((c : Int).natAbs < 1073741824) && Builtin.Range.small 0 (j : Int) (c : Int) && decide (Builtin.Range.rangeSize 0 (j : Int) (c : Int) = (cnt c j : Nat))) = true := by decide +kernel
theorem rgC_of {j c : Nat} (h1 : 1 ≤ j) (h2 : j ≤ 60) (h3 : 1 ≤ c) (h4 : c ≤ 60) : RgC 0 (j : Int) (c : Int) (cnt c j) := by
  have := rgC j (by omega) c (by omega) h3 h1
  simp only [Bool.and_eq_true, decide_eq_true_eq] at this
  obtain ⟨⟨⟨a, b⟩, d⟩, e⟩ := this
  exact ⟨a, b, d, e⟩
end K46

/-! xs != []: xs a list of anything -/
namespace L2
open PySem PySem.Spec PyProof.Rows
def rNeNil (K : PySem.W.Frag) : R2 := fun x y H Q => ∃ p q xs, x = .ref p ∧ y = .ref q ∧ SqL K H p xs ∧ SqL K H q [] ∧ Q (.bl (!xs.isEmpty)) H
section
variable {X : Cx}
theorem op_neNil (hu : X.A.units + 64 < cLine) : OpR X (compareOp .NotEq) (rNeNil X.K) := by
  intro pins s σ H x y v u Q I rx ry h
  obtain ⟨p, q, xs, rfl, rfl, hp, hq, h⟩ := h
  cases rx
  cases ry
  obtain ⟨its, rv, hl, _⟩ := I.list hp
  obtain ⟨its2, rv2, hl2, _⟩ := I.list hq
  have hu1 : X.A.units < cLine := by omega
  cases rv2
  cases rv with
  | nil => exact SeqAt.RcNeAt.lists hl.isList hl2.isList rfl hu1 (e := fun _ => true) (fun j h1 => absurd h1 (by simp)) _ _ _ _ ⟨.bl _, H, I, rfl, h⟩
  | cons a b => exact SeqAt.RcNeAt.lists_lengths hl.isList hl2.isList (by simp) hu1 _ _ _ _ ⟨.bl _, H, I, rfl, h⟩
end
end L2

namespace K46
open PySem L2 PyProof PyProof.Rows XStrV
/-! ### the law's own laying out, walked -/
abbrev sLaidL : Stmt := top 87
def spLLaid : Sp := fun vs H Q _ => ∃ (t : Str) (ws : List Str) (z : Nat), vs = [.str t, .int (z : Int)] ∧ TX t ws ∧ 1 ≤ z ∧ z ≤ 60 ∧ ∀ (D : Addr) (H' : Hp), Same H H' → H D = none → H' D = some (.lst ((laidF z ws).map V.str)) → Q (.ref D) H'
theorem strs_shapedL {fl : List Str} (h : ∀ x ∈ fl, PyData.strOk x = true) : SeqAt.shaped (.list (fl.map PyData.str)) = true := strs_shaped h
theorem ixN_last (xs : List V) (v : V) : ixN (xs ++ [v]).length (-1) = some xs.length := by
  have hl : (xs ++ [v]).length = xs.length + 1 := by simp
  unfold ixN
  rw [hl, if_neg (by decide), if_pos (by omega)]
  congr 1
  omega
theorem set_last (xs : List V) (v u : V) : (xs ++ [v]).set xs.length u = xs ++ [u] := by
  rw [List.set_append_right _ _ (Nat.le_refl _), Nat.sub_self]
  rfl
section
variable {P : Program} {w : World} {K : PySem.W.Frag} {mg : Str → Option Value} {base : Heap}
abbrev nLL : List Str := ["_law_text_here", "_law_size", "_law_rows", "_law_word", "_law_room", "_law_k"]
theorem scLL : FnScope nLL ["_law_text_here", "_law_size"] (defScope sLaidL) := ⟨rfl, rfl, rfl, by decide +kernel, rfl, by decide +kernel, by decide +kernel⟩
theorem ok_lLaid {f : Addr} {fd : FuncData} (F : Fun K "_law_t_laid" "_law_t_laid" sLaidL f fd) (T : TxtB mg) : FnOk P w K mg base CX0 1 f fd ["_law_text_here", "_law_size"] spLLaid := by
  refine F.ok scLL (fun vs H Q E h => ?_) (fun cdv A outer s H vs Q E hr h => ?_)
  · obtain ⟨t, ws, z, rfl, _⟩ := h
    rfl
  · obtain ⟨t, ws, z, rfl, hT, hz, hz2, k⟩ := h
    have hz6 : PySem.sizeLine = 16777216 := PySem.sizeLine_eq
    have hu : (Cx.A (cxOf CX0 P w K mg base nLL "_law_t_laid" (defScope sLaidL) f cdv A outer s H E)).units + 64 < cLine := hr.units
    have hlt := hT.len
    refine ⟨_, pss_mid (ps_set (i := 2) scLL.nd rfl (Or.inl rfl) (pe_lst pa_nil))
      (pss_mid (ps_for PassesOwn.never rfl (pi_list (pe_bm0 PySem.F.plainAttrs_str PySem.F.slot_str_split PySem.F.type_str_split mt_words (pv 0))) (pg_name (i := 3) scLL.nd rfl (Or.inr rfl))
        (pss_mid (ps_set (i := 4) scLL.nd rfl (Or.inl rfl) (pe_ifExp (pt_cmpR (op_neNil hu) (pv 2) (pe_lst pa_nil) (nomark _)) (pe_op op_sub (pe_op op_sub (pv 1) (pe_callB call_len_str (by rfl) T.len PySem.boot_len (pa_cons (pe_ix ix_list (pv 2) (pe_un un_neg pe_int) (fun _ _ => rfl)) pa_nil))) pe_int) pe_int))
        (pss_mid (ps_if (PW.pt (pw_and (pt_cmpR (op_neNil hu) (pv 2) (pe_lst pa_nil) (nomark _)) (pw_and1 (pt_cmpR op_le (pe_callB call_len_str (by rfl) T.len PySem.boot_len (pa_cons (pv 3) pa_nil)) (pv 4) (nomark _)))))
            (pss_cons (ps_asg (pe_op op_add_str (pe_op op_add_str (pe_ix ix_list (pv 2) (pe_un un_neg pe_int) (fun _ _ => rfl)) pe_str) (pv 3)) (pg_sub (pv 2) (pe_un un_neg pe_int) set_list)) (pss_one ps_continue)) pss_nil)
        (pss_mid (ps_if (PW.pt (pw_and (pt_cmpR op_gt (pe_callB call_len_str (by rfl) T.len PySem.boot_len (pa_cons (pv 3) pa_nil)) (pv 1) (nomark _)) (pw_and1 (pt_cmpR op_gt (pv 4) pe_int (nomark _)))))
            (pss_one (ps_asg (pe_tup (pa_cons (pe_op op_add_str (pe_op op_add_str (pe_ix ix_list (pv 2) (pe_un un_neg pe_int) (fun _ _ => rfl)) pe_str) (pe_slice sl_str (pv 3) po_none (po_some (pv 4)))) (pa_cons (pe_slice sl_str (pv 3) (po_some (pv 4)) po_none) pa_nil))) (pg_tup rfl (pgs_cons (pg_sub (pv 2) (pe_un un_neg pe_int) set_list) (pgs_cons (pg_name (i := 3) scLL.nd rfl (Or.inr rfl)) pgs_nil))))) pss_nil)
        (pss_one (ps_expr (pe_bm PySem.F.plainAttrs_list PySem.F.slot_list_extend PySem.F.type_list_extend mt_extend (pv 2) (pa_cons (pe_lc (own := [("_law_k", 5)]) (g := gName 5) (tt := tYes) (te := tSl _ (tVar 3) (tPart (tVar 5)) (tPart (tOp _ (tVar 5) (tVar 1)))) rfl scLL.nd (pi_range3 rfl T.range (pa_cons pe_int (pa_cons (pe_callB call_len_str (by rfl) T.len PySem.boot_len (pa_cons (pv 3) pa_nil)) (pa_cons (pv 1) pa_nil)))) (blkOk_by (N := nLL) (sc := defScope sLaidL) (by decide +kernel)) (fun _ _ _ _ _ => pg_name (i := 5) scLL.nd rfl (Or.inl rfl)) (fun _ _ _ _ _ => pts_nil) (fun _ _ _ _ _ => by exact pe_slice sl_str (pv 3) (po_some (pv 5)) (po_some (pe_op op_add (pv 5) (pv 1))))) pa_nil))))))))
      (pss_one (ps_ret (pv 2)))), ?_⟩
    refine ⟨fun σ' H' => ∃ R, H R = none ∧ σ' = [some (.str t), some (.int (z : Int)), some (.ref R), none, none, none] ∧ Same H H' ∧ H' R = some (.lst []), ?_, ?_⟩
    · exact ⟨(by show 0 ≤ sizeLine; decide), fun R hR => ⟨R, hR, rfl, same_upd hR, upd_same⟩⟩
    rintro _ H1 ⟨R, hR0, rfl, e1, hR⟩
    refine ⟨fun σ' H' => ∃ r3 r4, σ' = [some (.str t), some (.int (z : Int)), some (.ref R), r3, r4, none] ∧ Same H H' ∧ H' R = some (.lst ((laidF z ws).map V.str)), ?_, ?_⟩
    · refine ⟨_, rfl, rfl, t, rfl, rfl, (by omega), fun W hW => ⟨W, rfl, ⟨_, SqL.of upd_same⟩, ?_⟩⟩
      rw [hT.words]
      have eW := same_upd (o := .lst (ws.map V.str)) hW
      have hWg : (upd H1 W (.lst (ws.map V.str))) W = some (.lst (ws.map V.str)) := upd_same
      generalize upd H1 W (.lst (ws.map V.str)) = G at eW hWg
      have nRW : R ≠ W := ne_of_none hR hW
      have hRG := eW _ _ hR
      have len0 : ∀ i, i ≤ ws.length → ((ws.take i).foldl (layStep z) ([], "")).1.length ≤ 51 * i ∧ ((ws.take i).foldl (layStep z) ([], "")).2.length ≤ 51 * i := fun i => by
        induction i with
        | zero => intro _; exact ⟨Nat.le_refl _, Nat.le_refl _⟩
        | succ i ih =>
          intro hi
          obtain ⟨a, b⟩ := ih (by omega)
          have hw : ws[i]? = some ws[i] := List.getElem?_eq_getElem (by omega)
          rw [take_more' hw, List.foldl_append]
          have hwl := (hT.w _ (List.mem_of_getElem? hw)).l2
          obtain ⟨c, d⟩ := lay_len hz (st := (ws.take i).foldl (layStep z) ([], "")) (w := ws[i]) a b
          exact ⟨by show (layStep z _ _).1.length ≤ _; omega, by show (layStep z _ _).2.length ≤ _; omega⟩
      refine for_list (K := K) (a := W) (xs := ws.map V.str) (fun i σ' H' => ∃ r3 r4, σ' = [some (.str t), some (.int (z : Int)), some (.ref R), r3, r4, none] ∧ Kb R G H' ∧ H' R = some (.lst ((rw_ ((ws.take i).foldl (layStep z) ([], ""))).map V.str))) ⟨none, none, rfl, Kb.refl _ _, hRG⟩ ?_ ?_ ?_
      · rintro i σ' H' _ ⟨_, _, _, kb, _⟩
        exact SqL.of (kb _ _ hWg nRW.symm)
      · rintro i xv σ' H' hxv ⟨r3, r4, rfl, kb, hRi⟩
        obtain ⟨w, hw, rfl⟩ := str_at hxv
        have hi := (List.getElem?_eq_some_iff.mp hw).1
        have h8 := hT.n8
        obtain ⟨b1, b2⟩ := len0 i (by omega)
        have hwx := hT.w w (List.mem_of_getElem? hw)
        have hw1 := hwx.l
        have hw2 := hwx.l2
        have hst : (ws.take (i + 1)).foldl (layStep z) ([], "") = layStep z ((ws.take i).foldl (layStep z) ([], "")) w := by
          rw [take_more' hw, List.foldl_append]
          rfl
        rw [hst]
        have hcase : (ws.take i).foldl (layStep z) ([], "") = (([] : List Str), ("" : Str)) ∨ ((ws.take i).foldl (layStep z) ([], "")).2 ≠ "" := by
          cases i with
          | zero => exact .inl rfl
          | succ j =>
            have hj : ws[j]? = some ws[j] := List.getElem?_eq_getElem (by omega)
            rw [take_more' hj, List.foldl_append]
            exact .inr (lay_ne (hT.w _ (List.mem_of_getElem? hj)).l)
        generalize (ws.take i).foldl (layStep z) ([], "") = st at hRi b1 b2 hcase ⊢
        obtain ⟨fo, ln⟩ := st
        have b1 : fo.length ≤ 51 * i := b1
        have b2 : ln.length ≤ 51 * i := b2
        have h1l : (" " : Str).length = 1 := rfl
        -- what stands
        have hrs : (rw_ (fo, ln) = [] ∧ fo = [] ∧ ln = "") ∨ (rw_ (fo, ln) = fo ++ [ln] ∧ ln ≠ "") := by
          rcases hcase with e | e
          · cases e
            exact .inl ⟨rfl, rfl, rfl⟩
          · have e' : ln ≠ "" := e
            refine .inr ⟨?_, e'⟩
            unfold rw_
            rw [if_pos e']
        -- the room
        refine ⟨fun σ' H2 => ∃ rm : Int, σ' = [some (.str t), some (.int (z : Int)), some (.ref R), some (.str w), some (.int rm), none] ∧ Kb R G H2 ∧ H2 R = some (.lst ((rw_ (fo, ln)).map V.str)) ∧ ((rw_ (fo, ln) = [] ∧ rm = 0) ∨ (rw_ (fo, ln) = fo ++ [ln] ∧ rm = (z : Int) - ln.length - 1)), ?_, ?_⟩
        · refine ⟨_, rfl, (by show 0 ≤ sizeLine; decide), fun q hq => ?_⟩
          have eq := same_upd (o := .lst []) hq
          have hRq := eq _ _ hRi
          refine ⟨R, q, _, rfl, rfl, SqL.of hRq, SqL.of upd_same, _, rfl, ?_⟩
          rcases hrs with ⟨h1, h2, h3⟩ | ⟨h1, h2⟩
          · rw [h1] at hRq ⊢
            exact iteF ⟨0, rfl, kb.same eq, hRq, .inl ⟨rfl, rfl⟩⟩
          · have hem : (!((rw_ (fo, ln)).map V.str).isEmpty) = true := by
              rw [h1, List.map_append]
              cases fo <;> rfl
            rw [hem]
            have hRq' : (upd H' q (.lst [])) R = some (.lst (fo.map V.str ++ [V.str ln])) := by
              rw [hRq, h1, List.map_append]
              rfl
            exact iteT ⟨_, rfl, _, rfl, 1, rfl, R, _, -1, _, rfl, rfl, SqL.of hRq', atI_last _ _, ln, rfl, (by omega), _, _, rfl, rfl, _, _, rfl, rfl, (z : Int) - ln.length - 1, rfl, kb.same eq, hRq, .inr ⟨h1, rfl⟩⟩
        rintro _ H2 ⟨rm, rfl, kb2, hR2, hrm⟩
        have hRl : rw_ (fo, ln) = fo ++ [ln] → ∀ {Hx : Hp}, Hx R = some (.lst ((rw_ (fo, ln)).map V.str)) → Hx R = some (.lst (fo.map V.str ++ [V.str ln])) := fun h1 {Hx} hx => by
          rw [hx, h1, List.map_append]
          rfl
        -- behind the last
        refine ⟨fun σ' H3 => σ' = [some (.str t), some (.int (z : Int)), some (.ref R), some (.str w), some (.int rm), none] ∧ Kb R G H3 ∧ H3 R = some (.lst ((rw_ (fo, ln)).map V.str)) ∧ ((rw_ (fo, ln) = [] ∧ rm = 0) ∨ (rw_ (fo, ln) = fo ++ [ln] ∧ rm = (z : Int) - ln.length - 1 ∧ ¬ (w.length : Int) ≤ rm)), ?_, ?_⟩
        · refine ⟨_, rfl, (by show 0 ≤ sizeLine; decide), fun q hq => ?_⟩
          have eq := same_upd (o := .lst []) hq
          have hRq := eq _ _ hR2
          refine ⟨R, q, _, rfl, rfl, SqL.of hRq, SqL.of upd_same, _, rfl, ?_⟩
          rcases hrm with ⟨h1, h2⟩ | ⟨h1, h2⟩
          · have hem : (!((rw_ (fo, ln)).map V.str).isEmpty) = false := by rw [h1]; rfl
            rw [hem]
            exact iteF ⟨rfl, kb2.same eq, hRq, .inl ⟨h1, h2⟩⟩
          · have hem : (!((rw_ (fo, ln)).map V.str).isEmpty) = true := by
              rw [h1, List.map_append]
              cases fo <;> rfl
            rw [hem]
            have hRq' := hRl h1 hRq
            have hln : ln ≠ "" := by
              rcases hrs with ⟨q1, _, _⟩ | ⟨_, q2⟩
              · rw [q1] at h1
                simp at h1
              · exact q2
            refine iteT ⟨_, rfl, w, rfl, (by omega), _, rfl, _, _, rfl, rfl, _, rfl, ite2 (fun hc => ?_) (fun hc => ?_)⟩
            · have hc' := of_decide_eq_true hc
              have hso := step_on (z := z) (fo := fo) (w := w) hln (by omega)
              rw [hso]
              refine ⟨_, rfl, 1, rfl, R, _, -1, _, rfl, rfl, SqL.of hRq', atI_last _ _, _, _, rfl, rfl, (by rw [h1l]; omega), _, rfl, _, _, rfl, rfl, (by rw [Str.length_append, h1l]; omega), _, rfl, 1, rfl, R, _, -1, _, rfl, rfl, hRq', ixN_last _ _, _, _, rfl, (kb2.same eq).upd, ?_⟩
              rw [upd_same, set_last, List.map_append]
              rfl
            · exact ⟨rfl, kb2.same eq, hRq, .inr ⟨h1, h2, fun q => hc (decide_eq_true (by omega))⟩⟩
        rintro _ H3 ⟨rfl, kb3, hR3, hrm3⟩
        -- the first piece
        refine ⟨fun σ' H4 => ∃ (w' : Str) (rs' : List Str), σ' = [some (.str t), some (.int (z : Int)), some (.ref R), some (.str w'), some (.int rm), none] ∧ 1 ≤ w'.length ∧ w'.length ≤ 50 ∧ Kb R G H4 ∧ H4 R = some (.lst (rs'.map V.str)) ∧ rs'.length ≤ 500 ∧ rw_ (layStep z (fo, ln) w) = rs' ++ pcs z w', ?_, ?_⟩
        · have skip : (¬ (z < w.length ∧ 0 < rm)) → ∃ (w' : Str) (rs' : List Str), [some (.str t), some (.int (z : Int)), some (.ref R), some (.str w), some (.int rm), none] = [some (V.str t), some (.int (z : Int)), some (.ref R), some (.str w'), some (.int rm), none] ∧ 1 ≤ w'.length ∧ w'.length ≤ 50 ∧ Kb R G H3 ∧ H3 R = some (.lst (rs'.map V.str)) ∧ rs'.length ≤ 500 ∧ rw_ (layStep z (fo, ln) w) = rs' ++ pcs z w' := fun hno => by
            rcases hrs with ⟨q1, q2, q3⟩ | ⟨q1, q2⟩
            · subst q2 q3
              refine ⟨w, [], rfl, hw1, hw2, kb3, hR3, by decide, ?_⟩
              exact step_nil hz hw1
            · rcases hrm3 with ⟨p1, _⟩ | ⟨p1, p2, p3⟩
              · rw [p1] at q1
                simp at q1
              · refine ⟨w, fo ++ [ln], rfl, hw1, hw2, kb3, by rw [hR3, q1], by rw [List.length_append]; show fo.length + 1 ≤ 500; omega, ?_⟩
                rw [p2] at p3 hno
                exact step_new hz q2 hw1 p3 hno
          refine ⟨_, rfl, w, rfl, (by omega), _, rfl, _, _, rfl, rfl, _, rfl, ite2 (fun hc => ?_) (fun hc => ?_)⟩
          · have hc' : z < w.length := by
              have := of_decide_eq_true hc
              omega
            refine ⟨_, rfl, _, _, rfl, rfl, _, rfl, ite2 (fun hd => ?_) (fun hd => ?_)⟩
            · have hd' : 0 < rm := of_decide_eq_true hd
              obtain ⟨room, rfl⟩ : ∃ room : Nat, rm = (room : Int) := ⟨rm.toNat, by omega⟩
              rcases hrs with ⟨q1, q2, q3⟩ | ⟨q1, q2⟩
              · rcases hrm3 with ⟨p1, p2⟩ | ⟨p1, p2, p3⟩
                · omega
                · rw [q1] at p1
                  simp at p1
              · rcases hrm3 with ⟨p1, p2⟩ | ⟨p1, p2, p3⟩
                · omega
                · have hsc := step_cut hz (fo := fo) q2 p2 (by omega) hc'
                  have hR3' := hRl q1 hR3
                  have hct := cutS_to_len w room
                  have hcf := cutS_from_len w room
                  refine ⟨_, rfl, 1, rfl, R, _, -1, _, rfl, rfl, SqL.of hR3', atI_last _ _, _, _, rfl, rfl, (by rw [h1l]; omega), _, rfl, _, rfl, _, rfl, w, rfl, (by omega), _, _, rfl, rfl, (by rw [Str.length_append, h1l]; omega), ?_⟩
                  refine ⟨_, rfl, _, rfl, _, rfl, w, rfl, (by omega), (by show 2 ≤ sizeLine; decide), fun N hN => ?_⟩
                  have eN := same_upd (o := .tup [.str (ln ++ " " ++ cutS w none (some (room : Int))), .str (cutS w (some (room : Int)) none)]) hN
                  refine ⟨N, _, rfl, SqT.of upd_same, rfl, _, _, rfl, _, rfl, 1, rfl, R, _, -1, _, rfl, rfl, eN _ _ hR3', ixN_last _ _, _, _, rfl, rfl, cutS w (some (room : Int)) none, fo ++ [ln ++ " " ++ cutS w none (some (room : Int))], rfl, (by omega), (by omega), (kb3.same eN).upd, ?_, (by rw [List.length_append]; show fo.length + 1 ≤ 500; omega), hsc⟩
                  rw [upd_same, set_last, List.map_append]
                  rfl
            · exact skip (fun q => hd (decide_eq_true q.2))
          · exact skip (fun q => hc (decide_eq_true (by omega)))
        rintro _ H4 ⟨w', rs', rfl, hw1', hw2', kb4, hR4, hrl4, heq⟩
        -- the pieces
        rw [heq]
        refine ⟨_, rfl, .inl ⟨rfl, _, SqL.of hR4⟩, _, rfl, w', rfl, (by omega), _, rfl, 0, (w'.length : Int), (z : Int), cnt z w'.length, rfl, rgC_of hw1' (by omega) hz hz2, fun D hD => ?_⟩
        have hcl := cnt_le (z := z) (n := w'.length) hz hw1'
        have nRD : R ≠ D := ne_of_none hR4 hD
        refine lc_it (walk_rangeC (lo := 0) (c := (z : Int)) (n := cnt z w'.length)) (fun i H' => Same H4 H' ∧ H' D = some (.lst (((List.range i).map fun i => cutS w' (some ((i * z : Nat) : Int)) (some ((i * z + z : Nat) : Int))).map V.str))) ⟨same_upd hD, upd_same⟩ (fun _ _ _ _ => trivial) (fun i v H' H'' hi h y => ?_) (fun H' h => ?_)
        · obtain ⟨g1, g2⟩ := h
          obtain ⟨rfl, rfl⟩ := y
          have e1 : (0 : Int) + (i : Nat) * (z : Int) = ((i * z : Nat) : Int) := by
            rw [Int.zero_add, Int.natCast_mul]
          refine ⟨rfl, _, rfl, _, rfl, _, rfl, _, rfl, _, rfl, _, _, rfl, rfl, _, rfl, w', rfl, (by omega), _, g2, (by rw [List.length_map, List.length_map, List.length_range]; omega), same_mut g1 hD, ?_⟩
          rw [upd_same, List.range_succ, List.map_append, List.map_append]
          have e2 : (0 : Int) + (i : Nat) * (z : Int) + (z : Int) = ((i * z + z : Nat) : Int) := by
            rw [e1]
            omega
          rw [e2, e1]
          rfl
        · obtain ⟨g1, g2⟩ := h
          refine ⟨R, D, _, _, rfl, rfl, g1 _ _ hR4, g2, (by rw [List.length_map, List.length_map, List.length_map, List.length_range]; omega), _, _, rfl, (kb4.same g1).upd, ?_⟩
          rw [upd_same, List.map_append]
          rfl
      · rintro σ' H' ⟨r3, r4, rfl, kb, hRi⟩
        rw [List.length_map, List.take_length] at hRi
        refine ⟨r3, r4, rfl, ?_, hRi⟩
        intro b u hb
        exact kb _ _ (eW _ _ (e1 _ _ hb)) (ne_of_none hb hR0)
    rintro _ H2 ⟨r3, r4, rfl, e2, hR2⟩
    exact ⟨_, rfl, k R H2 e2 hR0 hR2⟩
end
end K46

namespace K46
open PySem L2 PyProof PyProof.Rows XStrV
/-! ### a text of long words -/
abbrev sTextL : Stmt := top 91
def tails : List Str := ["", "-", "y-z", "."]
def wokX (w : Str) : Bool := decide (w.cps.toList ≠ []) && w.cps.toList.all (fun c => !Unicode.isSpace c) && decide (1 ≤ w.length) && decide (w.length ≤ 50) && !w.cps.toList.contains 123 && !w.cps.toList.contains 61 && PyData.strOk w
theorem wok_x : ∀ n : Nat, n < 41 → 1 ≤ n → ∀ t ∈ tails, wokX (Txt.mul "x" (n : Int) ++ t) = true := by decide +kernel
theorem wok_2 : ∀ w ∈ (["a", "be"] : List Str), wokX w = true := by decide +kernel
theorem mul_x : ∀ n : Nat, n < 41 → MulOk "x" (n : Int) ∧ (Txt.mul "x" (n : Int)).length ≤ 40 := by
  unfold MulOk
  decide +kernel
theorem tails_len : ∀ t ∈ tails, t.length ≤ 3 := by decide +kernel
theorem wx_of {w : Str} (h : wokX w = true) : WX w := by
  unfold wokX at h
  simp only [Bool.and_eq_true, decide_eq_true_eq, List.all_eq_true, Bool.not_eq_true'] at h
  obtain ⟨⟨⟨⟨⟨⟨h1, h2⟩, h3⟩, h4⟩, h5⟩, h6⟩, h7⟩ := h
  refine ⟨⟨h1, h2⟩, h3, h4, fun z => ?_, fun z => ?_, h7⟩
  · rw [List.contains_iff_mem.mpr z] at h5
    cases h5
  · rw [List.contains_iff_mem.mpr z] at h6
    cases h6
def spText : Sp := fun vs H Q _ => ∃ (st cl : Addr) (n : Nat), vs = [.ref st] ∧ Strm H st cl n ∧ n ≤ 90000 ∧ ∀ (t : Str) (ws : List Str) (n' : Nat) (H' : Hp), TX t ws → Strm H' st cl n' → n' ≤ n + 30 → Kp2 st cl H H' → Q (.str t) H'
theorem mem_str {l : List Str} {x : V} (h : x ∈ l.map V.str) : ∃ y ∈ l, x = .str y := by
  obtain ⟨y, hy, rfl⟩ := List.mem_map.mp h
  exact ⟨y, hy, rfl⟩
theorem Strm.fr {H : Hp} {st cl : Addr} {n : Nat} (S : Strm H st cl n) {b : Addr} (h : H b = none) : b ≠ st ∧ b ≠ cl := by
  obtain ⟨o, h1⟩ := S.st
  obtain ⟨u, h2⟩ := S.cl
  exact ⟨(ne_of_none h1 h).symm, (ne_of_none h2 h).symm⟩
theorem Strm.up {H : Hp} {st cl D : Addr} {n : Nat} {o : HO} (S : Strm H st cl n) (h : D ≠ st ∧ D ≠ cl) : Strm (upd H D o) st cl n := by
  obtain ⟨c, b, ns, g1, g2, g3⟩ := S.ex
  exact ⟨c, b, ns, by rw [upd_ne h.1.symm]; exact g1, by rw [upd_ne h.2.symm]; exact g2, g3⟩
theorem kp2_up {st cl D : Addr} {H H' : Hp} {o : HO} (k : Kp2 st cl H H') (h : H D = none) : Kp2 st cl H (upd H' D o) := fun q u hq q1 q2 => by
  rw [upd_ne (ne_of_none hq h)]
  exact k _ _ hq q1 q2
theorem kp2_none {st cl L : Addr} {H H' : Hp} {n : Nat} (k : Kp2 st cl H H') (S : Strm H' st cl n) (hL : H' L = none) : H L = none := by
  cases q : H L with
  | none => rfl
  | some o =>
    obtain ⟨c1, c2⟩ := S.fr hL
    have := k _ _ q c1 c2
    rw [this] at hL
    cases hL
section
variable {P : Program} {w : World} {K : PySem.W.Frag} {mg : Str → Option Value} {base : Heap}
abbrev nText : List Str := ["_law_stream", "_law_some", "_law_k"]
theorem scText : FnScope nText ["_law_stream"] (defScope sTextL) := ⟨rfl, rfl, rfl, by decide +kernel, rfl, by decide +kernel, by decide +kernel⟩
theorem ok_text {f fD fP : Addr} {fd fdD fdP : FuncData} (F : Fun K "_law_text" "_law_text" sTextL f fd) (T : TxtB mg) (Dr : At P w K mg base "_law_draw" 1 ["_law_stream", "_law_many"] spDraw fD fdD) (Pk : At P w K mg base "_law_pick" 2 ["_law_stream", "_law_some"] spPick fP fdP) : FnOk P w K mg base CX0 3 f fd ["_law_stream"] spText := by
  refine F.ok scText (fun vs H Q E h => ?_) (fun cdv A outer s H vs Q E hr h => ?_)
  · obtain ⟨st, cl, n, rfl, _⟩ := h
    rfl
  · obtain ⟨st, cl, n, rfl, S, hn, k⟩ := h
    have hz6 : PySem.sizeLine = 16777216 := PySem.sizeLine_eq
    have r1 := hr.mono (show 1 ≤ 2 by decide)
    refine ⟨_, pss_mid (ps_set (i := 1) scText.nd rfl (Or.inr rfl) (pe_lc (own := [("_law_k", 2)]) (g := gName 2) (tt := tYes) rfl scText.nd (pi_range1 rfl T.range (pa_cons pe_int pa_nil)) (blkOk_by (N := nText) (sc := defScope sTextL) (by decide +kernel)) (fun _ _ _ _ _ => pg_name (i := 2) scText.nd rfl (Or.inl rfl)) (fun _ _ _ _ _ => pts_nil) (fun _ _ _ _ _ => pe_op op_add_str (pe_op XR.op_mulS pe_str (pe_op op_add pe_int (pe_call Dr.ok r1 rfl Dr.m Dr.k Dr.b .nil pass0 (pa_cons (pv 0) (pa_cons pe_int pa_nil))))) (pe_call Pk.ok hr rfl Pk.m Pk.k Pk.b .nil pass0 (pa_cons (pv 0) (pa_cons (pe_lst (pa_cons pe_str (pa_cons pe_str (pa_cons pe_str (pa_cons pe_str pa_nil))))) pa_nil))))))
      (pss_one (ps_ret (pe_bm PySem.F.plainAttrs_str PySem.F.slot_str_join PySem.F.type_str_join mt_join pe_str (pa_cons (pe_lc (own := [("_law_k", 2)]) (g := gName 2) (tt := tYes) rfl scText.nd (pi_range1 rfl T.range (pa_cons (pe_op op_add pe_int (pe_call Dr.ok r1 rfl Dr.m Dr.k Dr.b .nil pass0 (pa_cons (pv 0) (pa_cons pe_int pa_nil)))) pa_nil)) (blkOk_by (N := nText) (sc := defScope sTextL) (by decide +kernel)) (fun _ _ _ _ _ => pg_name (i := 2) scText.nd rfl (Or.inl rfl)) (fun _ _ _ _ _ => pts_nil) (fun _ _ _ _ _ => pe_call Pk.ok hr rfl Pk.m Pk.k Pk.b .nil pass0 (pa_cons (pv 0) (pa_cons (pe_op op_cat (pv 1) (pe_lst (pa_cons pe_str (pa_cons pe_str pa_nil)))) pa_nil)))) pa_nil)))), ?_⟩
    -- words
    refine ⟨fun σ' H' => ∃ (L : Addr) (xs : List Str), σ' = [some (.ref st), some (.ref L), none] ∧ Strm H' st cl (n + 16) ∧ Kp2 st cl H H' ∧ H L = none ∧ H' L = some (.lst (xs.map V.str)) ∧ xs.length = 8 ∧ ∀ x ∈ xs, WX x, ?_, ?_⟩
    · refine ⟨8, rfl, by decide, by decide, fun L hL => ?_⟩
      have nL := S.fr hL
      refine lc_range (lo := 0) (n := 8) (fun i H' => ∃ xs : List Str, Strm H' st cl (n + 2 * i) ∧ Kp2 st cl H H' ∧ H' L = some (.lst (xs.map V.str)) ∧ xs.length = i ∧ ∀ x ∈ xs, WX x) ⟨[], S.up nL, Kp2.of_same (same_upd hL), upd_same, rfl, fun x z => nomatch z⟩ (fun i H' hi h => ?_) (fun H' h => ?_)
      · obtain ⟨xs, Si, ki, hLi, hl, hxs⟩ := h
        refine ⟨rfl, _, rfl, st, cl, _, 40, rfl, Si, by decide, by decide, by omega, fun j H3 j0 j1 S3 k3 => ⟨_, _, rfl, rfl, ?_⟩⟩
        obtain ⟨m, hm⟩ : ∃ m : Nat, 1 + j = (m : Int) := ⟨(1 + j).toNat, by omega⟩
        obtain ⟨mo, ml⟩ := mul_x m (by omega)
        refine ⟨"x", (m : Int), rfl, congrArg V.int hm, mo, ?_⟩
        refine ⟨_, rfl, (by show 4 ≤ sizeLine; decide), fun Z hZ => ?_⟩
        have nZ := S3.fr hZ
        refine ⟨st, cl, _, Z, tails.map V.str, rfl, S3.up nZ, upd_same, nZ.1, nZ.2, (fun z => nomatch z), (by decide), by omega, fun x H4 hx S4 k4 => ?_⟩
        obtain ⟨y, hy, rfl⟩ := mem_str hx
        have yl := tails_len y hy
        have hL3 := k3 _ _ hLi nL.1 nL.2
        have nLZ : L ≠ Z := ne_of_none hL3 hZ
        have hL4 := k4 _ _ (by rw [upd_ne nLZ]; exact hL3) nL.1 nL.2
        have kk : Kp2 st cl H H4 := (ki.trans k3).trans ((Kp2.of_same (same_upd hZ)).trans k4)
        refine ⟨_, _, rfl, rfl, (by omega), _, hL4, (by rw [List.length_map]; omega), xs ++ [Txt.mul "x" (m : Int) ++ y], S4.up nL, kp2_up kk hL, ?_, by rw [List.length_append, hl]; rfl, fun q hq => ?_⟩
        · rw [upd_same, List.map_append]
          rfl
        · rcases List.mem_append.mp hq with hq | hq
          · exact hxs q hq
          · rw [List.mem_singleton.mp hq]
            exact wx_of (wok_x m (by omega) (by omega) y hy)
      · obtain ⟨xs, Si, ki, hLi, hl, hxs⟩ := h
        exact ⟨L, xs, rfl, Si, ki, hL, hLi, hl, hxs⟩
    rintro _ H1 ⟨L, xs, rfl, S1, k1, hL0, hL, hxl, hxs⟩
    have nL := S.fr hL0
    -- some of them
    refine ⟨rfl, _, rfl, st, cl, n + 16, 8, rfl, S1, by decide, by decide, by omega, fun j H2 j0 j1 S2 k2 => ⟨_, _, rfl, rfl, _, rfl, by omega, by omega, fun D hD => ?_⟩⟩
    have nD := S2.fr hD
    have k12 := k1.trans k2
    have hD0 : H D = none := kp2_none k12 S2 hD
    have hL2 := k2 _ _ hL nL.1 nL.2
    have nLD : L ≠ D := ne_of_none hL2 hD
    refine lc_range (lo := 0) (n := (1 + j).toNat) (fun i H' => ∃ ws : List Str, Strm H' st cl (n + 17 + i) ∧ Kp2 st cl H H' ∧ H' L = some (.lst (xs.map V.str)) ∧ H' D = some (.lst (ws.map V.str)) ∧ ws.length = i ∧ ∀ x ∈ ws, WX x) ⟨[], S2.up nD, kp2_up k12 hD0, by rw [upd_ne nLD]; exact hL2, upd_same, rfl, fun x z => nomatch z⟩ (fun i H' hi h => ?_) (fun H' h => ?_)
    · obtain ⟨ws, Si, ki, hLi, hDi, hl, hws⟩ := h
      refine ⟨rfl, _, rfl, _, rfl, (by show 2 ≤ sizeLine; decide), fun Z hZ => ?_⟩
      have eZ := same_upd (o := .lst ((["a", "be"] : List Str).map V.str)) hZ
      have hZg : (upd H' Z (.lst ((["a", "be"] : List Str).map V.str))) Z = some (.lst ((["a", "be"] : List Str).map V.str)) := upd_same
      have SZ := Si.keep eZ
      have kZ := ki.trans (Kp2.of_same (a := st) (b := cl) eZ)
      refine ⟨L, Z, _, _, rfl, rfl, eZ _ _ hLi, hZg, (by rw [List.length_map, List.length_map]; show xs.length + 2 ≤ sizeLine; omega), fun Y hY => ?_⟩
      have hY' : (upd H' Z (.lst [.str "a", .str "be"])) Y = none := hY
      have SY := SZ.keep (same_upd (o := .lst (xs.map V.str ++ (["a", "be"] : List Str).map V.str)) hY')
      have nY := SZ.fr hY'
      refine ⟨st, cl, _, Y, xs.map V.str ++ (["a", "be"] : List Str).map V.str, rfl, SY, upd_same, nY.1, nY.2, (by simp), (by rw [List.length_append, List.length_map]; show xs.length + 2 < 1000; omega), by omega, fun x H4 hx S4 k4 => ?_⟩
      have kY := kZ.trans ((Kp2.of_same (same_upd hY')).trans k4)
      have kL := k4 _ _ ((same_upd hY') _ _ (eZ _ _ hLi)) nL.1 nL.2
      have kD := k4 _ _ ((same_upd hY') _ _ (eZ _ _ hDi)) nD.1 nD.2
      rw [← List.map_append] at hx
      obtain ⟨y, hy, rfl⟩ := mem_str hx
      have hwx : WX y := by
        rcases List.mem_append.mp hy with hy | hy
        · exact hxs y hy
        · exact wx_of (wok_2 y hy)
      refine ⟨_, kD, (by rw [List.length_map]; omega), ws ++ [y], S4.up nD, kp2_up kY hD0, by rw [upd_ne nLD]; exact kL, ?_, by rw [List.length_append, hl]; rfl, fun q hq => ?_⟩
      · rw [upd_same, List.map_append]
        rfl
      · rcases List.mem_append.mp hq with hq | hq
        · exact hws q hq
        · rw [List.mem_singleton.mp hq]
          exact hwx
    · obtain ⟨ws, Si, ki, hLi, hDi, hl, hws⟩ := h
      have hsum := strs_sum (n := 50) (xs := ws) fun x hx => (hws x hx).l2
      have h1 : (" " : Str).length = 1 := rfl
      refine ⟨" ", D, ws, rfl, rfl, .inl (SqL.of hDi), (by rw [h1]; omega), k _ ws _ H' ⟨join_J ws, fun z => ?_, by omega, hws⟩ Si (by omega) ki⟩
      rw [z] at hl
      have : (0 : Nat) = (1 + j).toNat := hl
      omega
end
end K46

/-! the head, from a run that ends in a state that is known -/
namespace XTop
open PySem PySem.W PySem.Calls PyProof.Rows HandSHeadRun
def RunTop (r : OpenRow) (q : Program) (H : Hook) (M : Nat) (loose : List PySem.Str) (w : World) : Prop :=
  ∀ os : OsState, ∃ (s : SharedT) (m : Nat), m ≤ M ∧ topRun treeTable r.prog w (boot_heap w.params).objs.size (bootAnn w) m ⟨boot_heap w.params, #[], boot_drawn, boot_toks, os⟩ (topStub r.prog) = some s.abs ∧ (looksF r.prog (boot_heap w.params) s.abs, seenQ q loose (importedModules r.prog.main.body) (fun s => xlAt q [] s && recOk r.toRowW.records s) s.abs, H.obs s.abs) = (true, openGood q loose, H.val w)
theorem left_top {p q : Program} {loose : List PySem.Str} {Xt : Shared → Bool} {α : Type} {Yf : Shared → α} {Ya : World → α} {N M : Nat}
    (e : opening p = plainProg p.main.scope.names) (hN : Nat.ble 600 N = true) (f : ∀ s, fenceModules? p s = some s) (le : Nat.ble M N = true)
    (run : ∀ (w : World) (os : OsState), ∃ (s : SharedT) (m : Nat), m ≤ M ∧ topRun treeTable p w (boot_heap w.params).objs.size (bootAnn w) m ⟨boot_heap w.params, #[], boot_drawn, boot_toks, os⟩ (topStub p) = some s.abs ∧ (looksF p (boot_heap w.params) s.abs, openSeen q loose (importedModules p.main.body) Xt true s.abs, Yf s.abs) = (true, openGood q loose, Ya w)) :
    LeftO p q loose Xt Yf Ya N true := fun w => by
  obtain ⟨⟨h, gs, d, k, os⟩, a, a'⟩ := Option.map_eq_some_iff.mp (boot_open e hN f w)
  obtain ⟨rfl, rfl, rfl, rfl⟩ : h = boot_heap w.params ∧ gs = Array.mk [] ∧ d = boot_drawn ∧ k = boot_toks := by simpa using a'
  obtain ⟨s, m, hm, hs, hv⟩ := run w os
  obtain ⟨l1, l2, l3⟩ : _ ∧ _ ∧ _ := by simpa only [Prod.mk.injEq] using hv
  have r := topRun_mono (N - m) _ _ _ _ hs
  rw [show m + (N - m) = N by have := Nat.le_of_ble_eq_true le; omega] at r
  have l1' : (staticsOk (importedModules p.main.body) (boot_heap w.params) s.abs.heap && namesBound p s.abs.heap && gensDone s.abs && laidKept (boot_heap w.params) s.abs.heap) = true := l1
  have t : topFrom treeTable p w N ⟨boot_heap w.params, Array.mk [], boot_drawn, boot_toks, os⟩ = some s.abs := by
    unfold topFrom
    dsimp only
    rw [boot_ns]
    show (topRun treeTable p w (boot_heap w.params).objs.size (bootAnn w) N ⟨boot_heap w.params, #[], boot_drawn, boot_toks, os⟩ (topStub p)).bind _ = _
    rw [r]
    show (match staticsOk (importedModules p.main.body) (boot_heap w.params) s.abs.heap && namesBound p s.abs.heap && gensDone s.abs && laidKept (boot_heap w.params) s.abs.heap with | true => some s.abs | false => none) = _
    rw [l1']
  unfold openEnds
  rw [a]
  show (topFrom treeTable p w N _).map _ = _
  rw [t]
  exact congrArg some (Prod.ext l2 l3)
theorem head_top {r : OpenRow} {q : Program} {H : Hook} {M : Nat} {loose : List PySem.Str} {d : DefRec} {kwd : List (PySem.Str × PySem.Expr)}
    (e : opening r.prog = plainProg r.prog.main.scope.names) (f : ∀ s, fenceModules? r.prog s = some s) (run : ∀ w, RunTop r q H M loose w)
    (hdef : defOf q r.name = some (d, kwd)) (hp : r.prog.theDef r.name = some (d.params, d.body, d.scope)) (hk : kwWritten? d.params.kwonlyargs d.params.kw_defaults = some kwd)
    (hwr : (!r.writes || r.records.isEmpty) = true) (k1 : r.wellSaid = true) (ok : (chainsOk q && opensWell r.prog && (frees r.toRowW && r.within.isEmpty)) = true) (hb : r.prog.bare) (hw : r.toRowW.promised)
    (call : WalkO q loose (XL q []) H.says r.toRowW d kwd fun f vs => PySem.call f vs) : r.Holds := by
  have left : LeftO r.prog q loose (fun s => xlAt q [] s && recOk r.toRowW.records s) H.obs H.val (M + 600) true :=
    left_top (M := M) e (Nat.ble_eq_true_of_le (by omega)) f (Nat.ble_eq_true_of_le (by omega)) fun w os => by
      have z := run w os
      simp only [seenQ_eq]
      exact z
  exact holds_open (r := r) (q := q) (loose := loose) (XP := XL q []) (YP := H.says) (d := d) (kwd := kwd) left H.of H.keeps (fun s z => xl_of s (Bool.and_eq_true_iff.mp z).1) XL.keeps hdef hp hk (fun s z => recFacts_of (Bool.and_eq_true_iff.mp z).2) hwr k1 ok hb hw call
end XTop

namespace K46
open PySem L2 PyProof PyProof.Rows XRuns XTight XStrip XStrV
/-! ### the law's option, as it is made -/
def ldOf (h : Str) : DD := [("action", .str "count"), ("help", .str h)]
theorem sg_min : SgOk "-" := ⟨by decide +kernel, by decide +kernel, by decide +kernel, by decide +kernel⟩
theorem fl_a : flB "-" "-a" = true := by decide +kernel
theorem gv_a : Gv "-" ["-a"] true := ⟨fun _ => ⟨(fun z => nomatch z), fun x hx => by
  rw [List.mem_singleton.mp hx]
  exact flB_ok fl_a⟩, (fun z => nomatch z), by decide, by decide⟩
theorem space_all : (PySem.UnicodeData.space.all fun q => decide (q.2 < 0x110000)) = true := by decide +kernel
theorem str_ok {x : Str} (h : ∀ c ∈ x.cps.toList, c < 0x110000) : PyData.strOk x = true := by
  unfold PyData.strOk
  rw [← Array.all_toList, List.all_eq_true]
  exact fun c hc => decide_eq_true (h c hc)
theorem ok_str {x : Str} (h : PyData.strOk x = true) : ∀ c ∈ x.cps.toList, c < 0x110000 := by
  unfold PyData.strOk at h
  rw [← Array.all_toList, List.all_eq_true] at h
  exact fun c hc => of_decide_eq_true (h c hc)
theorem TX.so {t : Str} {ws : List Str} (h : TX t ws) : PyData.strOk t = true := str_ok fun c hc => by
  rw [h.e] at hc
  rcases J_list hc with rfl | ⟨w, hw, q⟩
  · decide
  · exact ok_str (h.w w hw).k c q
theorem okO_a {h : Str} (hs : PyData.strOk h = true) : OkO true "count" (ldOf h) := by
  refine ⟨rfl, by decide +kernel, (fun z => nomatch z), ?_, (fun d z => nomatch (show none = some d from z)), (fun z => absurd z (by decide +kernel)), (fun z => absurd z (by decide +kernel)), (fun z => absurd z (by decide +kernel)), .inl rfl, (fun z => absurd z (by decide +kernel)), .inr ⟨h, rfl⟩, fun p hp => ?_, (by show 2 ≤ 20; decide)⟩
  · exact (by decide +kernel : ∀ k ∈ (["action", "help"] : List Str), k ∈ keysS "count")
  · rcases List.mem_cons.mp hp with rfl | hp
    · exact ⟨by decide, by decide, by decide +kernel⟩
    · rw [List.mem_singleton.mp hp]
      refine ⟨Nat.zero_le _, rfl, ?_⟩
      unfold SeqAt.shaped
      simp [PyData.canLay0, hs, PyData.depth]
theorem nmd_a (h : Str) : Nmd ["-a"] true (ldOf h) := ⟨(fun d z => nomatch (show none = some d from z)), (fun z => nomatch z)⟩
theorem flD_a : flD "-" ["-a"] true "count" = (["-a"] : List Str) := by decide +kernel
theorem dest_a (h : Str) : destOf "-" ["-a"] true (ldOf h) = "a" := by
  show Txt.replace (Txt.lstripChars (headF "-" ["-a"]) "-") "-" "_" = "a"
  decide +kernel
theorem dt_ii {v : V} {i : Int} (h : Dt emp v (.int i)) : v = .int i := by cases h; rfl
theorem dt_bb {v : V} {i : Bool} (h : Dt emp v (.bool i)) : v = .bl i := by cases h; rfl
theorem dt_ss {v : V} {i : Str} (h : Dt emp v (.str i)) : v = .str i := by cases h; rfl
theorem dt_nn {v : V} (h : Dt emp v .none) : v = .non := by cases h; rfl
theorem dtr_nn {H H' : Hp} {v : V} (h : DtR H H' v .none) : v = .non := by
  obtain ⟨N, h, _⟩ := h
  cases h
  rfl
theorem argC_of {CA : Addr} {H H' : Hp} {A : Addr} {h : Str} {ws : List Str} (t : TX h ws) (x : ArgX CA H H' A "-" ["-a"] true "count" (ldOf h)) : ArgC CA H' (.ref A) "-a" "a" h := by
  obtain ⟨dx, U, v, _, h2, h3, h4, h5⟩ := x.ex
  rw [flD_a] at h2
  rw [dest_a] at h3
  have a1 : v.nn = .int 0 := dt_ii (h4.nn (by decide))
  have a2 : v.co = .non := dtr_nn (h4.co (by decide))
  have a3 : v.de = .non := dtr_nn (h4.de (by decide))
  have a4 : v.ki = .non := dtr_nn (h4.ki (by decide))
  have a5 : v.ch = .non := dtr_nn (h4.ch (by decide))
  have a6 : v.re = .bl false := dt_bb (h4.re (by decide))
  have a7 : v.he = .str h := dt_ss (h4.he (by decide))
  have a8 : v.me = .non := by
    rcases h5 with q | ⟨a, l, q1, q2, q3⟩
    · exact dt_nn q
    · cases q2
  unfold AV.fs at h3
  rw [a1, a2, a3, a4, a5, a6, a7, a8] at h3
  have := t.len
  exact ⟨⟨A, dx, U, _, _, rfl, h2, h3⟩, t.no.2, by decide, by decide, by omega⟩
/-! ### texts of the law's rows -/
theorem nbl_mem {l : List Nat} {c : Nat} (h : c ∈ l) : Unicode.isSpace c = true ∨ c ∈ nbl l := by
  by_cases q : Unicode.isSpace c = true
  · exact .inl q
  · exact .inr (List.mem_filter.mpr ⟨h, by simp [q]⟩)
theorem within_lt {n : Nat} : ∀ {l : List (Nat × Nat)} {c : Nat}, (l.all fun q => decide (q.2 < n)) = true → Unicode.within l c = true → c < n
  | [], _, _, h => nomatch h
  | (a, b) :: r, c, h1, h2 => by
    rw [List.all_cons, Bool.and_eq_true] at h1
    unfold Unicode.within at h2
    split at h2
    · cases h2
    · rcases Bool.or_eq_true_iff.mp h2 with q | q
      · have := of_decide_eq_true q
        have := of_decide_eq_true h1.1
        omega
      · exact within_lt h1.2 q
theorem space_lt {c : Nat} (h : Unicode.isSpace c = true) : c < 0x110000 := within_lt space_all h
theorem rows_so {ws : List Str} {z : Nat} (h : ∀ w ∈ ws, PyData.strOk w = true) : ∀ r ∈ laidF z ws, PyData.strOk r = true := fun r hr => str_ok fun c hc => by
  rcases nbl_mem hc with q | q
  · exact space_lt q
  · have : c ∈ nbs (laidF z ws) := List.mem_flatten.mpr ⟨nb r, List.mem_map.mpr ⟨r, hr, rfl⟩, q⟩
    rw [nb_laid] at this
    obtain ⟨l, hl, hcl⟩ := List.mem_flatten.mp this
    obtain ⟨w, hw, rfl⟩ := List.mem_map.mp hl
    exact ok_str (h w hw) c (List.mem_filter.mp hcl).1
/-! ### what stands behind a list that grew -/
theorem kb_keep {L b : Addr} {H H' : Hp} {u o : HO} (k : Kb L H H') (hL : H L = some o) (h : H b = some u) (ne : u ≠ o) : H' b = some u := k _ _ h fun z => by
  rw [z, hL] at h
  exact ne (Option.some.inj h).symm
theorem ArgC.kb {CA L : Addr} {H H' : Hp} {v : V} {fl dst h : Str} {xs : List V} (q : ArgC CA H v fl dst h) (k : Kb L H H') (hL : H L = some (.lst xs)) : ArgC CA H' v fl dst h := by
  obtain ⟨A, dx, U, ve, fe, h1, h2, h3⟩ := q.ex
  exact ⟨⟨A, dx, U, ve, fe, h1, kb_keep k hL h2 (fun z => nomatch z), kb_keep k hL h3 (fun z => nomatch z)⟩, q.sh, q.l⟩
/-- a parser of the law with its option and its group: what format_help asks -/
structure PHas (CP CS CA : Addr) (H : Hp) (p : Addr) (pr : Str) (D : Str) (wd : Int) (aL la le ls : Addr) (as : List V) (fls : List (Str × Str)) (os : List Sct) : Prop where
  t : PrT CP H p pr .non (.str D) .non wd aL la le ls
  la : H la = some (.lst as)
  op : Opts CA H as fls
  le : H le = some (.lst [])
  ls : ∃ vs', H ls = some (.lst vs') ∧ PySem.Paired (fun v s => SeX CS CA H v s.1 s.2.1 s.2.2) vs' os
theorem secs {CP CS CA : Addr} {a : PAd} {H : Hp} {kvs : List (Key × V)} {as ms : List V} {fls : List (Str × Str)} (h : ParAt CP CS a H kvs as [] ms) (ho : Opts CA H ms fls) (hl : ms.length ≤ 50) (hb : ∀ p ∈ fls, NoB p.2 ∧ hasW p.2) :
    SeX CS CA H (.ref a.s0) none "" [] ∧ SeX CS CA H (.ref a.s1) none "options" fls := by
  obtain ⟨d0, v0, s0⟩ := h.hs0
  obtain ⟨d1, ⟨v1, e1⟩, s1⟩ := h.hs1
  exact ⟨⟨⟨_, d0, _, _, v0, [], rfl, s0, h.hm0, .nil, by decide, fun z => z.elim (fun z => absurd rfl z) (fun z => absurd rfl z)⟩, fun p z => nomatch z⟩, ⟨⟨_, d1, _, _, v1, ms, rfl, s1, h.hm1, ho, hl, fun _ => e1⟩, hb⟩⟩
/-! ### sizes of the law's help -/
theorem bt_len (rows : List Str) {n : Nat} (h : ∀ r ∈ rows, r.length ≤ n) : (bt (rows.map (·.cps.toList))).length ≤ n * rows.length + rows.length := by
  rw [← join_bt, len_tl, ← StrLaws.glued_eq_join]
  have hj : (Txt.join "\n" rows).length ≤ _ := join_len "\n" rows
  have hs := strs_sum h
  have h1 : ("\n" : Str).length = 1 := rfl
  rw [h1] at hj
  show (Txt.join "\n" rows).length ≤ _
  omega
theorem lrow_len {ls : List Str} {col : Nat} (hc : col ≤ 6) (h : ∀ r ∈ ls, r.length ≤ 411) (h0 : ls ≠ []) : (∀ r ∈ lawRows ls col, r.length ≤ 420) ∧ (lawRows ls col).length = ls.length := by
  have sl : (sps col).length = col := sps_len (by omega)
  unfold lawRows
  split
  · cases ls with
    | nil => exact absurd rfl h0
    | cons x xs =>
      refine ⟨fun r hr => ?_, by simp⟩
      have h6 : ("  -a  " : Str).length = 6 := by decide +kernel
      rcases List.mem_cons.mp hr with rfl | hr
      · rw [Str.length_append, h6]
        have := h x List.mem_cons_self
        show 6 + x.length ≤ 420
        omega
      · obtain ⟨l, hl, rfl⟩ := List.mem_map.mp hr
        have := h l (List.mem_cons_of_mem _ hl)
        rw [Str.length_append, sl]
        omega
  · refine ⟨fun r hr => ?_, by simp⟩
    obtain ⟨l, hl, rfl⟩ := List.mem_map.mp hr
    have := h l hl
    rw [Str.length_append, sl]
    omega
theorem op_len {h : Str} {ws : List Str} {wd : Nat} (t : TX h ws) : (∀ r ∈ opRows h wd, r.length ≤ 420) ∧ (opRows h wd).length ≤ 420 := by
  have hz : 1 ≤ rsz wd (colW wd) := by
    unfold rsz
    omega
  have hc := colW_is wd
  obtain ⟨a, b⟩ := laid_lens hz t.len
  obtain ⟨c, d⟩ := lrow_len (ls := rowL h (colW wd) wd) (col := colW wd) (by omega) b (rowL_ok t).1
  have hA : ("  -a" : Str).length = 4 := by decide +kernel
  have hO : ("options:" : Str).length = 8 := by decide +kernel
  have a' : (rowL h (colW wd) wd).length ≤ 412 := a
  unfold opRows
  refine ⟨fun r hr => ?_, ?_⟩
  · rcases List.mem_cons.mp hr with rfl | hr
    · omega
    · rcases List.mem_append.mp hr with hr | hr
      · split at hr
        · rw [List.mem_singleton.mp hr]
          omega
        · exact nomatch hr
      · exact c r hr
  · rw [List.length_cons, List.length_append, d]
    split
    · show 1 + _ + 1 ≤ 420
      omega
    · show 0 + _ + 1 ≤ 420
      omega
theorem d_len {D : Str} {ws : List Str} {wd : Nat} (t : TX D ws) : (∀ r ∈ rowsD D wd, r.length ≤ 411) ∧ (rowsD D wd).length ≤ 412 := by
  have hz := sizes_ok (wd := wd)
  obtain ⟨a, b⟩ := laid_lens (z := sizeOf wd 0) (by omega) t.len
  exact ⟨b, a⟩
theorem t_len {x : Str} {ws : List Str} {wd : Nat} (t : TX x ws) : (∀ r ∈ rowsT x wd, r.length ≤ 420) ∧ (rowsT x wd).length ≤ 420 := by
  have hz := sizes_ok (wd := wd)
  obtain ⟨a, b⟩ := laid_lens (z := sizeOf wd 2) (by omega) t.len
  have h2 : ("  " : Str).length = 2 := rfl
  have hO : ("t:" : Str).length = 2 := by decide +kernel
  unfold rowsT
  refine ⟨fun r hr => ?_, ?_⟩
  · rcases List.mem_cons.mp hr with rfl | hr
    · omega
    · obtain ⟨l, hl, rfl⟩ := List.mem_map.mp hr
      have := b l hl
      rw [Str.length_append, h2]
      omega
  · rw [List.length_cons, List.length_map]
    omega
theorem help_len {D h x ti : Str} {wsD wsH wsX : List Str} {wd : Nat} (tD : TX D wsD) (tH : TX h wsH) (tX : TX x wsX) (hw : wd ≤ 40) : (helpF "p" [("-a", h)] wd (some D) (osL h x ti) none (colW wd)).length ≤ 4000000 := by
  rw [← len_tl, help_list tD tH tX hw]
  obtain ⟨u1, _, _, u4⟩ := u_ok hw h
  rw [← len_tl, u1] at u4
  obtain ⟨d1, d2⟩ := d_len (wd := wd) tD
  obtain ⟨o1, o2⟩ := op_len (wd := wd) tH
  obtain ⟨t1, t2⟩ := t_len (wd := wd) tX
  have bD := bt_len _ d1
  have bO := bt_len _ o1
  have bT := bt_len _ t1
  unfold G
  simp only [List.length_append, List.length_cons, List.length_nil]
  omega
theorem words_ne {h : Str} {ws : List Str} (t : TX h ws) : hasW h := by
  unfold hasW
  rw [t.words]
  exact t.n
theorem heads (h x ti : Str) : ∀ m : Int, m ∈ nsOf (osL h x ti) → (∀ y ∈ nsOf (osL h x ti), y ≤ m) → m = (4 : Nat) := by
  have e : nsOf (osL h x ti) = [0, 4] := by
    show (0 : Int) :: [((("  " ++ ("-a" : Str) : Str).length : Nat) : Int)] = _
    have : ("  " ++ ("-a" : Str) : Str).length = 4 := by decide +kernel
    rw [this]
    rfl
  rw [e]
  intro m hm hy
  have := hy 4 (by simp)
  simp at hm
  omega
theorem rows_split {rows : List Str} (h0 : rows ≠ []) (h : ∀ r ∈ rows, RowS r) : Txt.split (Str.join "\n" rows) "\n" = rows := split_blk (blk_of h0 h)
theorem jlen {rows : List Str} {n m : Nat} (h : ∀ r ∈ rows, r.length ≤ n) (hm : rows.length ≤ m) (hs : n * m + m ≤ 1000000) : (Str.join "\n" rows).length + 2 ≤ PySem.sizeLine := by
  have := bt_len _ h
  rw [← join_bt, len_tl] at this
  have h1 : n * rows.length ≤ n * m := Nat.mul_le_mul_left _ hm
  rw [PySem.sizeLine_eq]
  omega
theorem rows_so' {D : Str} {ws : List Str} {wd : Nat} (t : TX D ws) : ∀ r ∈ rowsD D wd, PyData.strOk r = true := by
  unfold rowsD
  rw [t.words]
  exact rows_so fun w hw => (t.w w hw).k
theorem eqv_self {d : PyData} (h : SeqAt.shaped d = true) : PyData.eqv d d = true := PySem.SeqAt.eqv_refl d (PySem.SeqAt.canLay_of_shaped h)
theorem so_app {a b : Str} (ha : PyData.strOk a = true) (hb : PyData.strOk b = true) : PyData.strOk (a ++ b) = true := str_ok fun c hc => by
  rw [Str.cps_append, Array.toList_append] at hc
  rcases List.mem_append.mp hc with q | q
  · exact ok_str ha c q
  · exact ok_str hb c q
theorem so_sps {n : Nat} (h : n ≤ 200) : PyData.strOk (sps n) = true := str_ok fun c hc => by
  have e : (sps n).cps.toList = List.replicate n 32 := (sps_ok n (by omega)).2
  rw [e] at hc
  rw [List.eq_of_mem_replicate hc]
  decide
theorem so_rowL {h : Str} {ws : List Str} {wd col : Nat} (t : TX h ws) : ∀ r ∈ rowL h col wd, PyData.strOk r = true := by
  unfold rowL
  rw [t.words]
  exact rows_so fun w hw => (t.w w hw).k
theorem so_op {h : Str} {ws : List Str} {wd : Nat} (t : TX h ws) : ∀ r ∈ opRows h wd, PyData.strOk r = true := by
  have h0 := so_rowL (wd := wd) (col := colW wd) t
  have h1 := (rowL_ok (wd := wd) t).1
  have hc := colW_is wd
  intro r hr
  rcases List.mem_cons.mp hr with rfl | hr
  · decide +kernel
  · rcases List.mem_append.mp hr with hr | hr
    · split at hr
      · rw [List.mem_singleton.mp hr]
        decide +kernel
      · exact nomatch hr
    · unfold lawRows at hr
      split at hr
      · rcases List.mem_cons.mp hr with rfl | hr
        · refine so_app (by decide +kernel) ?_
          cases q : rowL h (colW wd) wd with
          | nil => exact absurd q h1
          | cons a b => exact h0 a (by rw [q]; exact List.mem_cons_self)
        · obtain ⟨l, hl, rfl⟩ := List.mem_map.mp hr
          exact so_app (so_sps (by omega)) (h0 l (List.mem_of_mem_tail hl))
      · obtain ⟨l, hl, rfl⟩ := List.mem_map.mp hr
        exact so_app (so_sps (by omega)) (h0 l hl)
theorem so_t {x : Str} {ws : List Str} {wd : Nat} (t : TX x ws) : ∀ r ∈ rowsT x wd, PyData.strOk r = true := by
  intro r hr
  unfold rowsT at hr
  rw [t.words] at hr
  rcases List.mem_cons.mp hr with rfl | hr
  · decide +kernel
  · obtain ⟨l, hl, rfl⟩ := List.mem_map.mp hr
    exact so_app (by decide +kernel) (rows_so (fun w hw => (t.w w hw).k) l hl)
theorem cutS_pre {a y : Str} {n : Nat} (ha : a.length = n) : cutS (a ++ y) (some (n : Int)) none = y := by
  apply K46.toL_inj
  rw [cutS_from, Str.cps_append, Array.toList_append, List.drop_append, List.drop_of_length_le (by rw [len_tl]; omega), len_tl, ha, Nat.sub_self]
  rfl
end K46

/-! 'text'.m(e) compared with what wants a token -/
namespace XLitM
open PySem PySem.Spec PyProof.Rows L2 CwR
/-- behind it a token is out -/
def PEG (X : Cx) (e : Expr) (t : TE) : Prop :=
  ∀ (pins : List (Addr × Obj)) (s : Shared) (σ : L2.St) (H : Hp) (Q : VK), Inv X pins σ H s → t σ H Q → wpAny (model X.prog X.w) X.A (eval e X.env) (fun v s' => 1 ≤ s'.toks ∧ EP X pins σ Q v s') X.xe s
section
variable {X : Cx} {pos : Pos} {T id : String} {r : V → List V → Hp → VK → Prop} {e : Expr} {es : List Expr} {t : TA} {name : Str} {apos cpos cp : Pos}
theorem peg_bm {c : Str} {j : Nat} (pa : PlainAttrs T) (slot : Slot T name id) (hty : typeOf (.builtin id) = pure (.type "method_descriptor")) (hm : MtR X id r) (ha : PA X (e :: es) t)
    (hbase : attributeBase (.Constant (.str c) j cp) name X.env (eval (.Constant (.str c) j cp) X.env) = eval (.Constant (.str c) j cp) X.env := by rfl)
    (hfew : ((backTo cpos (starEach (e :: es) X.env)).all (fun x => !x.1) && (backToKw cpos (keywordEach [] X.env)).all (fun x => x.1.isSome)
      && decide ((e :: es).length + ([] : List Keyword).length + (if ([] : List Keyword).isEmpty then 0 else 1) < 30)) = true := by rfl)
    (hline : (apos.endLine == cpos.line) = true := by rfl) (hs : starEach (e :: es) X.env = (false, eval e X.env) :: starEach es X.env := by rfl) (hplain : (backTo cpos (starEach es X.env)).any (·.1) = false := by rfl) :
    PEG X (.Call (.Attribute (.Constant (.str c) j cp) name apos) (e :: es) [] cpos) (tBM X.K T r (tC (.str c)) t) := by
  intro pins s σ H Q I h
  refine wpAny_Call_method_late hbase hfew hline rfl (Calls.Constant_str ?_)
  obtain ⟨ty, q1⟩ := h
  have I1 := I.tok (s.toks + 1)
  have r1 : RelV (.str c) (.str c s.toks) := ⟨s.toks, rfl⟩
  obtain ⟨h1, h2⟩ := tyV_is I1 r1 ty
  refine ⟨T, id, pa, slot, hty, h1, h2, ?_⟩
  have hA := ha.run cpos pins _ σ H _ I1 q1
  rw [hs] at hA ⊢
  refine Calls.callWith_builtin (by show (false || (backTo cpos (starEach es X.env)).any (·.1)) = false; rw [hplain] <;> rfl) (Calls.evalArgs_plain ?_)
  refine wpAny_mono (PySem.wpAny_toks_of (n := 1) (by show 1 ≤ s.toks + 1; omega) hA) (fun us s2 q => ?_) fun _ _ z => z.2
  obtain ⟨hk, vs, H2, I2, r2, q2⟩ := q
  exact wpAny_mono (PySem.wpAny_toks_of hk (hm pins s2 σ H2 (.str c) vs _ us Q I2 r1 r2 q2)) (fun _ _ z => z) fun _ _ z => z.2
theorem pt_cmpG {a b : Expr} {op : CmpOp} {r : R2} {ta tb : TE} (ho : OpR X (compareOp op) r) (ha : PEG X a ta) (hb : PET X b tb) (hm : behindInMarks op b = false) : PT X (.Compare a [op] [b] pos) (tTest (tOp r ta tb)) := by
  refine ⟨fun pins s σ H Q I h => ?_⟩
  refine wpAny_isTrue_Compare1 (thn (ha pins s σ H _ I h) fun v s1 ⟨hk, x, H1, I1, r1, q1⟩ => thn (hb pins s1 σ H1 _ hk I1 q1) fun u s2 ⟨y, H2, I2, r2, q2⟩ =>
    thn (ho pins s2 σ H2 x y v u _ I2 r1 r2 q2) fun c s3 ⟨z, H3, I3, r3, k, e, q3⟩ => ?_) hm
  subst e
  cases r3
  exact wpAny_truthy_bool ⟨H3, I3, q3⟩
end
end XLitM

namespace K46
open PySem L2 PyProof PyProof.Rows XRuns XTight XStrip XStrV
/-! ### the law: one turn -/
def forBody (s : Stmt) : List Stmt := match s with
  | .For _ _ b _ _ => b
  | _ => []
def at_ (ss : List Stmt) (i : Nat) : Stmt := ss.getD i (.Pass ⟨0, 0, 0, 0⟩)
abbrev bLaw : List Stmt := defBody sLaw
abbrev bTurn : List Stmt := forBody (at_ bLaw 1)
abbrev nLaw : List Str := ["_law_script", "_law_stream", "_law_turn", "_law_wide", "_law_some", "_law_parser", "_law_found", "_law_column", "_law_rows", "_law_due", "_law_k", "_law_row"]
theorem scLaw : FnScope nLaw ["_law_script"] (defScope sLaw) := ⟨rfl, rfl, rfl, by decide +kernel, rfl, by decide +kernel, by decide +kernel⟩
/-- the functions that the law calls -/
structure Fns (P : Program) (w : World) (K : PySem.W.Frag) (mg : Str → Option Value) (base : Heap) (CP CS CA aP aL : Addr) : Prop where
  T : TxtB mg
  zMax : mg "max" = none
  zMin : mg "min" = none
  St : ∃ f fd, At P w K mg base "_law_start" 1 ["_law_script"] (spStart K) f fd
  Dr : ∃ f fd, At P w K mg base "_law_draw" 1 ["_law_stream", "_law_many"] spDraw f fd
  Tx : ∃ f fd, At P w K mg base "_law_text" 3 ["_law_stream"] spText f fd
  La : ∃ f fd, At P w K mg base "_law_t_laid" 1 ["_law_text_here", "_law_size"] spLLaid f fd
  mP : mg "Parser" = some (.ref CP)
  cP : ClsN K CP parF
  hL : ∀ H, SqT K H aL []
  Mp : ∃ fP fdP, Mk K CP fP ∧ FnOk P w K mg base CX0 5 fP fdP pParI (spParI CP CS aP aL) ∧ ∃ g gV, KBn K fdP pParI 2 ["width", "description", "add_help"] g gV ∧ ∀ x p v1 v2 v3, gV [x, p] [v1, v2, v3] = [x, p, .non, v2, .non, .ref aP, .ref aL, v1, .str "-", .str "", .non, .non, .str "error", v3, .bl true, .bl true]
  Ad : ∃ f fd, FnOk P w K mg base CX0 9 f fd ["self", "flags", "options"] (spAdd CP CS CA) ∧ Meth K CP "add_argument" f ∧ Binds K fd ["self", "flags", "options"] []
  Ag : ∃ f fd, FnOk P w K mg base CX0 5 f fd ["self", "title", "description"] (spAddG CP CS CA) ∧ Meth K CP "add_argument_group" f ∧ Binds K fd ["self", "title", "description"] []
  Fh : ∃ f fd, FnOk P w K mg base CX0 7 f fd ["self"] (spFH K CP CS CA) ∧ Meth K CP "format_help" f ∧ Binds K fd ["self"] []
theorem iteF2 {b : Bool} {P Q : Prop} (hb : b = false := by simp) (h : Q) : if b = true then P else Q := by
  rw [hb, if_neg Bool.false_ne_true]
  exact h
theorem nd_ne {α : Type} {l : List α} (h : l.Nodup) {i j : Nat} {x y : α} (hi : l[i]? = some x) (hj : l[j]? = some y) (hij : i ≠ j) : x ≠ y := by
  obtain ⟨h1, e1⟩ := List.getElem?_eq_some_iff.mp hi
  obtain ⟨h2, e2⟩ := List.getElem?_eq_some_iff.mp hj
  intro e
  rw [← e1, ← e2] at e
  exact hij ((List.getElem_inj h).mp e)
/-- what Parser() made -/
theorem par_at {CP CS : Addr} {H H1 H' : Hp} {x dx : Addr} {pr : Str} {ds ep : V} {wd : Int} {aL la lf le dd ls s0 s1 m0 m1 : Addr} (e1 : Same H H1) (hx : H x = none) (N : ParNew CP CS H1 H' x dx pr "-" "error" .non ds ep wd true true aL la lf le dd ls s0 s1 m0 m1) :
    ∃ fi, ParAt CP CS ⟨x, dx, la, lf, le, dd, ls, s0, s1, m0, m1, aL, fi, true, "-", true, pr, .non, ds, ep, wd⟩ H' [] [] [] [] ∧ (∀ y ∈ [ls, m1, s1, m0, s0, dd, le, lf, la], H y = none) ∧ Same H H' := by
  obtain ⟨fi, px⟩ := N.px
  have nd := N.nw.nd
  refine ⟨fi, ⟨px, N.h_la, N.h_lf, N.h_dd, N.h_ls, N.h_s0, N.h_s1, N.h_m0, N.h_m1, N.h_le, ⟨nd_ne nd (i := 8) (j := 1) rfl rfl (by decide), nd_ne nd (i := 8) (j := 3) rfl rfl (by decide), nd_ne nd (i := 3) (j := 1) rfl rfl (by decide)⟩, ⟨nd_ne nd (i := 0) (j := 8) rfl rfl (by decide), nd_ne nd (i := 0) (j := 3) rfl rfl (by decide), nd_ne nd (i := 0) (j := 1) rfl rfl (by decide)⟩, nd_ne nd (i := 7) (j := 5) rfl rfl (by decide), ⟨nd_ne nd (i := 6) (j := 8) rfl rfl (by decide), nd_ne nd (i := 6) (j := 3) rfl rfl (by decide), nd_ne nd (i := 6) (j := 1) rfl rfl (by decide)⟩⟩, fun y hy => none_of' e1 (N.nw.new y hy).1, fun b o h => N.kp b o (e1 _ _ h) (ne_of_none h hx)⟩
section
variable {P : Program} {w : World} {K : PySem.W.Frag} {mg : Str → Option Value} {base : Heap}
abbrev X0 (P : Program) (w : World) (K : PySem.W.Frag) (mg : Str → Option Value) (base : Heap) (f : Addr) (cdv : Value) (A0 : Around) (outer : List Env) (s : Shared) (H : Hp) (E : XK) : Cx := (cxOf CX0 P w K mg base nLaw "law" (defScope sLaw) f cdv A0 outer s H E).nox
theorem turn_walk {f CP CS CA aP aL : Addr} (Z : Fns P w K mg base CP CS CA aP aL) {cdv : Value} {A0 : Around} {outer : List Env} {s : Shared} {H0 : Hp} {E : XK} (hr : Room 9 (A0.deeper (PyProof.Rows.envOfC "law" (defScope sLaw) s.heap.objs.size f cdv))) :
    ∃ t : TS, PSs (X0 P w K mg base f cdv A0 outer s H0 E) bTurn t ∧ ∀ (D : Ends) (H : Hp) (sc r2 r3 r4 r5 r6 r7 r8 r9 : Option V) (st cl : Addr) (n : Nat), Strm H st cl n → n ≤ 50000 →
      (∀ (r3 r4 r5 r6 r7 r8 r9 : Option V) (H' : Hp) (n' : Nat), Strm H' st cl n' → n' ≤ n + 200 → D.nx [sc, some (.ref st), r2, r3, r4, r5, r6, r7, r8, r9, none, none] H') →
      t D [sc, some (.ref st), r2, r3, r4, r5, r6, r7, r8, r9, none, none] H := by
  obtain ⟨_, _, Dr⟩ := Z.Dr
  obtain ⟨_, _, Tx⟩ := Z.Tx
  obtain ⟨_, _, La⟩ := Z.La
  obtain ⟨_, _, Mp, Gp, g, gV, kb, hg⟩ := Z.Mp
  obtain ⟨_, _, Gd, Md, Bd⟩ := Z.Ad
  obtain ⟨_, _, Ga, Ma, Ba⟩ := Z.Ag
  obtain ⟨_, _, Gf, Mf, Bf⟩ := Z.Fh
  have T := Z.T
  have cP := Z.cP
  have zMax := Z.zMax
  have zMin := Z.zMin
  have hz6 : PySem.sizeLine = 16777216 := PySem.sizeLine_eq
  have hu : (X0 P w K mg base f cdv A0 outer s H0 E).A.units + 64 < cLine := hr.units
  have r1 := hr.mono (show 1 ≤ 9 by decide)
  have r3 := hr.mono (show 3 ≤ 9 by decide)
  have r5 := hr.mono (show 5 ≤ 9 by decide)
  have r6 := hr.mono (show 6 ≤ 9 by decide)
  have r7 := hr.mono (show 7 ≤ 9 by decide)
  refine ⟨_, pss_mid (ps_par (i := 3) (j := 4) (by rfl) scLaw.nd rfl rfl (by decide) rfl rfl (pa_cons (pe_op op_add pe_int (pe_call Dr.ok r1 rfl Dr.m Dr.k Dr.b .nil pass0 (pa_cons (pv 1) (pa_cons pe_int pa_nil)))) (pa_cons (pe_lc (own := [("_law_k", 10)]) (g := gName 10) (tt := tYes) rfl scLaw.nd (pi_range1 rfl T.range (pa_cons pe_int pa_nil)) (blkOk_by (N := nLaw) (sc := defScope sLaw) (by decide +kernel)) (fun _ _ _ _ _ => pg_name (i := 10) scLaw.nd rfl (Or.inl rfl)) (fun _ _ _ _ _ => pts_nil) (fun _ _ _ _ _ => pe_call Tx.ok r3 rfl Tx.m Tx.k Tx.b .nil pass0 (pa_cons (pv 1) pa_nil))) pa_nil)) (by rfl))
    (pss_mid (ps_set (i := 5) scLaw.nd rfl (Or.inl rfl) (pe_makeK Mp Gp r6 rfl Z.mP kb pass0 (pa_cons pe_str pa_nil) (pk_cons (pv 3) (pk_cons (pe_ix ix_list (pv 4) pe_int (fun _ _ => rfl)) (pk_cons pe_bl pk_nil)))))
    (pss_mid (ps_expr (pe_meth (pv 5) cP.cl Md Gd hr Bd .nil pass0 (pa_cons (pe_lst (pa_cons pe_str pa_nil)) (pa_cons (pe_disp (pps_cons pe_str pe_str (pps_cons pe_str (pe_ix ix_list (pv 4) pe_int (fun _ _ => rfl)) pps_nil)) rfl rfl (by simp) (by decide)) pa_nil))))
    (pss_mid (ps_expr (pe_meth (pv 5) cP.cl Ma Ga r5 Ba .nil pass0 (pa_cons pe_str (pa_cons (pe_ix ix_list (pv 4) pe_int (fun _ _ => rfl)) pa_nil))))
    (pss_mid (ps_set (i := 6) scLaw.nd rfl (Or.inl rfl) (pe_bm PySem.F.plainAttrs_str PySem.F.slot_str_split PySem.F.type_str_split mt_split (pe_slice sl_str (pe_meth0 (pv 5) cP.cl Mf Gf r7 Bf .nil pass0) po_none (po_some (pe_un un_neg pe_int))) (pa_cons pe_str pa_nil)))
    (pss_mid (ps_if (pt_cmpR (op_neD hu) (pe_bm PySem.F.plainAttrs_str PySem.F.slot_str_split PySem.F.type_str_split mt_split (pe_ix ix_list (pv 6) pe_int (fun _ _ => rfl)) (pa_cons pe_str pa_nil)) (pe_call La.ok r1 rfl La.m La.k La.b .nil pass0 (pa_cons (pe_ix ix_list (pv 4) pe_int (fun _ _ => rfl)) (pa_cons (pe_callB (call_max2 rfl) (by rfl) zMax (by decide +kernel) (pa_cons (pv 3) (pa_cons pe_int pa_nil))) pa_nil))) (nomark _)) pss_never pss_nil)
    (pss_mid (ps_set (i := 7) scLaw.nd rfl (Or.inr rfl) (pe_callB (call_min2 rfl) (by rfl) zMin (by decide +kernel) (pa_cons pe_int (pa_cons (pe_callB (call_max2 rfl) (by rfl) zMax (by decide +kernel) (pa_cons (pe_op op_sub (pv 3) pe_int) (pa_cons pe_int pa_nil))) pa_nil))))
    (pss_mid (ps_setLc (i := 8) (own := [("_law_row", 11)]) (g := gName 11) (tt := tYes) (te := tOp _ (tOp _ (tC (.str " ")) (tVar 7)) (tVar 11)) rfl scLaw.nd rfl rfl (sw_true rfl rfl rfl (by decide +kernel)) (pi_list (pe_call La.ok r1 rfl La.m La.k La.b .nil pass0 (pa_cons (pe_ix ix_list (pv 4) pe_int (fun _ _ => rfl)) (pa_cons (pe_callB (call_max2 rfl) (by rfl) zMax (by decide +kernel) (pa_cons (pe_op op_sub (pv 3) (pv 7)) (pa_cons pe_int pa_nil))) pa_nil)))) (blkOk_by (N := nLaw) (sc := defScope sLaw) (by decide +kernel)) (fun _ _ _ _ _ => pg_name (i := 11) scLaw.nd rfl (Or.inl rfl)) (fun _ _ _ _ _ => pts_nil) (fun _ _ _ _ _ => by exact pe_op op_add_str (pe_op XR.op_mulS pe_str (pv 7)) (pv 11)))
    (pss_mid (ps_if (pt_cmpR op_eq (pv 7) pe_int (nomark _)) (pss_one (ps_asg (pe_op op_add_str pe_str (pe_slice sl_str (pe_ix ix_list (pv 8) pe_int (fun _ _ => rfl)) (po_some pe_int) po_none)) (pg_sub (pv 8) pe_int set_list))) pss_nil)
    (pss_mid (ps_set (i := 9) scLaw.nd rfl (Or.inl rfl) (pe_op op_cat (pe_op op_cat (pe_lst (pa_cons pe_str pa_nil)) (pe_op op_rep (pe_lst (pa_cons pe_str pa_nil)) (pe_callTy call_int1 (by rfl) T.int (by decide +kernel) (pa_cons (pe_cmpR op_lt (pv 7) pe_int (nomark _)) pa_nil)))) (pv 8)))
    (pss_mid (ps_setLc (i := 8) (own := [("_law_row", 11)]) (g := gName 11) (tt := tYes) (te := tOp _ (tC (.str "  ")) (tVar 11)) rfl scLaw.nd rfl rfl (sw_true rfl rfl rfl (by decide +kernel)) (pi_list (pe_call La.ok r1 rfl La.m La.k La.b .nil pass0 (pa_cons (pe_ix ix_list (pv 4) pe_int (fun _ _ => rfl)) (pa_cons (pe_op op_sub (pe_callB (call_max2 rfl) (by rfl) zMax (by decide +kernel) (pa_cons (pe_op op_sub (pv 3) pe_int) (pa_cons pe_int pa_nil))) pe_int) pa_nil)))) (blkOk_by (N := nLaw) (sc := defScope sLaw) (by decide +kernel)) (fun _ _ _ _ _ => pg_name (i := 11) scLaw.nd rfl (Or.inl rfl)) (fun _ _ _ _ _ => pts_nil) (fun _ _ _ _ _ => by exact pe_op op_add_str pe_str (pv 11)))
    (pss_mid (ps_if (PW.pt (pw_or (pt_cmpR (op_neD hu) (pe_bm PySem.F.plainAttrs_str PySem.F.slot_str_split PySem.F.type_str_split mt_split (pe_ix ix_list (pv 6) pe_int (fun _ _ => rfl)) (pa_cons pe_str pa_nil)) (pv 9) (nomark _)) (pw_or1 (pt_cmpR (op_neD hu) (pe_bm PySem.F.plainAttrs_str PySem.F.slot_str_split PySem.F.type_str_split mt_split (pe_ix ix_list (pv 6) pe_int (fun _ _ => rfl)) (pa_cons pe_str pa_nil)) (pe_op op_cat (pe_lst (pa_cons pe_str pa_nil)) (pv 8)) (nomark _))))) pss_never pss_nil)
    (pss_one (ps_if (XLitM.pt_cmpG op_ne (XLitM.peg_bm PySem.F.plainAttrs_str PySem.F.slot_str_join PySem.F.type_str_join mt_join (pa_cons (pe_bm0 PySem.F.plainAttrs_str PySem.F.slot_str_split PySem.F.type_str_split mt_words (pe_ix ix_list (pv 6) pe_int (fun _ _ => rfl))) pa_nil)) (CwR.pet_replC (pe_ix ix_list (pv 4) pe_int (fun _ _ => rfl))) (nomark _)) pss_never pss_nil))))))))))))), ?_⟩
  intro D H sc q2 q3 q4 q5 q6 q7 q8 q9 st cl n S hn k
  -- texts
  refine ⟨fun σ' H' => ∃ (wd : Nat) (L : Addr) (d h x : Str) (wsD wsH wsX : List Str) (n1 : Nat), σ' = [sc, some (.ref st), q2, some (.int (wd : Int)), some (.ref L), q5, q6, q7, q8, q9, none, none] ∧ 1 ≤ wd ∧ wd ≤ 40 ∧ TX d wsD ∧ TX h wsH ∧ TX x wsX ∧ H' L = some (.lst [.str d, .str h, .str x]) ∧ Strm H' st cl n1 ∧ n1 ≤ n + 120, ?_, ?_⟩
  · refine ⟨_, rfl, st, cl, n, 40, rfl, S, by decide, by decide, by omega, fun j H1 j0 j1 S1 k1 => ⟨_, _, rfl, rfl, ?_⟩⟩
    refine ⟨3, rfl, by decide, by decide, fun L hL => ?_⟩
    have nL := S1.fr hL
    refine lc_range (lo := 0) (n := 3) (fun m H' => ∃ (ts : List Str) (n' : Nat), Strm H' st cl n' ∧ n' ≤ n + 2 + 30 * m ∧ H' L = some (.lst (ts.map V.str)) ∧ ts.length = m ∧ ∀ t ∈ ts, ∃ ws, TX t ws) ⟨[], n + 1, S1.keep (same_upd hL), by omega, upd_same, rfl, fun t z => nomatch z⟩ (fun m H' hm h => ?_) (fun H' h => ?_)
    · obtain ⟨ts, n', Si, hn', hLi, hl, hts⟩ := h
      refine ⟨rfl, _, rfl, st, cl, n', rfl, Si, by omega, fun t ws n2 H3 ht S3 hn2 k3 => ?_⟩
      refine ⟨_, k3 _ _ hLi nL.1 nL.2, (by rw [List.length_map]; omega), ts ++ [t], n2, S3.up nL, by omega, ?_, by rw [List.length_append, hl]; rfl, fun x hx => ?_⟩
      · rw [upd_same, List.map_append]
        rfl
      · rcases List.mem_append.mp hx with hx | hx
        · exact hts x hx
        · rw [List.mem_singleton.mp hx]
          exact ⟨ws, ht⟩
    · obtain ⟨ts, n', Si, hn', hLi, hl, hts⟩ := h
      match ts, hl, hLi, hts with
      | [d, h, x], _, hLi, hts =>
        obtain ⟨wsD, tD⟩ := hts d (by simp)
        obtain ⟨wsH, tH⟩ := hts h (by simp)
        obtain ⟨wsX, tX⟩ := hts x (by simp)
        obtain ⟨wd, hwd⟩ : ∃ wd : Nat, 1 + j = (wd : Int) := ⟨(1 + j).toNat, by omega⟩
        exact ⟨_, _, rfl, wd, L, d, h, x, wsD, wsH, wsX, n', by rw [← hwd]; rfl, by omega, by omega, tD, tH, tX, hLi, Si, by omega⟩
  rintro _ H1 ⟨wd, L, d, h, x, wsD, wsH, wsX, n1, rfl, hw1, hw2, tD, tH, tX, hL, S1, hn1⟩
  have lD := tD.len
  have lH := tH.len
  have lX := tX.len
  -- the parser
  refine ⟨fun σ' H' => ∃ (p dx la lf le dd ls s0 s1 m0 m1 fi : Addr), σ' = [sc, some (.ref st), q2, some (.int (wd : Int)), some (.ref L), some (.ref p), q6, q7, q8, q9, none, none] ∧ ParAt CP CS ⟨p, dx, la, lf, le, dd, ls, s0, s1, m0, m1, aL, fi, true, "-", true, "p", .non, .str d, .non, (wd : Int)⟩ H' [] [] [] [] ∧ (∀ y ∈ [ls, m1, s1, m0, s0, dd, le, lf, la], H1 y = none) ∧ Same H1 H', ?_, ?_⟩
  · refine ⟨_, rfl, _, rfl, L, _, 0, _, rfl, rfl, SqL.of hL, atI_nat (j := 0) rfl, rfl, rfl, fun x0 dx hx hdx ne => ?_⟩
    rw [hg]
    refine ⟨x0, dx, "p", "-", "error", .non, .str d, .non, wd, true, true, (by omega), sg_min, (by decide), rfl, upd_same, .inl rfl, fun la lf le dd ls s0 s1 m0 m1 H' N => ⟨rfl, ?_⟩⟩
    obtain ⟨fi, a1, a2, a3⟩ := par_at (same_upd2 (same_upd hdx) (by rw [upd_ne ne.symm]; exact hx)) hx N
    exact ⟨x0, dx, la, lf, le, dd, ls, s0, s1, m0, m1, fi, rfl, a1, a2, a3⟩
  rintro _ H2 ⟨p, dx, la, lf, le, dd, ls, s0, s1, m0, m1, fi, rfl, PA, hnew, e2⟩
  have hL2 := e2 _ _ hL
  -- the option
  refine ⟨fun σ' H' => ∃ (A : Addr) (kvs : List (Key × V)), σ' = [sc, some (.ref st), q2, some (.int (wd : Int)), some (.ref L), some (.ref p), q6, q7, q8, q9, none, none] ∧ ParAt CP CS ⟨p, dx, la, lf, le, dd, ls, s0, s1, m0, m1, aL, fi, true, "-", true, "p", .non, .str d, .non, (wd : Int)⟩ H' kvs [.ref A] [] [.ref A] ∧ ArgC CA H' (.ref A) "-a" "a" h ∧ Same H1 H', ?_, ?_⟩
  · refine ⟨_, rfl, p, dx, _, rfl, PA.px, rfl, (by show 1 ≤ sizeLine; decide), fun F hF => ?_⟩
    have eF := same_upd (o := .lst [.str "-a"]) hF
    have hFg : (upd H2 F (.lst [.str "-a"])) F = some (.lst [.str "-a"]) := upd_same
    generalize upd H2 F (.lst [.str "-a"]) = G1 at eF hFg
    refine fun O hO => ?_
    have eO := same_upd (o := .dK []) hO
    refine ⟨_, rfl, L, _, 1, _, rfl, rfl, SqL.of (eO _ _ (eF _ _ hL2)), atI_nat (j := 1) rfl, upd_same, [(Sum.inr "action", .str "count"), (Sum.inr "help", .str h)], rfl, (by show 2 ≤ 15; decide), ?_⟩
    have hm : mergeK [] [((Sum.inr "action" : Key), V.str "count"), (Sum.inr "help", .str h)] = [((Sum.inr "action" : Key), V.str "count"), (Sum.inr "help", .str h)] := rfl
    rw [hm]
    have eO2 : Same G1 (upd (upd G1 O (.dK [])) O (.dK [((Sum.inr "action" : Key), V.str "count"), (Sum.inr "help", .str h)])) := same_mut eO hO
    have hOg : (upd (upd G1 O (.dK [])) O (.dK [((Sum.inr "action" : Key), V.str "count"), (Sum.inr "help", .str h)])) O = some (.dK [((Sum.inr "action" : Key), V.str "count"), (Sum.inr "help", .str h)]) := upd_same
    generalize upd (upd G1 O (.dK [])) O (.dK [((Sum.inr "action" : Key), V.str "count"), (Sum.inr "help", .str h)]) = G2 at eO2 hOg
    have eG := eF.trans eO2
    refine ⟨⟨p, dx, la, lf, le, dd, ls, s0, s1, m0, m1, aL, fi, true, "-", true, "p", .non, .str d, .non, (wd : Int)⟩, F, .ref O, [], [], [], [], ["-a"], true, "count", ldOf h, [], rfl, ⟨PA.keep eG, rfl, .inl (eO2 _ _ hFg), gv_a, .inr ⟨O, _, rfl, hOg, .cons ⟨rfl, .str _⟩ (.cons ⟨rfl, .str _⟩ .nil)⟩, nmd_a h, okO_a tH.so, (fun _ _ z => nomatch z), by decide, by decide, by decide, by decide⟩, fun A H' ad => ?_⟩
    obtain ⟨ns', ms', n1', n2', pa⟩ := ad.par
    have hf : flD "-" ["-a"] true "count" = (["-a"] : List Str) := flD_a
    rw [hf] at n1' n2'
    subst n1' n2'
    refine ⟨A, _, rfl, pa, argC_of tH ad.arg, fun b o hb => ?_⟩
    have hb2 := eG _ _ (e2 _ _ hb)
    have nw : ∀ y ∈ [ls, m1, s1, m0, s0, dd, le, lf, la], b ≠ y := fun y hy z => by
      have := hnew y hy
      rw [← z, hb] at this
      cases this
    exact ad.kp b o hb2 (nw la (by simp)) (nw lf (by simp)) (nw m0 (by simp)) (nw m1 (by simp))
  rintro _ H3 ⟨A, kvs, rfl, PB, hA, e3⟩
  have hL3 := e3 _ _ hL
  -- the group
  refine ⟨fun σ' H' => σ' = [sc, some (.ref st), q2, some (.int (wd : Int)), some (.ref L), some (.ref p), q6, q7, q8, q9, none, none] ∧ PHas CP CS CA H' p "p" d (wd : Int) aL la le ls [.ref A] [("-a", h)] (osL h x "") ∧ Same H1 H', ?_, ?_⟩
  · refine ⟨_, rfl, p, dx, _, rfl, PB.px, rfl, _, rfl, L, _, 2, _, rfl, rfl, SqL.of hL3, atI_nat (j := 2) rfl, ?_⟩
    refine ⟨p, aL, la, le, ls, "p", x, .non, .str d, .non, (wd : Int), [.ref s0, .ref s1], rfl, ⟨dx, _, _, _, _, _, _, _, PB.px⟩, PB.hls, (by show 2 ≤ 100; decide), fun g' H' kb' hg1 hg2 => ⟨rfl, ?_, fun b o hb => ?_⟩⟩
    · have hlsB := PB.hls
      have hop : Opts CA H3 [.ref A] [("-a", h)] := .cons ⟨"a", hA⟩ .nil
      have kk : ∀ {b : Addr} {u : HO}, H3 b = some u → u ≠ .lst [.ref s0, .ref s1] → H' b = some u := fun hb hu => kb_keep kb' hlsB hb hu
      obtain ⟨d0, v0, hs0⟩ := PB.hs0
      obtain ⟨d1, ⟨v1, ev1⟩, hs1⟩ := PB.hs1
      have hop' : Opts CA H' [.ref A] [("-a", h)] := .cons ⟨"a", hA.kb kb' hlsB⟩ .nil
      refine ⟨⟨dx, _, _, _, _, _, _, _, kk PB.px (fun z => nomatch z)⟩, kk PB.hla (fun z => nomatch z), hop', kk PB.hle (fun z => nomatch z), _, hg1, ?_⟩
      refine .cons ⟨⟨s0, d0, m0, _, v0, [], rfl, kk hs0 (fun z => nomatch z), kk PB.hm0 (fun z => nomatch z), .nil, by decide, fun z => z.elim (fun z => absurd rfl z) (fun z => absurd rfl z)⟩, fun p z => nomatch z⟩ (.cons ⟨⟨s1, d1, m1, _, v1, [.ref A], rfl, kk hs1 (fun z => nomatch z), kk PB.hm1 (fun z => nomatch z), hop', (by show 1 ≤ 50; decide), fun _ => ev1⟩, fun q hq => ?_⟩ (.cons hg2 .nil))
      rw [List.mem_singleton.mp hq]
      exact ⟨tH.no.1, words_ne tH⟩
    · exact kb' _ _ (e3 _ _ hb) fun z => by
        have := hnew ls (by simp)
        rw [← z, hb] at this
        cases this
  rintro _ H4 ⟨rfl, PH, e4⟩
  have hL4 := e4 _ _ hL
  -- the help
  refine ⟨fun σ' H' => ∃ Y, σ' = [sc, some (.ref st), q2, some (.int (wd : Int)), some (.ref L), some (.ref p), some (.ref Y), q7, q8, q9, none, none] ∧ H' Y = some (.lst (([Str.join "\n" (uRows wd), Str.join "\n" (rowsD d wd), Str.join "\n" (opRows h wd), Str.join "\n" (rowsT x wd)] : List Str).map V.str)) ∧ Same H1 H', ?_, ?_⟩
  · have hl := help_len (ti := "") tD tH tX hw2
    obtain ⟨y, s1', s2'⟩ := help_parts (ti := "") tD tH tX hw2 hl
    obtain ⟨vs', v1, v2⟩ := PH.ls
    obtain ⟨dx', pf, cf, ab, ee, fi', lf', dd', hP⟩ := PH.t.ex
    have hsl := strip_len y "\n"
    have hn1 : ("\n" : Str).length = 1 := rfl
    have hy : y.length ≤ 5000000 := sq_end s1' (by omega)
    refine ⟨_, rfl, p, dx', _, rfl, hP, rfl, p, aL, la, le, ls, "p", y, some d, none, wd, 1, 4, [.ref A], vs', [("-a", h)], osL h x "", rfl, PH.t, PH.la, PH.op, (by show 1 ≤ 4; decide), PH.le, v1, v2, (by show 3 ≤ 4; decide), ?_, hw1, (by omega), by decide, (fun z e => by cases e; omega), (fun z e => nomatch e), Z.hL, heads h x "", s1', fun H' e => ?_⟩
    · intro s hs
      simp only [osL, List.mem_cons, List.not_mem_nil, or_false] at hs
      rcases hs with rfl | rfl | rfl
      · exact ⟨by decide, by decide, fun z e => nomatch e⟩
      · exact ⟨by show 1 ≤ 2; decide, (by show ("options" : Str).length ≤ 100; decide), fun z e => nomatch e⟩
      · exact ⟨by show 0 ≤ 2; decide, (by show ("t" : Str).length ≤ 100; decide), fun z e => by cases e; omega⟩
    refine ⟨1, rfl, _, rfl, _, rfl, (by rw [Str.length_append, hn1]; omega), rfl, _, _, rfl, rfl, (by decide), ?_, fun Y hY => ?_⟩
    · have : (cutS (Txt.stripChars y "\n" ++ "\n") none (some (-1))).length ≤ 5000000 := by
        rw [cutS_init]
        omega
      omega
    rw [s2']
    exact ⟨Y, rfl, upd_same, e4.trans (e.trans (same_upd hY))⟩
  rintro _ H5 ⟨Y, rfl, hY, e5⟩
  have hL5 := e5 _ _ hL
  obtain ⟨d1, d2⟩ := d_len (wd := wd) tD
  obtain ⟨o1, o2⟩ := op_len (wd := wd) tH
  obtain ⟨t1, t2⟩ := t_len (wd := wd) tX
  obtain ⟨rd1, rd2⟩ := rowsD_ok (wd := wd) tD
  -- the description
  refine ⟨fun σ' H' => σ' = [sc, some (.ref st), q2, some (.int (wd : Int)), some (.ref L), some (.ref p), some (.ref Y), q7, q8, q9, none, none] ∧ Same H5 H', ?_, ?_⟩
  · refine ⟨_, rfl, Y, _, 1, _, rfl, rfl, SqL.of hY, atI_nat (j := 1) rfl, rfl, _, _, rfl, rfl, (by decide), jlen d1 d2 (by decide), fun R hR => ?_⟩
    rw [rows_split rd1 rd2]
    have eR := same_upd (o := .lst ((rowsD d wd).map V.str)) hR
    have hRg : (upd H5 R (.lst ((rowsD d wd).map V.str))) R = some (.lst ((rowsD d wd).map V.str)) := upd_same
    generalize upd H5 R (.lst ((rowsD d wd).map V.str)) = G1 at eR hRg
    refine ⟨_, rfl, L, _, 0, _, rfl, rfl, SqL.of (eR _ _ hL5), atI_nat (j := 0) rfl, _, rfl, _, _, rfl, ?_⟩
    refine ⟨d, wsD, max wd 11, congrArg (fun i => [V.str d, V.int i]) ?_, tD, (by omega), (by omega), fun R2 H6 e6 hR20 hR2 => ?_⟩
    · show (if (11 : Int) > wd then (11 : Int) else wd) = ((max wd 11 : Nat) : Int)
      split <;> omega
    have hz0 : laidF (max wd 11) wsD = rowsD d wd := by
      unfold rowsD
      rw [tD.words]
      congr 1
      unfold sizeOf
      split <;> omega
    rw [hz0] at hR2
    have hsh : SeqAt.shaped (.list ((rowsD d wd).map PyData.str)) = true := strs_shapedL (rows_so' tD)
    refine ⟨_, _, .lst (SqL.of (e6 _ _ hRg)) (dpAll_strs _), .lst (SqL.of hR2) (dpAll_strs _), hsh, hsh, ?_⟩
    rw [eqv_self hsh]
    exact ⟨_, rfl, iteF ⟨rfl, eR.trans e6⟩⟩
  rintro _ H6 ⟨rfl, e6⟩
  have hL6 := e6 _ _ hL5
  have hY6 := e6 _ _ hY
  have hc := colW_is wd
  -- the column
  refine ⟨fun σ' H' => σ' = [sc, some (.ref st), q2, some (.int (wd : Int)), some (.ref L), some (.ref p), some (.ref Y), some (.int (colW wd : Int)), q8, q9, none, none] ∧ H6 = H', ?_, ?_⟩
  · have hcv : (if (if (4 : Int) > (wd : Int) - 20 then (4 : Int) else (wd : Int) - 20) < 6 then (if (4 : Int) > (wd : Int) - 20 then (4 : Int) else (wd : Int) - 20) else 6) = (colW wd : Int) := by
      rw [hc.1]
      repeat' split
      all_goals omega
    rw [← hcv]
    exact ⟨_, rfl, _, _, rfl, rfl, _, _, rfl, _, _, rfl, rfl, rfl⟩
  rintro _ _ ⟨rfl, rfl⟩
  obtain ⟨mo, sl⟩ := sps_ok (colW wd) (by omega)
  have hsl : (sps (colW wd)).length = colW wd := sps_len (by omega)
  obtain ⟨l0, l1⟩ := rowL_ok (wd := wd) tH
  have hz1 : 1 ≤ rsz wd (colW wd) ∧ rsz wd (colW wd) ≤ 60 := by
    unfold rsz
    omega
  obtain ⟨l2, l3⟩ := laid_lens hz1.1 lH
  have l2' : (rowL h (colW wd) wd).length ≤ 412 := l2
  have l3' : ∀ r ∈ rowL h (colW wd) wd, r.length ≤ 411 := l3
  have hrl : laidF (rsz wd (colW wd)) wsH = rowL h (colW wd) wd := by
    unfold rowL
    rw [tH.words]
  -- rows
  refine ⟨fun σ' H' => ∃ R, σ' = [sc, some (.ref st), q2, some (.int (wd : Int)), some (.ref L), some (.ref p), some (.ref Y), some (.int (colW wd : Int)), some (.ref R), q9, none, none] ∧ H' R = some (.lst ((rowL h (colW wd) wd).map fun l => V.str (sps (colW wd) ++ l))) ∧ H6 R = none ∧ Same H6 H', ?_, ?_⟩
  · refine ⟨_, rfl, L, _, 1, _, rfl, rfl, SqL.of hL6, atI_nat (j := 1) rfl, ?_⟩
    refine ⟨_, rfl, _, rfl, _, _, rfl, rfl, _, _, rfl, h, wsH, rsz wd (colW wd), congrArg (fun i => [V.str h, V.int i]) ?_, tH, hz1.1, hz1.2, fun R2 H7 e7 hR20 hR2 => ?_⟩
    · unfold rsz
      split <;> omega
    rw [hrl] at hR2
    refine ⟨R2, rfl, ⟨_, SqL.of hR2⟩, fun Dl hD => ?_⟩
    refine lc_list (K := K) (a := R2) (xs := (rowL h (colW wd) wd).map V.str) (fun i H' => Same H7 H' ∧ H' Dl = some (.lst (((rowL h (colW wd) wd).take i).map fun l => V.str (sps (colW wd) ++ l)))) ⟨same_upd hD, upd_same⟩ (fun i H' _ h => SqL.of (h.1 _ _ hR2)) (fun i x H' hx h => ?_) (fun H' h => ?_)
    · obtain ⟨r, hr, rfl⟩ := str_at hx
      obtain ⟨g1, g2⟩ := h
      have hrm := l3' r (List.mem_of_getElem? hr)
      refine ⟨rfl, _, rfl, " ", (colW wd : Int), rfl, rfl, mo, _, rfl, _, _, rfl, rfl, ?_, _, g2, (by rw [List.length_map, List.length_take]; omega), same_mut g1 hD, ?_⟩
      · show (sps (colW wd)).length + r.length ≤ _
        omega
      · rw [upd_same, take_more' hr, List.map_append]
        rfl
    · obtain ⟨g1, g2⟩ := h
      rw [List.length_map, List.take_length] at g2
      exact ⟨Dl, rfl, g2, none_of' e7 hD, e7.trans g1⟩
  rintro _ H7 ⟨R, rfl, hR, hR0, e7⟩
  have hL7 := e7 _ _ hL6
  have hY7 := e7 _ _ hY6
  -- the first row
  refine ⟨fun σ' H' => σ' = [sc, some (.ref st), q2, some (.int (wd : Int)), some (.ref L), some (.ref p), some (.ref Y), some (.int (colW wd : Int)), some (.ref R), q9, none, none] ∧ H' R = some (.lst ((lawRows (rowL h (colW wd) wd) (colW wd)).map V.str)) ∧ Same H6 H', ?_, ?_⟩
  · have hlr : (rowL h (colW wd) wd).map (fun l => V.str (sps (colW wd) ++ l)) = ((rowL h (colW wd) wd).map fun l => sps (colW wd) ++ l).map V.str := by
      rw [List.map_map]
      rfl
    refine ⟨_, rfl, rfl, _, rfl, ite2 (fun h6 => ?_) (fun h6 => ?_)⟩
    · have h6' : colW wd = 6 := by
        have := V.int.inj (of_decide_eq_true h6)
        omega
      cases q : rowL h (colW wd) wd with
      | nil => exact absurd q l0
      | cons y ys =>
        rw [q, h6'] at hR
        have h6l : ("  -a  " : Str).length = 6 := by decide +kernel
        have hyl := l3' y (by rw [q]; exact List.mem_cons_self)
        have s6 : (sps 6).length = 6 := sps_len (by decide)
        have hcy : cutS (sps 6 ++ y) (some (6 : Int)) none = y := cutS_pre s6
        refine ⟨_, rfl, R, _, 0, _, rfl, rfl, SqL.of hR, atI_nat (j := 0) rfl, 6, rfl, _, rfl, ?_, _, _, rfl, rfl, ?_, _, rfl, R, _, 0, 0, rfl, rfl, hR, ?_, rfl, ?_, same_mut e7 hR0⟩
        · rw [Str.length_append, s6]
          omega
        · rw [hcy, h6l]
          omega
        · rw [List.map_cons, List.length_cons]
          unfold ixN
          simp
        · rw [upd_same, hcy, h6']
          unfold lawRows
          rw [if_pos rfl, List.map_cons, List.map_cons, List.map_map]
          rfl
    · have h6' : ¬ colW wd = 6 := fun z => h6 (decide_eq_true (by rw [z]; rfl))
      refine ⟨rfl, ?_, e7⟩
      unfold lawRows
      rw [if_neg h6', ← hlr]
      exact hR
  rintro _ H8 ⟨rfl, hR8, e8⟩
  have hL8 := e8 _ _ hL6
  have hY8 := e8 _ _ hY6
  -- what is due
  refine ⟨fun σ' H' => ∃ U, σ' = [sc, some (.ref st), q2, some (.int (wd : Int)), some (.ref L), some (.ref p), some (.ref Y), some (.int (colW wd : Int)), some (.ref R), some (.ref U), none, none] ∧ H' U = some (.lst ((opRows h wd).map V.str)) ∧ Same H8 H', ?_, ?_⟩
  · have hA : ("  -a" : Str).length = 4 := by decide +kernel
    obtain ⟨m1', m2'⟩ := lrow_len (ls := rowL h (colW wd) wd) (col := colW wd) (by omega) l3' l0
    refine ⟨(by show 1 ≤ sizeLine; decide), fun a1 h1 => ?_⟩
    have e1 := same_upd (o := .lst [.str "options:"]) h1
    have g1 : (upd H8 a1 (.lst [.str "options:"])) a1 = some (.lst [.str "options:"]) := upd_same
    generalize upd H8 a1 (.lst [.str "options:"]) = G1 at e1 g1
    refine ⟨(by show 1 ≤ sizeLine; decide), fun a2 h2 => ?_⟩
    have e2' := same_upd (o := .lst [.str "  -a"]) h2
    have g2 : (upd G1 a2 (.lst [.str "  -a"])) a2 = some (.lst [.str "  -a"]) := upd_same
    generalize upd G1 a2 (.lst [.str "  -a"]) = G2 at e2' g2
    have hrep : (List.replicate ((if decide ((colW wd : Int) < 6) = true then (1 : Int) else 0)).toNat [V.str "  -a"]).flatten = (if colW wd < 6 then [V.str "  -a"] else []) := by
      by_cases q : colW wd < 6
      · rw [if_pos q, decide_eq_true (by omega : (colW wd : Int) < 6)]
        rfl
      · rw [if_neg q, decide_eq_false (by omega : ¬ (colW wd : Int) < 6)]
        rfl
    have hkb : -(2 ^ 63) ≤ (if decide ((colW wd : Int) < 6) = true then (1 : Int) else 0) ∧ (if decide ((colW wd : Int) < 6) = true then (1 : Int) else 0) < 2 ^ 63 ∧ [V.str "  -a"].length * ((if decide ((colW wd : Int) < 6) = true then (1 : Int) else 0)).toNat ≤ sizeLine := by
      split
      · exact ⟨by decide, by decide, by show 1 ≤ sizeLine; decide⟩
      · exact ⟨by decide, by decide, by show 0 ≤ sizeLine; decide⟩
    refine ⟨_, rfl, _, _, rfl, rfl, .inr ⟨_, rfl, a2, _, _, rfl, rfl, g2, hkb.1, hkb.2.1, hkb.2.2, fun a3 h3 => ?_⟩⟩
    rw [hrep]
    have hl3 : (if colW wd < 6 then [V.str "  -a"] else []).length ≤ 1 := by
      split
      · exact Nat.le_refl _
      · exact Nat.zero_le _
    have e3' := same_upd (o := .lst (if colW wd < 6 then [V.str "  -a"] else [])) h3
    have g3 : (upd G2 a3 (.lst (if colW wd < 6 then [V.str "  -a"] else []))) a3 = some (.lst (if colW wd < 6 then [V.str "  -a"] else [])) := upd_same
    generalize upd G2 a3 (.lst (if colW wd < 6 then [V.str "  -a"] else [])) = G3 at e3' g3
    refine ⟨a1, a3, _, _, rfl, rfl, e3' _ _ (e2' _ _ g1), g3, (by show 1 + _ ≤ sizeLine; omega), fun a4 h4 => ?_⟩
    have e4' := same_upd (o := .lst ([.str "options:"] ++ if colW wd < 6 then [V.str "  -a"] else [])) h4
    have g4 : (upd G3 a4 (.lst ([.str "options:"] ++ if colW wd < 6 then [V.str "  -a"] else []))) a4 = some (.lst ([.str "options:"] ++ if colW wd < 6 then [V.str "  -a"] else [])) := upd_same
    generalize upd G3 a4 (.lst ([.str "options:"] ++ if colW wd < 6 then [V.str "  -a"] else [])) = G4 at e4' g4
    have eG := e1.trans (e2'.trans (e3'.trans e4'))
    refine ⟨_, rfl, a4, R, _, _, rfl, rfl, g4, eG _ _ hR8, (by rw [List.length_append, List.length_map]; show 1 + _ + _ ≤ sizeLine; omega), fun U hU => ⟨U, rfl, ?_, eG.trans (same_upd hU)⟩⟩
    rw [upd_same]
    unfold opRows
    rw [List.map_cons, List.map_append]
    congr 2
    show V.str "options:" :: ((if colW wd < 6 then [V.str "  -a"] else []) ++ _) = _
    congr 2
    split <;> rfl
  rintro _ H9 ⟨U, rfl, hU, e9⟩
  have hL9 := e9 _ _ hL8
  have hY9 := e9 _ _ hY8
  have hz2 : 1 ≤ sizeOf wd 2 ∧ sizeOf wd 2 ≤ 60 := by
    unfold sizeOf
    constructor <;> split <;> omega
  obtain ⟨x2, x3⟩ := laid_lens hz2.1 lX
  have hxl : laidF (sizeOf wd 2) wsX = laidF (sizeOf wd 2) (Txt.words x) := by
    rw [tX.words]
  generalize hLX : laidF (sizeOf wd 2) (Txt.words x) = LX at x2 x3 hxl
  have h2l : ("  " : Str).length = 2 := rfl
  -- the group's rows
  refine ⟨fun σ' H' => ∃ R, σ' = [sc, some (.ref st), q2, some (.int (wd : Int)), some (.ref L), some (.ref p), some (.ref Y), some (.int (colW wd : Int)), some (.ref R), some (.ref U), none, none] ∧ H' R = some (.lst (((LX.map fun l => ("  " : Str) ++ l)).map V.str)) ∧ Same H9 H', ?_, ?_⟩
  · refine ⟨_, rfl, L, _, 2, _, rfl, rfl, SqL.of hL9, atI_nat (j := 2) rfl, _, rfl, _, _, rfl, rfl, _, _, rfl, _, _, rfl, rfl, x, wsX, sizeOf wd 2, congrArg (fun i => [V.str x, V.int i]) ?_, tX, hz2.1, hz2.2, fun R2 H10 e10 hR20 hR2 => ?_⟩
    · unfold sizeOf
      split <;> omega
    rw [hxl] at hR2
    refine ⟨R2, rfl, ⟨_, SqL.of hR2⟩, fun Dl hD => ?_⟩
    refine lc_list (K := K) (a := R2) (xs := LX.map V.str) (fun i H' => Same H10 H' ∧ H' Dl = some (.lst (((LX.take i).map fun l => ("  " : Str) ++ l).map V.str))) ⟨same_upd hD, upd_same⟩ (fun i H' _ h => SqL.of (h.1 _ _ hR2)) (fun i x H' hx h => ?_) (fun H' h => ?_)
    · obtain ⟨r, hr, rfl⟩ := str_at hx
      obtain ⟨g1, g2⟩ := h
      have hrm := x3 r (List.mem_of_getElem? hr)
      refine ⟨rfl, _, rfl, _, _, rfl, rfl, (by rw [h2l]; omega), _, g2, (by rw [List.length_map, List.length_map, List.length_take]; omega), same_mut g1 hD, ?_⟩
      rw [upd_same, take_more' hr, List.map_append, List.map_append]
      rfl
    · obtain ⟨g1, g2⟩ := h
      rw [List.length_map, List.take_length] at g2
      exact ⟨Dl, rfl, g2, e10.trans g1⟩
  rintro _ H10 ⟨R', rfl, hR', e10⟩
  have hL10 := e10 _ _ hL9
  have hY10 := e10 _ _ hY9
  have hU10 := e10 _ _ hU
  -- both groups
  refine ⟨fun σ' H' => σ' = [sc, some (.ref st), q2, some (.int (wd : Int)), some (.ref L), some (.ref p), some (.ref Y), some (.int (colW wd : Int)), some (.ref R'), some (.ref U), none, none] ∧ Same H10 H', ?_, ?_⟩
  · refine ⟨_, rfl, Y, _, 2, _, rfl, rfl, SqL.of hY10, atI_nat (j := 2) rfl, rfl, _, _, rfl, rfl, (by decide), jlen o1 o2 (by decide), fun S hS => ?_⟩
    rw [rows_split (rows := opRows h wd) (by unfold opRows; simp) (opRows_ok tH)]
    have eS := same_upd (o := .lst ((opRows h wd).map V.str)) hS
    have hSg : (upd H10 S (.lst ((opRows h wd).map V.str))) S = some (.lst ((opRows h wd).map V.str)) := upd_same
    generalize upd H10 S (.lst ((opRows h wd).map V.str)) = G1 at eS hSg
    have hsh : SeqAt.shaped (.list ((opRows h wd).map PyData.str)) = true := strs_shapedL (so_op tH)
    refine ⟨_, rfl, _, _, .lst (SqL.of hSg) (dpAll_strs _), .lst (SqL.of (eS _ _ hU10)) (dpAll_strs _), hsh, hsh, ?_⟩
    rw [eqv_self hsh]
    refine ⟨_, rfl, iteF ⟨_, rfl, Y, _, 3, _, rfl, rfl, SqL.of (eS _ _ hY10), atI_nat (j := 3) rfl, rfl, _, _, rfl, rfl, (by decide), jlen t1 t2 (by decide), fun S2 hS2 => ?_⟩⟩
    rw [rows_split (rows := rowsT x wd) (by unfold rowsT; simp) (rowsT_ok tX).1]
    have eS2 := same_upd (o := .lst ((rowsT x wd).map V.str)) hS2
    have hSg2 : (upd G1 S2 (.lst ((rowsT x wd).map V.str))) S2 = some (.lst ((rowsT x wd).map V.str)) := upd_same
    generalize upd G1 S2 (.lst ((rowsT x wd).map V.str)) = G2 at eS2 hSg2
    refine ⟨(by show 1 ≤ sizeLine; decide), fun S3 hS3 => ?_⟩
    have eS3 := same_upd (o := .lst [.str "t:"]) hS3
    have hSg3 : (upd G2 S3 (.lst [.str "t:"])) S3 = some (.lst [.str "t:"]) := upd_same
    generalize upd G2 S3 (.lst [.str "t:"]) = G3 at eS3 hSg3
    have e13 := eS.trans (eS2.trans eS3)
    refine ⟨_, rfl, S3, R', _, _, rfl, rfl, hSg3, e13 _ _ hR', (by rw [List.length_map, List.length_map]; show 1 + _ ≤ sizeLine; omega), fun S4 hS4 => ?_⟩
    have hrt : ([V.str "t:"] ++ (LX.map fun l => ("  " : Str) ++ l).map V.str) = (rowsT x wd).map V.str := by
      unfold rowsT
      rw [hLX]
      rfl
    rw [hrt]
    have eS4 := same_upd (o := .lst ((rowsT x wd).map V.str)) hS4
    have hSg4 : (upd G3 S4 (.lst ((rowsT x wd).map V.str))) S4 = some (.lst ((rowsT x wd).map V.str)) := upd_same
    generalize upd G3 S4 (.lst ((rowsT x wd).map V.str)) = G4 at eS4 hSg4
    have hsh2 : SeqAt.shaped (.list ((rowsT x wd).map PyData.str)) = true := strs_shapedL (so_t tX)
    refine ⟨_, _, .lst (SqL.of (eS4 _ _ (eS3 _ _ hSg2))) (dpAll_strs _), .lst (SqL.of hSg4) (dpAll_strs _), hsh2, hsh2, ?_⟩
    rw [eqv_self hsh2]
    exact ⟨_, rfl, iteF ⟨rfl, e13.trans eS4⟩⟩
  rintro _ H11 ⟨rfl, e11⟩
  have hL11 := e11 _ _ hL10
  have hY11 := e11 _ _ hY10
  have eAll : Same H1 H11 := e5.trans (e6.trans (e8.trans (e9.trans (e10.trans e11))))
  -- no sign is lost
  have hww := StrLaws.words_weight (Str.join "\n" (rowsD d wd))
  have hjl := jlen (m := 412) d1 d2 (by decide)
  have hnb : Txt.join "" (Txt.words (Str.join "\n" (rowsD d wd))) = Txt.replace d " " "" := by
    unfold rowsD
    rw [tD.words]
    exact same_signs tD _
  have h0l : ("" : Str).length = 0 := rfl
  refine ⟨rfl, _, rfl, Y, _, 1, _, rfl, rfl, SqL.of hY11, atI_nat (j := 1) rfl, rfl, _, rfl, rfl, hjl, fun W hW => ?_⟩
  have eW := same_upd (o := .lst ((Txt.words (Str.join "\n" (rowsD d wd))).map V.str)) hW
  refine ⟨"", W, Txt.words (Str.join "\n" (rowsD d wd)), rfl, rfl, .inl (SqL.of upd_same), ?_, ?_⟩
  · rw [h0l, Nat.mul_zero]
    have : ((Txt.words (Str.join "\n" (rowsD d wd))).map (·.length)).sum ≤ wsm (Txt.words (Str.join "\n" (rowsD d wd))) := Nat.le_add_right _ _
    have hq : wsm (Txt.words (Str.join "\n" (rowsD d wd))) ≤ (Str.join "\n" (rowsD d wd)).length + 1 := hww
    omega
  rw [hnb]
  refine ⟨_, rfl, L, _, 0, _, rfl, rfl, SqL.of (eW _ _ hL11), atI_nat (j := 0) rfl, d, rfl, (by rw [h0l]; omega), ?_⟩
  exact ⟨rfl, _, rfl, iteF2 (by simp) (k _ _ _ _ _ _ _ _ n1 (S1.keep (eAll.trans eW)) (by omega))⟩
end
end K46

namespace K46
open PySem L2 PyProof PyProof.Rows XRuns XTight XStrip XStrV
def spLaw (K : PySem.W.Frag) : Sp := fun vs H Q _ => ∃ (a : Addr) (ns : List Int), vs = [.ref a] ∧ SqL K H a (ns.map V.int) ∧ ∀ H', Q (.bl true) H'
def xs_ (n : Nat) : Str := Txt.mul "x" (n : Int)
def lastD : Str := "a " ++ xs_ 26 ++ " b"
def lastR : Str := "a " ++ xs_ 9 ++ "\n" ++ xs_ 11 ++ "\n" ++ xs_ 6 ++ " b\n"
def osE : List Sct := [(none, "", []), (none, "options", [])]
theorem last_help : ∃ y, SqTo 0 (helpF "p" [] 1 (some lastD) osE none (colOf 0 1)) y ∧ (Txt.stripChars y "\n" ++ "\n").length ≤ 100 ∧ (Txt.split (Txt.stripChars y "\n" ++ "\n") "\n\n")[1]? = some lastR := by
  refine ⟨_, ⟨?_, rfl⟩, ?_, ?_⟩
  · decide +kernel
  · decide +kernel
  · decide +kernel
theorem headsE : ∀ m : Int, m ∈ nsOf osE → (∀ y ∈ nsOf osE, y ≤ m) → m = (0 : Nat) := by
  have e : nsOf osE = [0] := rfl
  rw [e]
  intro m hm _
  simpa using hm
section
variable {P : Program} {w : World} {K : PySem.W.Frag} {mg : Str → Option Value} {base : Heap}
theorem ok_law {f CP CS CA aP aL : Addr} {fd : FuncData} (F : Fun K "law" "law" sLaw f fd) (Z : Fns P w K mg base CP CS CA aP aL) : FnOk P w K mg base CX0 10 f fd ["_law_script"] (spLaw K) := by
  refine F.ok scLaw (fun vs H Q E h => ?_) (fun cdv A0 outer s H vs Q E hr h => ?_)
  · obtain ⟨a, ns, rfl, _⟩ := h
    rfl
  · obtain ⟨a, ns, rfl, hS, k⟩ := h
    have r1 := hr.mono (show 1 ≤ 9 by decide)
    have r6 := hr.mono (show 6 ≤ 9 by decide)
    have r7 := hr.mono (show 7 ≤ 9 by decide)
    obtain ⟨_, _, S⟩ := Z.St
    obtain ⟨_, _, Mp, Gp, g, gV, kb, hg⟩ := Z.Mp
    obtain ⟨_, _, Gf, Mf, Bf⟩ := Z.Fh
    have cP := Z.cP
    obtain ⟨tb, hb, rb⟩ := turn_walk (outer := outer) (H0 := H) (E := E) Z hr
    refine ⟨_, pss_mid (ps_set (i := 1) scLaw.nd rfl (Or.inr rfl) (pe_call S.ok r1 rfl S.m S.k S.b .nil pass0 (pa_cons (pv 0) pa_nil)))
      (pss_mid (ps_for PassesOwn.never rfl (pi_range1 rfl Z.T.range (pa_cons pe_int pa_nil)) (pg_name (i := 2) scLaw.nd rfl (Or.inl rfl)) hb)
      (pss_mid (ps_set (i := 5) scLaw.nd rfl (Or.inl rfl) (pe_makeK Mp Gp r6 rfl Z.mP kb pass0 (pa_cons pe_str pa_nil) (pk_cons pe_int (pk_cons pe_str (pk_cons pe_bl pk_nil)))))
      (pss_one (ps_ret (pe_cmpR op_eq (pe_ix ix_list (pe_bm PySem.F.plainAttrs_str PySem.F.slot_str_split PySem.F.type_str_split mt_split (pe_meth0 (pv 5) cP.cl Mf Gf r7 Bf .nil pass0) (pa_cons pe_str pa_nil)) pe_int (fun _ _ => rfl)) pe_str (nomark _)))))), ?_⟩
    refine ⟨fun σ' H' => ∃ st cl : Addr, σ' = [some (.ref a), some (.ref st), none, none, none, none, none, none, none, none, none, none] ∧ Strm H' st cl 0, ?_, ?_⟩
    · exact ⟨_, rfl, a, ns, rfl, hS, fun st cl H' n1 n2 e S' => ⟨st, cl, rfl, S'⟩⟩
    rintro _ H1 ⟨st, cl, rfl, S1⟩
    refine ⟨fun σ' H' => ∃ (r2 r3 r4 r5 r6 r7 r8 r9 : Option V), σ' = [some (.ref a), some (.ref st), r2, r3, r4, r5, r6, r7, r8, r9, none, none], ?_, ?_⟩
    · refine ⟨5, rfl, by decide, by decide, ?_⟩
      refine for_range (lo := 0) (n := 5) (fun i σ' H' => ∃ (r2 r3 r4 r5 r6 r7 r8 r9 : Option V) (n : Nat), σ' = [some (.ref a), some (.ref st), r2, r3, r4, r5, r6, r7, r8, r9, none, none] ∧ Strm H' st cl n ∧ n ≤ 200 * i) ⟨none, none, none, none, none, none, none, none, 0, rfl, S1, Nat.zero_le _⟩ ?_ (fun _ _ ⟨r2, r3, r4, r5, r6, r7, r8, r9, _, h, _⟩ => ⟨r2, r3, r4, r5, r6, r7, r8, r9, h⟩)
      rintro i σ' H' hi ⟨r2, r3, r4, r5, r6, r7, r8, r9, n, rfl, S', hn⟩
      exact rb _ H' _ _ r3 r4 r5 r6 r7 r8 r9 st cl n S' (by omega) fun r3 r4 r5 r6 r7 r8 r9 H2 n' S2 hn2 => ⟨_, r3, r4, r5, r6, r7, r8, r9, n', rfl, S2, by omega⟩
    rintro _ H2 ⟨r2, r3, r4, r5, r6, r7, r8, r9, rfl⟩
    -- a long word
    refine ⟨fun σ' H' => ∃ (p la le ls : Addr) (D : Str), D = lastD ∧ σ' = [some (.ref a), some (.ref st), r2, r3, r4, some (.ref p), r6, r7, r8, r9, none, none] ∧ PHas CP CS CA H' p "p" D (1 : Int) aL la le ls [] [] osE, ?_, ?_⟩
    · refine ⟨rfl, rfl, fun x0 dx hx hdx ne => ?_⟩
      rw [hg]
      refine ⟨x0, dx, "p", "-", "error", .non, _, .non, 1, true, true, (by omega), sg_min, (by decide), rfl, upd_same, .inl rfl, fun la lf le dd ls s0 s1 m0 m1 H' N => ⟨rfl, ?_⟩⟩
      obtain ⟨fi, a1, a2, a3⟩ := par_at (same_upd2 (same_upd hdx) (by rw [upd_ne ne.symm]; exact hx)) hx N
      have sc := secs (CA := CA) (fls := []) a1 .nil (by decide) (fun _ z => nomatch z)
      exact ⟨x0, la, le, ls, _, (by decide +kernel), rfl, ⟨⟨dx, _, _, _, _, _, _, _, a1.px⟩, a1.hla, .nil, a1.hle, _, a1.hls, .cons sc.1 (.cons sc.2 .nil)⟩⟩
    rintro _ H3 ⟨p, la, le, ls, D, hD, rfl, PH⟩
    subst hD
    obtain ⟨vs', v1, v2⟩ := PH.ls
    obtain ⟨dx', pf, cf, ab, ee, fi', lf', dd', hP⟩ := PH.t.ex
    obtain ⟨y, s1, s2, s3⟩ := last_help
    refine ⟨_, rfl, p, dx', _, rfl, hP, rfl, p, aL, la, le, ls, "p", y, some lastD, none, 1, 0, 0, [], vs', [], osE, rfl, PH.t, PH.la, PH.op, (by decide), PH.le, v1, v2, (by decide), ?_, (by decide), (by decide), (by decide), (fun z e => by cases e; decide +kernel), (fun z e => nomatch e), Z.hL, headsE, s1, fun H' e => ?_⟩
    · intro s hs
      simp only [osE, List.mem_cons, List.not_mem_nil, or_false] at hs
      rcases hs with rfl | rfl
      · exact ⟨by decide, by decide, fun z e => nomatch e⟩
      · exact ⟨by decide, by decide, fun z e => nomatch e⟩
    refine ⟨rfl, _, _, rfl, rfl, (by decide), (by rw [PySem.sizeLine_eq]; omega), fun W hW => ?_⟩
    have gen : ∀ b : Bool, ∀ H', b = true → Q (.bl b) H' := fun b H' h => by
      rw [h]
      exact k _
    refine ⟨W, _, 1, _, rfl, rfl, SqL.of upd_same, atI_nat (j := 1) (v := .str lastR) ?_, ?_⟩
    · rw [List.getElem?_map, s3]
      rfl
    · exact ⟨rfl, gen _ _ (decide_eq_true (congrArg V.str (by decide +kernel)))⟩
end
end K46

namespace K46
open PySem PySem.Spec PyProof.Rows L2
/-! ### the head: facts by names, the run -/
/-- the keyword default x of the def at f, if it is an object -/
def kwAt (f : Str × Option Str) (x : Str) (K : PySem.W.Frag) : Addr := match K.lookup (He.fAd K f) with
  | some ⟨_, _, .func fd, _⟩ => (match fd.kwdefaults with
    | .ref D => (match PySem.W.nsIn K D x with
      | some (some (.ref a)) => a
      | _ => 0)
    | _ => 0)
  | _ => 0
def nilB (K : PySem.W.Frag) (a : Addr) : Bool := match K.lookup a with
  | some ⟨.type c, _, .seq its _, _⟩ => decide (c = "tuple") && its.isEmpty
  | _ => false
theorem nilB_ok {K : PySem.W.Frag} {a : Addr} (h : nilB K a = true) : (∀ H : Hp, SqT K H a []) ∧ ∀ H : Hp, TyX K H (.ref a) (.type "tuple") := by
  unfold nilB at h
  cases q : K.lookup a with
  | none =>
    rw [q] at h
    cases h
  | some o =>
    obtain ⟨oc, od, dt, osl⟩ := o
    rw [q] at h
    cases oc with
    | type c =>
      cases dt with
      | seq its n =>
        obtain ⟨h1, h2⟩ := Bool.and_eq_true_iff.mp (show (decide (c = "tuple") && its.isEmpty) = true from h)
        have e1 : c = "tuple" := of_decide_eq_true h1
        have e2 : its = #[] := Array.isEmpty_iff.mp h2
        subst e1 e2
        exact ⟨fun H => .inr ⟨_, #[], n, q, rfl, rfl, Nat.zero_le _, .nil⟩, fun H => .kTuple q rfl⟩
      | _ => cases h
    | _ => cases dt <;> cases h
def d_cop : He.DefD := ⟨("copied", none), "copied", "copied", defArgs sCop, defBody sCop, defScope sCop, [], []⟩
def d_isr : He.DefD := ⟨("is_row", none), "is_row", "is_row", defArgs sIsRow, defBody sIsRow, defScope sIsRow, [], []⟩
def d_isi : He.DefD := ⟨("is_integer", none), "is_integer", "is_integer", defArgs sIsInt, defBody sIsInt, defScope sIsInt, [], []⟩
def d_isv : He.DefD := ⟨("is_value", none), "is_value", "is_value", defArgs sIsVal, defBody sIsVal, defScope sIsVal, [], []⟩
def d_isk : He.DefD := ⟨("is_kind", none), "is_kind", "is_kind", defArgs sIsKind, defBody sIsKind, defScope sIsKind, [], []⟩
def d_key : He.DefD := ⟨("keys_of", none), "keys_of", "keys_of", defArgs sKeys, defBody sKeys, defScope sKeys, [], []⟩
def d_isf : He.DefD := ⟨("is_flag", none), "is_flag", "is_flag", defArgs sIsFlag, defBody sIsFlag, defScope sIsFlag, [], []⟩
def d_gap : He.DefD := ⟨("has_gap", none), "has_gap", "has_gap", defArgs sHasGap, defBody sHasGap, defScope sHasGap, [], []⟩
def d_chk : He.DefD := ⟨("checked_flags", none), "checked_flags", "checked_flags", defArgs sChkFlags, defBody sChkFlags, defScope sChkFlags, [], []⟩
def d_nam : He.DefD := ⟨("named", none), "named", "named", defArgs sNamed, defBody sNamed, defScope sNamed, [], []⟩
def d_wif : He.DefD := ⟨("with_fellows", none), "with_fellows", "with_fellows", defArgs sWithF, defBody sWithF, defScope sWithF, [], []⟩
def d_fit : He.DefD := ⟨("fits_metavar", none), "fits_metavar", "fits_metavar", defArgs sFits, defBody sFits, defScope sFits, [], []⟩
def d_cw : He.DefD := ⟨("check_words", none), "check_words", "check_words", defArgs sChkWords, defBody sChkWords, defScope sChkWords, [], []⟩
def d_co : He.DefD := ⟨("check_options", none), "check_options", "check_options", defArgs sChkOpts, defBody sChkOpts, defScope sChkOpts, [], []⟩
def d_dfl : He.DefD := ⟨("default_of", none), "default_of", "default_of", defArgs sDflt, defBody sDflt, defScope sDflt, [], []⟩
def d_mad : He.DefD := ⟨("made_argument", none), "made_argument", "made_argument", defArgs sMadeArg, defBody sMadeArg, defScope sMadeArg, [], []⟩
def d_sig : He.DefD := ⟨("is_signs", none), "is_signs", "is_signs", defArgs sIsSigns, defBody sIsSigns, defScope sIsSigns, [], []⟩
def d_sho : He.DefD := ⟨("is_shown", none), "is_shown", "is_shown", defArgs sIsShown, defBody sIsShown, defScope sIsShown, [], []⟩
def d_cho : He.DefD := ⟨("choices_of", none), "choices_of", "choices_of", defArgs sChoicesOf, defBody sChoicesOf, defScope sChoicesOf, [], []⟩
def d_wiw : He.DefD := ⟨("with_words", none), "with_words", "with_words", defArgs sWithWords, defBody sWithWords, defScope sWithWords, [], []⟩
def d_hea : He.DefD := ⟨("head_of", none), "head_of", "head_of", defArgs sHeadOf, defBody sHeadOf, defScope sHeadOf, [], []⟩
def d_bar : He.DefD := ⟨("bare_part", none), "bare_part", "bare_part", defArgs sBarePart, defBody sBarePart, defScope sBarePart, [], []⟩
def d_pto : He.DefD := ⟨("part_of", none), "part_of", "part_of", defArgs sPartOf, defBody sPartOf, defScope sPartOf, [], []⟩
def d_tak : He.DefD := ⟨("taken", none), "taken", "taken", defArgs sTaken, defBody sTaken, defScope sTaken, [], []⟩
def d_usl : He.DefD := ⟨("usage_lines", none), "usage_lines", "usage_lines", defArgs sUsageLines, defBody sUsageLines, defScope sUsageLines, [], []⟩
def d_pao : He.DefD := ⟨("parts_of", none), "parts_of", "parts_of", defArgs sPartsOf, defBody sPartsOf, defScope sPartsOf, [], []⟩
def d_ust : He.DefD := ⟨("usage_text", none), "usage_text", "usage_text", defArgs sUsageText, defBody sUsageText, defScope sUsageText, [], []⟩
def d_val : He.DefD := ⟨("values_of", none), "values_of", "values_of", defArgs sValuesOf, defBody sValuesOf, defScope sValuesOf, [], []⟩
def d_hsw : He.DefD := ⟨("has_words", none), "has_words", "has_words", defArgs sHasWords, defBody sHasWords, defScope sHasWords, [], []⟩
def d_hlo : He.DefD := ⟨("help_of", none), "help_of", "help_of", defArgs sHelpOf, defBody sHelpOf, defScope sHelpOf, [], []⟩
def d_fil : He.DefD := ⟨("filled_in", none), "filled_in", "filled_in", defArgs sFilled, defBody sFilled, defScope sFilled, [], []⟩
def d_lai : He.DefD := ⟨("laid_out", none), "laid_out", "laid_out", defArgs sLaidOut, defBody sLaidOut, defScope sLaidOut, [], []⟩
def d_des : He.DefD := ⟨("described", none), "described", "described", defArgs sDescribed, defBody sDescribed, defScope sDescribed, [], []⟩
def d_squ : He.DefD := ⟨("squeezed", none), "squeezed", "squeezed", defArgs sSqueezed, defBody sSqueezed, defScope sSqueezed, [], []⟩
def d_ser : He.DefD := ⟨("section_rows", none), "section_rows", "section_rows", defArgs sSecRows, defBody sSecRows, defScope sSecRows, [], []⟩
def d_rot : He.DefD := ⟨("row_text", none), "row_text", "row_text", defArgs sRowText, defBody sRowText, defScope sRowText, [], []⟩
def d_set : He.DefD := ⟨("section_text", none), "section_text", "section_text", defArgs sSecText, defBody sSecText, defScope sSecText, [], []⟩
def d_foh : He.DefD := ⟨("format_help_helping", none), "format_help", "format_help", defArgs sFormatHelp, defBody sFormatHelp, defScope sFormatHelp, [], []⟩
def d_drw : He.DefD := ⟨("_law_draw", none), "_law_draw", "_law_draw", defArgs sDraw, defBody sDraw, defScope sDraw, [], []⟩
def d_sta : He.DefD := ⟨("_law_start", none), "_law_start", "_law_start", defArgs sStart, defBody sStart, defScope sStart, [], []⟩
def d_pck : He.DefD := ⟨("_law_pick", none), "_law_pick", "_law_pick", defArgs sPick, defBody sPick, defScope sPick, [], []⟩
def d_txt : He.DefD := ⟨("_law_text", none), "_law_text", "_law_text", defArgs sTextL, defBody sTextL, defScope sTextL, [], []⟩
def d_lla : He.DefD := ⟨("_law_t_laid", none), "_law_t_laid", "_law_t_laid", defArgs sLaidL, defBody sLaidL, defScope sLaidL, [], []⟩
def d_law : He.DefD := ⟨("law", none), "law", "law", defArgs sLaw, defBody sLaw, defScope sLaw, [], []⟩
def d_argI : He.DefD := ⟨("Argument", some "__init__"), "__init__", "Argument.__init__", defArgs sArgI, defBody sArgI, defScope sArgI, [], []⟩
def d_secI : He.DefD := ⟨("Section", some "__init__"), "__init__", "Section.__init__", defArgs sSecI, defBody sSecI, defScope sSecI, [], []⟩
def d_adt : He.DefD := ⟨("Parser", some "add_to"), "add_to", "Parser.add_to", defArgs sAddTo, defBody sAddTo, defScope sAddTo, [], []⟩
def d_joi : He.DefD := ⟨("Parser", some "join"), "join", "Parser.join", defArgs sJoin, defBody sJoin, defScope sJoin, [], []⟩
def d_pfh : He.DefD := ⟨("Parser", some "format_help"), "format_help", "Parser.format_help", defArgs sParFH, defBody sParFH, defScope sParFH, [], []⟩
def d_add : He.DefD := ⟨("Parser", some "add_argument"), "add_argument", "Parser.add_argument", defArgs sAdd, defBody sAdd, defScope sAdd, [.non], []⟩
def d_adg : He.DefD := ⟨("Parser", some "add_argument_group"), "add_argument_group", "Parser.add_argument_group", defArgs sAddGroup, defBody sAddGroup, defScope sAddGroup, [.non, .non], []⟩
def d_parI : He.DefD := ⟨("Parser", some "__init__"), "__init__", "Parser.__init__", defArgs sParI, defBody sParI, defScope sParI, [.str "program"], [("usage", .non), ("description", .non), ("epilog", .non), ("parents", .adr (kwAt ("Parser", some "__init__") "parents")), ("layout", .adr (kwAt ("Parser", some "__init__") "layout")), ("width", .int 78), ("prefix_chars", .str "-"), ("fromfile_prefix_chars", .str ""), ("files", .non), ("argument_default", .non), ("conflict_handler", .str "error"), ("add_help", .bl true), ("allow_abbrev", .bl true), ("exit_on_error", .bl true)]⟩
def fn : List He.DefD := [d_cop, d_isr, d_isi, d_isv, d_isk, d_key, d_isf, d_gap, d_chk, d_nam, d_wif, d_fit, d_cw, d_co, d_dfl, d_mad, d_sig, d_sho, d_cho, d_wiw, d_hea, d_bar, d_pto, d_tak, d_usl, d_pao, d_ust, d_val, d_hsw, d_hlo, d_fil, d_lai, d_des, d_squ, d_ser, d_rot, d_set, d_foh, d_drw, d_sta, d_pck, d_txt, d_lla, d_law, d_argI, d_secI, d_adt, d_joi, d_pfh, d_add, d_adg, d_parI]
def fa : List He.Fa := [.free "int", .free "list", .free "tuple", .free "len", .free "isinstance", .free "dict", .free "sorted", .free "all", .free "zip", .free "range", .free "bool", .free "str", .free "any", .free "enumerate", .free "max", .free "min", .glo "copied", .glo "is_row", .glo "is_integer", .glo "is_value", .glo "is_kind", .glo "keys_of", .glo "is_flag", .glo "has_gap", .glo "checked_flags", .glo "named", .glo "with_fellows", .glo "fits_metavar", .glo "check_words", .glo "check_options", .glo "default_of", .glo "made_argument", .glo "is_signs", .glo "is_shown", .glo "choices_of", .glo "with_words", .glo "head_of", .glo "bare_part", .glo "part_of", .glo "taken", .glo "usage_lines", .glo "parts_of", .glo "usage_text", .glo "values_of", .glo "has_words", .glo "help_of", .glo "filled_in", .glo "laid_out", .glo "described", .glo "squeezed", .glo "section_rows", .glo "row_text", .glo "section_text", .glo "format_help_helping", .glo "_law_draw", .glo "_law_start", .glo "_law_pick", .glo "_law_text", .glo "_law_t_laid", .glo "law", .glo "Parser", .glo "Argument", .glo "Section", .glo "WITH_WORDS", .glo "WITH_CONST", .glo "WITHOUT", .glo "WORD_COUNTS", .glo "LISTS", .glo "ALWAYS", .str "SUPPRESS" "==SUPPRESS==", .str "VERSION_HELP" "show program's version number and exit", .str "NO_SIGNS" "abcdefghijklmnopqrstuvwxyzABCDEFGHIJKLMNOPQRSTUVWXYZ0123456789 \n=", .str "START" "usage: ", .cls "Parser", .mkr "Parser", .noat "Parser" "prog", .noat "Parser" "usage", .noat "Parser" "description", .noat "Parser" "epilog", .noat "Parser" "layout", .noat "Parser" "width", .noat "Parser" "prefix_chars", .noat "Parser" "file_signs", .noat "Parser" "files", .noat "Parser" "argument_default", .noat "Parser" "conflict_handler", .noat "Parser" "allow_abbrev", .noat "Parser" "exit_on_error", .noat "Parser" "arguments", .noat "Parser" "flags", .noat "Parser" "exclusives", .noat "Parser" "defaults", .noat "Parser" "commands_argument", .noat "Parser" "sections", .cls "Argument", .mkr "Argument", .noat "Argument" "flags", .noat "Argument" "dest", .noat "Argument" "action", .noat "Argument" "is_option", .noat "Argument" "nargs", .noat "Argument" "const", .noat "Argument" "default", .noat "Argument" "kind", .noat "Argument" "choices", .noat "Argument" "required", .noat "Argument" "help", .noat "Argument" "metavar", .noat "Argument" "version", .noat "Argument" "commands", .noat "Argument" "fellows", .cls "Section", .mkr "Section", .noat "Section" "home", .noat "Section" "title", .noat "Section" "description", .noat "Section" "members", .meth "Parser" "add_argument", .meth "Parser" "add_to", .meth "Parser" "join", .meth "Parser" "add_argument_group", .meth "Parser" "format_help"]
def ex (K : PySem.W.Frag) : Bool := He.tupB K "WITH_WORDS" [.str "store", .str "append", .str "extend"] && (He.tupB K "WITH_CONST" [.str "store_const", .str "append_const"] && (He.tupB K "WITHOUT" [.str "store_true", .str "store_false", .str "count", .str "yes_no"] && (He.tupB K "WORD_COUNTS" [.str "?", .str "*", .str "+", .str "..."] && (He.tupB K "LISTS" [.str "append", .str "append_const", .str "extend"] && (He.tupB K "ALWAYS" [.str "action", .str "dest", .str "help"] && (nilB K (kwAt ("Parser", some "__init__") "parents" K) && (nilB K (kwAt ("Parser", some "__init__") "layout" K))))))))
def loose0 : List PySem.Str := ["_wall", "OptError", "BadParser", "BadArgument", "Conflict", "CommandsTwice", "Exit", "SUPPRESS", "is_integer", "is_row", "is_value", "copied", "is_kind", "kind_name", "WITH_WORDS", "WITH_CONST", "WITHOUT", "WORD_COUNTS", "LISTS", "ALWAYS", "VERSION_HELP", "Argument", "keys_of", "is_flag", "has_gap", "checked_flags", "named", "with_fellows", "fits_metavar", "check_words"]
def loose1 : List PySem.Str := ["check_options", "default_of", "made_argument", "is_shown", "choices_of", "braced", "shown_names", "words_of", "with_words", "head_of", "filled_in", "has_words", "laid_out", "kept_lines", "described", "squeezed", "START", "bare_part", "part_of", "marked_places", "parts_of", "taken", "usage_lines", "usage_text", "format_usage", "format_usage_usage", "DEFAULT", "tells_default", "values_of", "help_of"]
def loose2 : List PySem.Str := ["command_rows", "section_rows", "row_text", "section_text", "format_help", "format_help_helping", "section_like", "section_with", "take_over", "Exclusive", "Section", "LAYOUTS", "LETTERS", "NO_SIGNS", "is_signs", "Parser", "_law_t_laid", "_law_draw", "_law_start", "_law_pick", "_law_text"]
def loose : List PySem.Str := loose0 ++ loose1 ++ loose2
abbrev R : PySem.W.OpenRow := PySem.W.OpenLaw.row PySem.Challenge.rw_optwright_k46_long_words_cut
/-- every object that the top leaves -/
def asN : List Addr := List.range 757
def obsA (g : Addr → Option Obj) : He.AlD × Bool := (He.obsD fa fn (He.frG g asN), ex (He.frG g asN))
def hk : PySem.W.Hook where
  α := He.AlD × Bool
  obs := fun s => obsA s.heap.get?
  val := fun _ => (He.valD fn, true)
  says := fun _ h => ∃ K : PySem.W.Frag, K.In h ∧ He.SaysD fa fn K ∧ ex K = true
  of := fun _ _ e => ⟨_, He.frG_in, congrArg (fun z : He.AlD × Bool => z.1) e, congrArg (fun z : He.AlD × Bool => z.2) e⟩
  keeps := fun _ _ _ ⟨K, hK, c⟩ k => ⟨K, PySem.W.Frag.In.keeps hK k, c⟩
def ob (s : PySem.W.SharedT) : He.AlD × Bool := obsA (HandSHeadRun.getT s)
theorem ob_eq (s : PySem.W.SharedT) : ob s = hk.obs s.abs := by
  have e : HandSHeadRun.getT s = s.abs.heap.get? := funext (HandSHeadRun.getT_eq s)
  show obsA (HandSHeadRun.getT s) = obsA s.abs.heap.get?
  rw [e]
end K46

open PySem PySem.W PySem.Calls PyProof.Rows
namespace K46
/-! what is asked of the text beside the walk -/
theorem s1 : opening R.prog = plainProg R.prog.main.scope.names := by kernel_rfl
theorem s2 (s : Shared) : fenceModules? R.prog s = some s := by kernel_rfl
theorem s3 : defOf (view R.prog [92]) R.name = some ((HandSHeadRun.topDef R.prog 92), []) := by kernel_rfl
theorem s4 : R.prog.theDef R.name = some ((HandSHeadRun.topDef R.prog 92).params, (HandSHeadRun.topDef R.prog 92).body, (HandSHeadRun.topDef R.prog 92).scope) := by kernel_rfl
theorem s5 : kwWritten? (HandSHeadRun.topDef R.prog 92).params.kwonlyargs (HandSHeadRun.topDef R.prog 92).params.kw_defaults = some [] := by kernel_rfl
theorem s6 : (chainsOk (view R.prog [92]) && opensWell R.prog && (frees R.toRowW && R.within.isEmpty)) = true := by decide +kernel
theorem s7 : R.prog.bare := ⟨rfl, rfl, rfl, rfl, rfl, by decide +kernel⟩
/-- the law, but for its walk -/
theorem head (run : ∀ w, XTop.RunTop R (view (OpenLaw.row PySem.Challenge.rw_optwright_k46_long_words_cut).prog [92]) hk 12000 loose w) (call : WalkO (view (OpenLaw.row PySem.Challenge.rw_optwright_k46_long_words_cut).prog [92]) K46.loose (XL (view (OpenLaw.row PySem.Challenge.rw_optwright_k46_long_words_cut).prog [92]) []) K46.hk.says (OpenLaw.row PySem.Challenge.rw_optwright_k46_long_words_cut).toRowW (HandSHeadRun.topDef (OpenLaw.row PySem.Challenge.rw_optwright_k46_long_words_cut).prog 92) [] fun f vs => PySem.call f vs) : PySem.Challenge.rw_optwright_k46_long_words_cut.Holds := by
  w_on; o_law
  refine XTop.head_top (r := OpenLaw.row PySem.Challenge.rw_optwright_k46_long_words_cut) (q := view (OpenLaw.row PySem.Challenge.rw_optwright_k46_long_words_cut).prog [92]) (H := K46.hk) (M := 12000) (loose := K46.loose) (d := HandSHeadRun.topDef (OpenLaw.row PySem.Challenge.rw_optwright_k46_long_words_cut).prog 92) (kwd := [])
    s1 s2 run s3 s4 s5 (by rfl) (by first | assumption | decide +kernel) s6 s7 ?hw call
  case hw => w_witness2
end K46

/-! short words for the objects that a top leaves -/
namespace XLit
open PySem L2
abbrev S (s : String) (t : Nat) : Value := .str (Str.ofString s) t
abbrev R (a : Nat) : Value := .ref a
abbrev I (i : Int) : Value := .int i 0
abbrev V : Value := .none
def sr : Nat → List String → List Value
  | _, [] => []
  | k, x :: r => S x k :: sr (k + 1) r
def tr : List (Nat × Nat × Nat) → List Value
  | [] => []
  | (a, b, c) :: r => I (Int.ofNat a) :: I (Int.ofNat b) :: R c :: tr r
def tp (l : List Value) : Obj := ⟨.type "tuple", none, .seq ⟨l⟩ 0, ⟨[]⟩⟩
def ts (k : Nat) (l : List String) : Obj := tp (sr k l)
def fl (l : List Value) : Obj := ⟨.none, none, .fields ⟨l⟩, ⟨[]⟩⟩
def ct (l : List (Nat × Nat × Nat)) : Obj := fl (tr l)
def ft (n q : String) (s : Stmt) : Obj := ⟨.none, none, .func ⟨Str.ofString n, Str.ofString q, defArgs s, .stmts (defBody s), defScope s, 0, [], .none, .none, .none, .none, none, .none, .none, 0⟩, ⟨[]⟩⟩
def fu (n q : String) (s : Stmt) (cl : List (Str × Addr)) (df kd pm : Value) (c : Nat) (cv : Value) : Obj := ⟨.type "function", none, .func ⟨Str.ofString n, Str.ofString q, defArgs s, .stmts (defBody s), defScope s, 3, cl, df, kd, .none, pm, none, R c, cv, 0⟩, ⟨[]⟩⟩
def co (n q : String) (k l a po kw fg v : Nat) (b : Bool) (z : Nat) (c : Nat) (x y u : Value) (t : Nat) : Obj := ⟨.type "code", none, .fields ⟨[S n k, S q (k + 1), S "/claim/cut.py" (k + 2), I (Int.ofNat l), I (Int.ofNat a), I (Int.ofNat po), I (Int.ofNat kw), I (Int.ofNat fg), R v, .bool b, I (Int.ofNat z), R c, V, x, y, u, I (Int.ofNat t), I (Int.ofNat l), S "/claim/cut.py" (t + 1)]⟩, ⟨[]⟩⟩
abbrev E (P : Params) (s : String) (t : Nat) (v : Value) : DictEntry := ⟨PyData.keyHash P (Str.ofString s), S s t, v⟩
def di (l : List DictEntry) (n : Nat) : Obj := ⟨.type "dict", none, .dict ⟨l⟩ n, ⟨[]⟩⟩
def ob (t : String) (l : List Value) : Obj := ⟨.type t, none, .fields ⟨l⟩, ⟨[]⟩⟩
def ce (v : Value) : Obj := ⟨.type "cell", none, .cell (some v), ⟨[]⟩⟩
/-! the tree of a list: the head, then those at odd places, those at even places -/
def od : List Obj → List Obj
  | x :: _ :: r => x :: od r
  | [x] => [x]
  | [] => []
def ev : List Obj → List Obj
  | _ :: y :: r => y :: ev r
  | [_] => []
  | [] => []
def bt : Nat → List Obj → PySem.W.BT
  | 0, _ => .nil
  | _ + 1, [] => .nil
  | d + 1, x :: r => .node x (bt d (od r)) (bt d (ev r))
end XLit

namespace K46Z
open PySem L2 XLit
open K46 (top)
/-! ### the objects that the top leaves -/
def z0 (P : Params) : List Obj := [
di [E P "__name__" 1 (S "builtins" 160), E P "__doc__" 2 (.builtin "builtins.__doc__:str#opaque"), E P "__package__" 3 (.builtin "builtins.__package__:str#opaque"), E P "__loader__" 4 (.builtin "builtins.__loader__:shared#opaque"), E P "__spec__" 5 (.builtin "builtins.__spec__#opaque"), E P "__build_class__" 6 (.builtin "__build_class__"), E P "__import__" 7 (.builtin "__import__"), E P "abs" 8 (.builtin "abs"), E P "all" 9 (.builtin "all"), E P "any" 10 (.builtin "any"), E P "ascii" 11 (.builtin "ascii"), E P "bin" 12 (.builtin "bin"), E P "breakpoint" 13 (.builtin "breakpoint"), E P "callable" 14 (.builtin "callable"), E P "chr" 15 (.builtin "chr"), E P "compile" 16 (.builtin "compile"), E P "delattr" 17 (.builtin "delattr"), E P "dir" 18 (.builtin "dir"), E P "divmod" 19 (.builtin "divmod"), E P "eval" 20 (.builtin "eval"), E P "exec" 21 (.builtin "exec"), E P "format" 22 (.builtin "format"), E P "getattr" 23 (.builtin "getattr"), E P "globals" 24 (.builtin "globals"), E P "hasattr" 25 (.builtin "hasattr"), E P "hash" 26 (.builtin "hash"), E P "hex" 27 (.builtin "hex"), E P "id" 28 (.builtin "id"), E P "input" 29 (.builtin "input"), E P "isinstance" 30 (.builtin "isinstance"), E P "issubclass" 31 (.builtin "issubclass"), E P "iter" 32 (.builtin "iter"), E P "aiter" 33 (.builtin "aiter"), E P "len" 34 (.builtin "len"), E P "locals" 35 (.builtin "locals"), E P "max" 36 (.builtin "max"), E P "min" 37 (.builtin "min"), E P "next" 38 (.builtin "next"), E P "anext" 39 (.builtin "anext"), E P "oct" 40 (.builtin "oct"), E P "ord" 41 (.builtin "ord"), E P "pow" 42 (.builtin "pow"), E P "print" 43 (.builtin "print"), E P "repr" 44 (.builtin "repr"), E P "round" 45 (.builtin "round"), E P "setattr" 46 (.builtin "setattr"), E P "sorted" 47 (.builtin "sorted"), E P "sum" 48 (.builtin "sum"), E P "vars" 49 (.builtin "vars"), E P "None" 50 V, E P "Ellipsis" 51 .ellipsis, E P "NotImplemented" 52 .notImplemented, E P "False" 53 (.bool false), E P "True" 54 (.bool true), E P "bool" 55 (.type "bool"), E P "memoryview" 56 (.type "memoryview"), E P "bytearray" 57 (.type "bytearray"), E P "bytes" 58 (.type "bytes"), E P "classmethod" 59 (.type "classmethod"), E P "complex" 60 (.type "complex"), E P "dict" 61 (.type "dict"), E P "enumerate" 62 (.type "enumerate"), E P "filter" 63 (.type "filter"), E P "float" 64 (.type "float"), E P "frozenset" 65 (.type "frozenset"), E P "property" 66 (.type "property"), E P "int" 67 (.type "int"), E P "list" 68 (.type "list"), E P "map" 69 (.type "map"), E P "object" 70 (.type "object"), E P "range" 71 (.type "range"), E P "reversed" 72 (.type "reversed"), E P "set" 73 (.type "set"), E P "slice" 74 (.type "slice"), E P "staticmethod" 75 (.type "staticmethod"), E P "str" 76 (.type "str"), E P "super" 77 (.type "super"), E P "tuple" 78 (.type "tuple"), E P "type" 79 (.type "type"), E P "zip" 80 (.type "zip"), E P "__debug__" 81 (.bool true), E P "BaseException" 82 (.type "BaseException"), E P "BaseExceptionGroup" 83 (.type "BaseExceptionGroup"), E P "Exception" 84 (.type "Exception"), E P "GeneratorExit" 85 (.type "GeneratorExit"), E P "KeyboardInterrupt" 86 (.type "KeyboardInterrupt"), E P "SystemExit" 87 (.type "SystemExit"), E P "ArithmeticError" 88 (.type "ArithmeticError"), E P "AssertionError" 89 (.type "AssertionError"), E P "AttributeError" 90 (.type "AttributeError"), E P "BufferError" 91 (.type "BufferError"), E P "EOFError" 92 (.type "EOFError"), E P "ImportError" 93 (.type "ImportError"), E P "LookupError" 94 (.type "LookupError"), E P "MemoryError" 95 (.type "MemoryError"), E P "NameError" 96 (.type "NameError"), E P "OSError" 97 (.type "OSError"), E P "ReferenceError" 98 (.type "ReferenceError"), E P "RuntimeError" 99 (.type "RuntimeError"), E P "StopAsyncIteration" 100 (.type "StopAsyncIteration"), E P "StopIteration" 101 (.type "StopIteration"), E P "SyntaxError" 102 (.type "SyntaxError"), E P "SystemError" 103 (.type "SystemError"), E P "TypeError" 104 (.type "TypeError"), E P "ValueError" 105 (.type "ValueError"), E P "Warning" 106 (.type "Warning"), E P "FloatingPointError" 107 (.type "FloatingPointError"), E P "OverflowError" 108 (.type "OverflowError"), E P "ZeroDivisionError" 109 (.type "ZeroDivisionError"), E P "BytesWarning" 110 (.type "BytesWarning"), E P "DeprecationWarning" 111 (.type "DeprecationWarning"), E P "EncodingWarning" 112 (.type "EncodingWarning"), E P "FutureWarning" 113 (.type "FutureWarning"), E P "ImportWarning" 114 (.type "ImportWarning"), E P "PendingDeprecationWarning" 115 (.type "PendingDeprecationWarning"), E P "ResourceWarning" 116 (.type "ResourceWarning"), E P "RuntimeWarning" 117 (.type "RuntimeWarning"), E P "SyntaxWarning" 118 (.type "SyntaxWarning"), E P "UnicodeWarning" 119 (.type "UnicodeWarning"), E P "UserWarning" 120 (.type "UserWarning"), E P "BlockingIOError" 121 (.type "BlockingIOError"), E P "ChildProcessError" 122 (.type "ChildProcessError"), E P "ConnectionError" 123 (.type "ConnectionError"), E P "FileExistsError" 124 (.type "FileExistsError"), E P "FileNotFoundError" 125 (.type "FileNotFoundError"), E P "InterruptedError" 126 (.type "InterruptedError"), E P "IsADirectoryError" 127 (.type "IsADirectoryError"), E P "NotADirectoryError" 128 (.type "NotADirectoryError"), E P "PermissionError" 129 (.type "PermissionError"), E P "ProcessLookupError" 130 (.type "ProcessLookupError"), E P "TimeoutError" 131 (.type "TimeoutError"), E P "IndentationError" 132 (.type "IndentationError"), E P "_IncompleteInputError" 133 (.type "_IncompleteInputError"), E P "IndexError" 134 (.type "IndexError"), E P "KeyError" 135 (.type "KeyError"), E P "ModuleNotFoundError" 136 (.type "ModuleNotFoundError"), E P "NotImplementedError" 137 (.type "NotImplementedError"), E P "PythonFinalizationError" 138 (.type "PythonFinalizationError"), E P "RecursionError" 139 (.type "RecursionError"), E P "UnboundLocalError" 140 (.type "UnboundLocalError"), E P "UnicodeError" 141 (.type "UnicodeError"), E P "BrokenPipeError" 142 (.type "BrokenPipeError"), E P "ConnectionAbortedError" 143 (.type "ConnectionAbortedError"), E P "ConnectionRefusedError" 144 (.type "ConnectionRefusedError"), E P "ConnectionResetError" 145 (.type "ConnectionResetError"), E P "TabError" 146 (.type "TabError"), E P "UnicodeDecodeError" 147 (.type "UnicodeDecodeError"), E P "UnicodeEncodeError" 148 (.type "UnicodeEncodeError"), E P "UnicodeTranslateError" 149 (.type "UnicodeTranslateError"), E P "ExceptionGroup" 150 (.type "ExceptionGroup"), E P "EnvironmentError" 151 (.type "OSError"), E P "IOError" 152 (.type "OSError"), E P "open" 153 (.builtin "open"), E P "quit" 154 (.builtin "builtins.quit#opaque"), E P "exit" 155 (.builtin "builtins.exit#opaque"), E P "copyright" 156 (.builtin "builtins.copyright#opaque"), E P "credits" 157 (.builtin "builtins.credits#opaque"), E P "license" 158 (.builtin "builtins.license#opaque"), E P "help" 159 (.builtin "builtins.help#opaque")] 159,
di [E P "builtins" 162 (R 4), E P "__main__" 163 (R 5)] 2,
⟨V, none, .dict ⟨[]⟩ 0, ⟨[]⟩⟩,
di [E P "__name__" 165 (S "law_optwright_k46_long_words_cut" 1214), E P "__doc__" 166 V, E P "__package__" 167 V, E P "__loader__" 168 (.builtin "__main__.__loader__#opaque"), E P "__spec__" 169 V, E P "__annotations__" 170 (R 6), E P "__builtins__" 171 (R 4), E P "__file__" 173 (S "/claim/cut.py" 172), E P "__cached__" 174 V, E P "_wall" 193 (R 21), E P "OptError" 213 (R 31), E P "BadParser" 240 (R 53), E P "BadArgument" 267 (R 74), E P "Conflict" 294 (R 95), E P "CommandsTwice" 319 (R 116), E P "Exit" 350 (R 137), E P "SUPPRESS" 354 (S "==SUPPRESS==" 353), E P "is_integer" 361 (R 146), E P "is_row" 368 (R 153), E P "is_value" 374 (R 158), E P "copied" 380 (R 163), E P "is_kind" 387 (R 170), E P "kind_name" 394 (R 177), E P "WITH_WORDS" 400 (R 178), E P "WITH_CONST" 403 (R 179), E P "WITHOUT" 408 (R 180), E P "WORD_COUNTS" 413 (R 181), E P "LISTS" 417 (R 182), E P "ALWAYS" 421 (R 183), E P "VERSION_HELP" 423 (S "show program's version number and exit" 422), E P "Argument" 476 (R 207), E P "keys_of" 483 (R 218), E P "is_flag" 491 (R 225), E P "has_gap" 497 (R 230), E P "checked_flags" 503 (R 235), E P "named" 509 (R 240), E P "with_fellows" 515 (R 245), E P "fits_metavar" 521 (R 250), E P "check_words" 532 (R 257), E P "check_options" 538 (R 262), E P "default_of" 549 (R 269), E P "made_argument" 555 (R 274), E P "is_shown" 564 (R 281), E P "choices_of" 570 (R 286), E P "braced" 577 (R 293), E P "shown_names" 585 (R 300), E P "words_of" 597 (R 307), E P "with_words" 606 (R 314), E P "head_of" 614 (R 321), E P "filled_in" 629 (R 328), E P "has_words" 636 (R 335), E P "laid_out" 648 (R 342), E P "kept_lines" 656 (R 349), E P "described" 662 (R 354), E P "squeezed" 669 (R 361), E P "START" 673 (S "usage: " 672), E P "bare_part" 682 (R 368), E P "part_of" 691 (R 375), E P "marked_places" 697 (R 380), E P "parts_of" 703 (R 385), E P "taken" 716 (R 392), E P "usage_lines" 728 (R 399), E P "usage_text" 734 (R 404), E P "format_usage" 741 (R 411), E P "format_usage_usage" 742 (R 411), E P "DEFAULT" 746 (S "{default}" 745), E P "tells_default" 753 (R 418), E P "values_of" 763 (R 425), E P "help_of" 772 (R 432), E P "command_rows" 786 (R 439), E P "section_rows" 796 (R 446), E P "row_text" 802 (R 451), E P "section_text" 808 (R 456), E P "format_help" 814 (R 461), E P "format_help_helping" 815 (R 461), E P "section_like" 827 (R 468), E P "section_with" 833 (R 473), E P "take_over" 850 (R 480), E P "Exclusive" 895 (R 505), E P "Section" 947 (R 542), E P "LAYOUTS" 954 (R 547), E P "LETTERS" 956 (S "abcdefghijklmnopqrstuvwxyzABCDEFGHIJKLMNOPQRSTUVWXYZ" 955), E P "NO_SIGNS" 959 (S "abcdefghijklmnopqrstuvwxyzABCDEFGHIJKLMNOPQRSTUVWXYZ0123456789 \n=" 958), E P "is_signs" 965 (R 552), E P "Parser" 1213 (R 716), E P "_law_t_laid" 1221 (R 725), E P "_law_draw" 1231 (R 732), E P "_law_start" 1238 (R 739), E P "_law_pick" 1246 (R 746), E P "_law_text" 1252 (R 751), E P "law" 1258 (R 756)] 91,
⟨(.type "module"), (some 0), .plain, ⟨[]⟩⟩,
⟨(.type "module"), (some 3), .plain, ⟨[]⟩⟩,
di [] 0,
tp [],
ct [],
co "<module>" "<module>" 176 1 0 0 0 0 7 false 175 8 V V V 179,
⟨(.type "frame"), none, .plain, ⟨[(some (R 9)), (some (R 3)), (some (R 3)), none, (some (S "__main__" 164)), none, (some (R 0))]⟩⟩,
tp [],
ct [(1, 0, 20), (5, 0, 27), (7, 0, 41), (12, 0, 62), (17, 0, 83), (22, 0, 104), (26, 0, 125), (35, 0, 145), (37, 0, 152), (39, 0, 157), (43, 0, 162), (47, 0, 169), (53, 0, 176), (65, 0, 189), (91, 0, 217), (99, 0, 224), (101, 0, 229), (103, 0, 234), (111, 0, 239), (123, 0, 244), (129, 0, 249), (138, 0, 256), (152, 0, 261), (170, 0, 268), (180, 0, 273), (203, 0, 280), (205, 0, 285), (209, 0, 292), (211, 0, 299), (219, 0, 306), (235, 0, 313), (237, 0, 320), (242, 0, 327), (255, 0, 334), (257, 0, 341), (274, 0, 348), (277, 0, 353), (284, 0, 360), (290, 0, 367), (297, 0, 374), (302, 0, 379), (307, 0, 384), (320, 0, 391), (330, 0, 398), (340, 0, 403), (352, 0, 410), (357, 0, 417), (361, 0, 424), (370, 0, 431), (378, 0, 438), (386, 0, 445), (394, 0, 450), (404, 0, 455), (409, 0, 460), (424, 0, 467), (429, 0, 472), (431, 0, 479), (450, 0, 486), (460, 0, 515), (477, 0, 551), (481, 0, 558), (594, 0, 724), (605, 0, 731), (618, 0, 738), (620, 0, 745), (622, 0, 750), (625, 0, 755)],
co "<module>" "<module>" 182 1 0 0 0 0 11 false 181 12 V V V 185,
⟨(.type "frame"), none, .plain, ⟨[(some (R 13)), (some (R 3)), (some (R 3)), none, (some (S "__main__" 164)), none, (some (R 0))]⟩⟩,
tp [],
ct [],
ts 190 ["k"],
tp [],
ft "_wall" "_wall" (top 0),
co "_wall" "_wall" 187 1 1 0 0 3 15 true 181 16 (R 17) (R 18) (R 19) 191,
fu "_wall" "_wall" (top 0) [] V V (S "__main__" 164) 20 V,
tp [(.type "ValueError")],
ob "builtin_function_or_method" [(.builtin "type.__prepare__"), (.type "type")],
di [E P "__module__" 203 (S "optwright.errors" 194), E P "__qualname__" 205 (S "OptError" 204), E P "__firstlineno__" 207 (.int 5 206), E P "__static_attributes__" 208 (R 29)] 4,
tp [],
ct [],
co "OptError" "OptError" 198 5 0 0 0 0 25 false 181 26 V V V 201,
⟨(.type "frame"), none, .plain, ⟨[(some (R 27)), (some (R 3)), (some (R 24)), none, (some (S "optwright.errors" 194)), none, (some (R 0))]⟩⟩,
tp [],
di [E P "__module__" 203 (S "optwright.errors" 194), E P "__firstlineno__" 207 (.int 5 206), E P "__static_attributes__" 208 (R 29), E P "__weakref__" 210 (R 32), E P "__doc__" 211 V] 3,
⟨(.type "type"), none, .cls ⟨"OptError", [(.type "ValueError")], [(R 31), (.type "ValueError"), (.type "Exception"), (.type "BaseException"), (.type "object")], 30, "OptError", true, [], [(R 53), (R 74), (R 95), (R 116), (R 137)], false, none, false⟩, ⟨[(some (R 22)), none, (some (S "OptError" 196)), (some (S "OptError" 204)), (some (.builtin "ValueError.__new__")), (some (.bool true))]⟩⟩,
ob "getset_descriptor" [(S "__weakref__" 209), (R 31), (.builtin "ExceptionGroup.__weakref__"), V],
ob "super" [(R 31), (R 31), (R 31)],
ob "builtin_function_or_method" [(.builtin "object.__init_subclass__"), (R 31)],
tp [(R 31)],
ob "builtin_function_or_method" [(.builtin "type.__prepare__"), (.type "type")],
di [E P "__module__" 221 (S "optwright.errors" 194), E P "__qualname__" 223 (S "BadParser" 222), E P "__firstlineno__" 225 (.int 7 224), E P "__init__" 234 (R 50), E P "__static_attributes__" 236 (R 51), E P "__classcell__" 237 (R 38)] 6,
ce (R 53),
tp []]
def z1 (P : Params) : List Obj := [
ct [(9, 4, 49)],
co "BadParser" "BadParser" 216 7 0 0 0 0 39 false 181 40 V V V 219,
⟨(.type "frame"), none, .plain, ⟨[(some (R 41)), (some (R 3)), (some (R 37)), none, (some (S "optwright.errors" 194)), none, (some (R 0))]⟩⟩,
tp [(R 38)],
ts 229 ["__class__"],
ct [],
ts 230 ["self", "why"],
tp [],
ft "__init__" "BadParser.__init__" (inClass (top 3) 0),
co "__init__" "BadParser.__init__" 226 9 2 0 0 3 44 true 181 45 (R 46) (R 47) (R 48) 232,
fu "__init__" "BadParser.__init__" (inClass (top 3) 0) [("__class__", 38)] V V (S "optwright.errors" 194) 49 (R 43),
ts 235 ["why"],
di [E P "__module__" 221 (S "optwright.errors" 194), E P "__firstlineno__" 225 (.int 7 224), E P "__init__" 234 (R 50), E P "__static_attributes__" 236 (R 51), E P "__doc__" 238 V] 3,
⟨(.type "type"), none, .cls ⟨"BadParser", [(R 31)], [(R 53), (R 31), (.type "ValueError"), (.type "Exception"), (.type "BaseException"), (.type "object")], 52, "BadParser", true, [], [], false, none, false⟩, ⟨[(some (R 35)), none, (some (S "BadParser" 214)), (some (S "BadParser" 222)), (some (.builtin "ValueError.__new__")), (some (.bool true))]⟩⟩,
ob "super" [(R 53), (R 53), (R 53)],
ob "builtin_function_or_method" [(.builtin "object.__init_subclass__"), (R 53)],
tp [(R 31)],
ob "builtin_function_or_method" [(.builtin "type.__prepare__"), (.type "type")],
di [E P "__module__" 248 (S "optwright.errors" 194), E P "__qualname__" 250 (S "BadArgument" 249), E P "__firstlineno__" 252 (.int 12 251), E P "__init__" 261 (R 71), E P "__static_attributes__" 263 (R 72), E P "__classcell__" 264 (R 59)] 6,
ce (R 74),
tp [],
ct [(14, 4, 70)],
co "BadArgument" "BadArgument" 243 12 0 0 0 0 60 false 181 61 V V V 246,
⟨(.type "frame"), none, .plain, ⟨[(some (R 62)), (some (R 3)), (some (R 58)), none, (some (S "optwright.errors" 194)), none, (some (R 0))]⟩⟩,
tp [(R 59)],
ts 256 ["__class__"],
ct [],
ts 257 ["self", "why"],
tp [],
ft "__init__" "BadArgument.__init__" (inClass (top 4) 0),
co "__init__" "BadArgument.__init__" 253 14 2 0 0 3 65 true 181 66 (R 67) (R 68) (R 69) 259,
fu "__init__" "BadArgument.__init__" (inClass (top 4) 0) [("__class__", 59)] V V (S "optwright.errors" 194) 70 (R 64),
ts 262 ["why"],
di [E P "__module__" 248 (S "optwright.errors" 194), E P "__firstlineno__" 252 (.int 12 251), E P "__init__" 261 (R 71), E P "__static_attributes__" 263 (R 72), E P "__doc__" 265 V] 3,
⟨(.type "type"), none, .cls ⟨"BadArgument", [(R 31)], [(R 74), (R 31), (.type "ValueError"), (.type "Exception"), (.type "BaseException"), (.type "object")], 73, "BadArgument", true, [], [], false, none, false⟩, ⟨[(some (R 56)), none, (some (S "BadArgument" 241)), (some (S "BadArgument" 249)), (some (.builtin "ValueError.__new__")), (some (.bool true))]⟩⟩,
ob "super" [(R 74), (R 74), (R 74)],
ob "builtin_function_or_method" [(.builtin "object.__init_subclass__"), (R 74)],
tp [(R 31)],
ob "builtin_function_or_method" [(.builtin "type.__prepare__"), (.type "type")],
di [E P "__module__" 275 (S "optwright.errors" 194), E P "__qualname__" 277 (S "Conflict" 276), E P "__firstlineno__" 279 (.int 17 278), E P "__init__" 288 (R 92), E P "__static_attributes__" 290 (R 93), E P "__classcell__" 291 (R 80)] 6]
def z2 (P : Params) : List Obj := [
ce (R 95),
tp [],
ct [(19, 4, 91)],
co "Conflict" "Conflict" 270 17 0 0 0 0 81 false 181 82 V V V 273,
⟨(.type "frame"), none, .plain, ⟨[(some (R 83)), (some (R 3)), (some (R 79)), none, (some (S "optwright.errors" 194)), none, (some (R 0))]⟩⟩,
tp [(R 80)],
ts 283 ["__class__"],
ct [],
ts 284 ["self", "flags"],
tp [],
ft "__init__" "Conflict.__init__" (inClass (top 5) 0),
co "__init__" "Conflict.__init__" 280 19 2 0 0 3 86 true 181 87 (R 88) (R 89) (R 90) 286,
fu "__init__" "Conflict.__init__" (inClass (top 5) 0) [("__class__", 80)] V V (S "optwright.errors" 194) 91 (R 85),
ts 289 ["flags"],
di [E P "__module__" 275 (S "optwright.errors" 194), E P "__firstlineno__" 279 (.int 17 278), E P "__init__" 288 (R 92), E P "__static_attributes__" 290 (R 93), E P "__doc__" 292 V] 3,
⟨(.type "type"), none, .cls ⟨"Conflict", [(R 31)], [(R 95), (R 31), (.type "ValueError"), (.type "Exception"), (.type "BaseException"), (.type "object")], 94, "Conflict", true, [], [], false, none, false⟩, ⟨[(some (R 77)), none, (some (S "Conflict" 268)), (some (S "Conflict" 276)), (some (.builtin "ValueError.__new__")), (some (.bool true))]⟩⟩,
ob "super" [(R 95), (R 95), (R 95)],
ob "builtin_function_or_method" [(.builtin "object.__init_subclass__"), (R 95)],
tp [(R 31)],
ob "builtin_function_or_method" [(.builtin "type.__prepare__"), (.type "type")],
di [E P "__module__" 302 (S "optwright.errors" 194), E P "__qualname__" 304 (S "CommandsTwice" 303), E P "__firstlineno__" 306 (.int 22 305), E P "__init__" 314 (R 113), E P "__static_attributes__" 315 (R 114), E P "__classcell__" 316 (R 101)] 6,
ce (R 116),
tp [],
ct [(24, 4, 112)],
co "CommandsTwice" "CommandsTwice" 297 22 0 0 0 0 102 false 181 103 V V V 300,
⟨(.type "frame"), none, .plain, ⟨[(some (R 104)), (some (R 3)), (some (R 100)), none, (some (S "optwright.errors" 194)), none, (some (R 0))]⟩⟩,
tp [(R 101)],
ts 310 ["__class__"],
ct [],
ts 311 ["self"],
tp [],
ft "__init__" "CommandsTwice.__init__" (inClass (top 6) 0),
co "__init__" "CommandsTwice.__init__" 307 24 1 0 0 3 107 true 181 108 (R 109) (R 110) (R 111) 312,
fu "__init__" "CommandsTwice.__init__" (inClass (top 6) 0) [("__class__", 101)] V V (S "optwright.errors" 194) 112 (R 106),
tp [],
di [E P "__module__" 302 (S "optwright.errors" 194), E P "__firstlineno__" 306 (.int 22 305), E P "__init__" 314 (R 113), E P "__static_attributes__" 315 (R 114), E P "__doc__" 317 V] 3,
⟨(.type "type"), none, .cls ⟨"CommandsTwice", [(R 31)], [(R 116), (R 31), (.type "ValueError"), (.type "Exception"), (.type "BaseException"), (.type "object")], 115, "CommandsTwice", true, [], [], false, none, false⟩, ⟨[(some (R 98)), none, (some (S "CommandsTwice" 295)), (some (S "CommandsTwice" 303)), (some (.builtin "ValueError.__new__")), (some (.bool true))]⟩⟩,
ob "super" [(R 116), (R 116), (R 116)],
ob "builtin_function_or_method" [(.builtin "object.__init_subclass__"), (R 116)],
tp [(R 31)]]
def z3 (P : Params) : List Obj := [
ob "builtin_function_or_method" [(.builtin "type.__prepare__"), (.type "type")],
di [E P "__module__" 327 (S "optwright.errors" 194), E P "__qualname__" 329 (S "Exit" 328), E P "__firstlineno__" 331 (.int 26 330), E P "__init__" 342 (R 134), E P "__static_attributes__" 346 (R 135), E P "__classcell__" 347 (R 122)] 6,
ce (R 137),
tp [],
ct [(28, 4, 133)],
co "Exit" "Exit" 322 26 0 0 0 0 123 false 181 124 V V V 325,
⟨(.type "frame"), none, .plain, ⟨[(some (R 125)), (some (R 3)), (some (R 121)), none, (some (S "optwright.errors" 194)), none, (some (R 0))]⟩⟩,
tp [(R 122)],
ts 335 ["__class__"],
ct [],
ts 336 ["self", "status", "out", "err"],
tp [],
ft "__init__" "Exit.__init__" (inClass (top 7) 0),
co "__init__" "Exit.__init__" 332 28 4 0 0 3 128 true 181 129 (R 130) (R 131) (R 132) 340,
fu "__init__" "Exit.__init__" (inClass (top 7) 0) [("__class__", 122)] V V (S "optwright.errors" 194) 133 (R 127),
ts 343 ["err", "out", "status"],
di [E P "__module__" 327 (S "optwright.errors" 194), E P "__firstlineno__" 331 (.int 26 330), E P "__init__" 342 (R 134), E P "__static_attributes__" 346 (R 135), E P "__doc__" 348 V] 3,
⟨(.type "type"), none, .cls ⟨"Exit", [(R 31)], [(R 137), (R 31), (.type "ValueError"), (.type "Exception"), (.type "BaseException"), (.type "object")], 136, "Exit", true, [], [], false, none, false⟩, ⟨[(some (R 119)), none, (some (S "Exit" 320)), (some (S "Exit" 328)), (some (.builtin "ValueError.__new__")), (some (.bool true))]⟩⟩,
ob "super" [(R 137), (R 137), (R 137)],
ob "builtin_function_or_method" [(.builtin "object.__init_subclass__"), (R 137)],
tp [],
ct [],
ts 358 ["thing"],
tp [],
ft "is_integer" "is_integer" (top 10),
co "is_integer" "is_integer" 355 35 1 0 0 3 140 true 181 141 (R 142) (R 143) (R 144) 359,
fu "is_integer" "is_integer" (top 10) [] V V (S "optwright.kinds" 351) 145 V,
tp [],
ct [],
ts 365 ["thing"],
tp [],
ft "is_row" "is_row" (top 11),
co "is_row" "is_row" 362 37 1 0 0 3 147 true 181 148 (R 149) (R 150) (R 151) 366,
fu "is_row" "is_row" (top 11) [] V V (S "optwright.kinds" 351) 152 V,
tp [],
ct [],
ft "is_value" "is_value" (top 12),
co "is_value" "is_value" 369 39 1 0 0 3 154 true 181 155 V V (R 156) 372,
fu "is_value" "is_value" (top 12) [] V V (S "optwright.kinds" 351) 157 V,
tp []]
def z4 (P : Params) : List Obj := [
ct [],
ft "copied" "copied" (top 13),
co "copied" "copied" 375 43 1 0 0 3 159 true 181 160 V V (R 161) 378,
fu "copied" "copied" (top 13) [] V V (S "optwright.kinds" 351) 162 V,
tp [],
ct [],
ts 384 ["thing"],
tp [],
ft "is_kind" "is_kind" (top 14),
co "is_kind" "is_kind" 381 47 1 0 0 3 164 true 181 165 (R 166) (R 167) (R 168) 385,
fu "is_kind" "is_kind" (top 14) [] V V (S "optwright.kinds" 351) 169 V,
tp [],
ct [],
ts 391 ["kind"],
tp [],
ft "kind_name" "kind_name" (top 15),
co "kind_name" "kind_name" 388 53 1 0 0 3 171 true 181 172 (R 173) (R 174) (R 175) 392,
fu "kind_name" "kind_name" (top 15) [] V V (S "optwright.kinds" 351) 176 V,
ts 397 ["store", "append", "extend"],
ts 401 ["store_const", "append_const"],
ts 404 ["store_true", "store_false", "count", "yes_no"],
ts 409 ["?", "*", "+", "..."],
ts 414 ["append", "append_const", "extend"],
ts 418 ["action", "dest", "help"],
tp [],
ob "builtin_function_or_method" [(.builtin "type.__prepare__"), (.type "type")],
di [E P "__module__" 431 (S "optwright.arguments" 395), E P "__qualname__" 433 (S "Argument" 432), E P "__firstlineno__" 435 (.int 65 434), E P "__init__" 445 (R 197), E P "twin" 453 (R 204), E P "__static_attributes__" 469 (R 205)] 6,
tp [],
ct [(67, 4, 196), (84, 4, 203)],
co "Argument" "Argument" 426 65 0 0 0 0 187 false 181 188 V V V 429,
⟨(.type "frame"), none, .plain, ⟨[(some (R 189)), (some (R 3)), (some (R 186)), none, (some (S "optwright.arguments" 395)), none, (some (R 0))]⟩⟩,
tp [],
ct [],
ts 439 ["self", "flags", "dest", "action"],
tp [],
ft "__init__" "Argument.__init__" (inClass (top 24) 0),
co "__init__" "Argument.__init__" 436 67 4 0 0 3 191 true 181 192 (R 193) (R 194) (R 195) 443,
fu "__init__" "Argument.__init__" (inClass (top 24) 0) [] V V (S "optwright.arguments" 395) 196 V,
tp [],
ct []]
def z5 (P : Params) : List Obj := [
ts 449 ["self", "made"],
tp [],
ft "twin" "Argument.twin" (inClass (top 24) 1),
co "twin" "Argument.twin" 446 84 1 0 0 3 198 true 181 199 (R 200) (R 201) (R 202) 451,
fu "twin" "Argument.twin" (inClass (top 24) 1) [] V V (S "optwright.arguments" 395) 203 V,
ts 454 ["action", "choices", "commands", "const", "default", "dest", "fellows", "flags", "help", "is_option", "kind", "metavar", "nargs", "required", "version"],
di [E P "__module__" 431 (S "optwright.arguments" 395), E P "__firstlineno__" 435 (.int 65 434), E P "__init__" 445 (R 197), E P "twin" 453 (R 204), E P "__static_attributes__" 469 (R 205), E P "__dict__" 471 (R 208), E P "__weakref__" 473 (R 209), E P "__doc__" 474 V] 4,
⟨(.type "type"), none, .cls ⟨"Argument", [(.type "object")], [(R 207), (.type "object")], 206, "Argument", true, [], [], false, none, false⟩, ⟨[none, none, (some (S "Argument" 424)), (some (S "Argument" 432)), (some (.builtin "object.__new__")), (some (.bool true))]⟩⟩,
ob "getset_descriptor" [(S "__dict__" 470), (R 207), (.builtin "function.__dict__"), (.builtin "function.__dict__#set")],
ob "getset_descriptor" [(S "__weakref__" 472), (R 207), (.builtin "ExceptionGroup.__weakref__"), V],
ob "super" [(R 207), (R 207), (R 207)],
ob "builtin_function_or_method" [(.builtin "object.__init_subclass__"), (R 207)],
tp [],
ct [],
ts 480 ["action"],
tp [],
ft "keys_of" "keys_of" (top 25),
co "keys_of" "keys_of" 477 91 1 0 0 3 212 true 181 213 (R 214) (R 215) (R 216) 481,
fu "keys_of" "keys_of" (top 25) [] V V (S "optwright.arguments" 395) 217 V,
tp [],
ct [],
ts 487 ["text", "prefix_chars"],
tp [],
ft "is_flag" "is_flag" (top 26),
co "is_flag" "is_flag" 484 99 2 0 0 3 219 true 181 220 (R 221) (R 222) (R 223) 489,
fu "is_flag" "is_flag" (top 26) [] V V (S "optwright.arguments" 395) 224 V,
tp [],
ct [],
ft "has_gap" "has_gap" (top 27),
co "has_gap" "has_gap" 492 101 1 0 0 3 226 true 181 227 V V (R 228) 495,
fu "has_gap" "has_gap" (top 27) [] V V (S "optwright.arguments" 395) 229 V,
tp [],
ct [],
ft "checked_flags" "checked_flags" (top 28),
co "checked_flags" "checked_flags" 498 103 2 0 0 3 231 true 181 232 V V (R 233) 501,
fu "checked_flags" "checked_flags" (top 28) [] V V (S "optwright.arguments" 395) 234 V,
tp [],
ct [],
ft "named" "named" (top 29),
co "named" "named" 504 111 4 0 0 3 236 true 181 237 V V (R 238) 507]
def z6 (P : Params) : List Obj := [
fu "named" "named" (top 29) [] V V (S "optwright.arguments" 395) 239 V,
tp [],
ct [],
ft "with_fellows" "with_fellows" (top 30),
co "with_fellows" "with_fellows" 510 123 2 0 0 3 241 true 181 242 V V (R 243) 513,
fu "with_fellows" "with_fellows" (top 30) [] V V (S "optwright.arguments" 395) 244 V,
tp [],
ct [],
ft "fits_metavar" "fits_metavar" (top 31),
co "fits_metavar" "fits_metavar" 516 129 2 0 0 3 246 true 181 247 V V (R 248) 519,
fu "fits_metavar" "fits_metavar" (top 31) [] V V (S "optwright.arguments" 395) 249 V,
tp [],
ct [],
ts 525 ["action", "options", "nargs", "fits", "choices"],
tp [],
ft "check_words" "check_words" (top 32),
co "check_words" "check_words" 522 138 2 0 0 3 251 true 181 252 (R 253) (R 254) (R 255) 530,
fu "check_words" "check_words" (top 32) [] V V (S "optwright.arguments" 395) 256 V,
tp [],
ct [],
ft "check_options" "check_options" (top 33),
co "check_options" "check_options" 533 152 3 0 0 3 258 true 181 259 V V (R 260) 536,
fu "check_options" "check_options" (top 33) [] V V (S "optwright.arguments" 395) 261 V,
tp [],
ct [],
ts 542 ["action", "dest", "options", "defaults", "argument_default"],
tp [],
ft "default_of" "default_of" (top 34),
co "default_of" "default_of" 539 170 5 0 0 3 263 true 181 264 (R 265) (R 266) (R 267) 547,
fu "default_of" "default_of" (top 34) [] V V (S "optwright.arguments" 395) 268 V,
tp [],
ct [],
ft "made_argument" "made_argument" (top 35),
co "made_argument" "made_argument" 550 180 4 0 0 3 270 true 181 271 V V (R 272) 553,
fu "made_argument" "made_argument" (top 35) [] V V (S "optwright.arguments" 395) 273 V,
tp [],
ct [],
ts 561 ["argument"],
tp [],
ft "is_shown" "is_shown" (top 37)]
def z7 (P : Params) : List Obj := [
co "is_shown" "is_shown" 558 203 1 0 0 3 275 true 181 276 (R 277) (R 278) (R 279) 562,
fu "is_shown" "is_shown" (top 37) [] V V (S "optwright.wording" 556) 280 V,
tp [],
ct [],
ft "choices_of" "choices_of" (top 38),
co "choices_of" "choices_of" 565 205 1 0 0 3 282 true 181 283 V V (R 284) 568,
fu "choices_of" "choices_of" (top 38) [] V V (S "optwright.wording" 556) 285 V,
tp [],
ct [],
ts 574 ["argument"],
tp [],
ft "braced" "braced" (top 39),
co "braced" "braced" 571 209 1 0 0 3 287 true 181 288 (R 289) (R 290) (R 291) 575,
fu "braced" "braced" (top 39) [] V V (S "optwright.wording" 556) 292 V,
tp [],
ct [],
ts 581 ["argument", "layout"],
tp [],
ft "shown_names" "shown_names" (top 40),
co "shown_names" "shown_names" 578 211 2 0 0 3 294 true 181 295 (R 296) (R 297) (R 298) 583,
fu "shown_names" "shown_names" (top 40) [] V V (S "optwright.wording" 556) 299 V,
tp [],
ct [],
ts 589 ["argument", "layout", "names", "nargs", "first", "last"],
tp [],
ft "words_of" "words_of" (top 41),
co "words_of" "words_of" 586 219 2 0 0 3 301 true 181 302 (R 303) (R 304) (R 305) 595,
fu "words_of" "words_of" (top 41) [] V V (S "optwright.wording" 556) 306 V,
tp [],
ct [],
ts 601 ["shown", "argument", "layout"],
tp [],
ft "with_words" "with_words" (top 42),
co "with_words" "with_words" 598 235 3 0 0 3 308 true 181 309 (R 310) (R 311) (R 312) 604,
fu "with_words" "with_words" (top 42) [] V V (S "optwright.wording" 556) 313 V,
tp [],
ct [],
ts 610 ["argument", "layout"],
tp [],
ft "head_of" "head_of" (top 43)]
def z8 (P : Params) : List Obj := [
co "head_of" "head_of" 607 237 2 0 0 3 315 true 181 316 (R 317) (R 318) (R 319) 612,
fu "head_of" "head_of" (top 43) [] V V (S "optwright.wording" 556) 320 V,
tp [],
ct [],
ts 620 ["text", "values", "found", "at", "start", "end", "name"],
tp [],
ft "filled_in" "filled_in" (top 45),
co "filled_in" "filled_in" 617 242 2 0 0 3 322 true 181 323 (R 324) (R 325) (R 326) 627,
fu "filled_in" "filled_in" (top 45) [] V V (S "optwright.filling" 615) 327 V,
tp [],
ct [],
ts 633 ["text"],
tp [],
ft "has_words" "has_words" (top 46),
co "has_words" "has_words" 630 255 1 0 0 3 329 true 181 330 (R 331) (R 332) (R 333) 634,
fu "has_words" "has_words" (top 46) [] V V (S "optwright.filling" 615) 334 V,
tp [],
ct [],
ts 640 ["text", "size", "found", "line", "word", "room"],
tp [],
ft "laid_out" "laid_out" (top 47),
co "laid_out" "laid_out" 637 257 2 0 0 3 336 true 181 337 (R 338) (R 339) (R 340) 646,
fu "laid_out" "laid_out" (top 47) [] V V (S "optwright.filling" 615) 341 V,
tp [],
ct [],
ts 652 ["text", "found"],
tp [],
ft "kept_lines" "kept_lines" (top 48),
co "kept_lines" "kept_lines" 649 274 1 0 0 3 343 true 181 344 (R 345) (R 346) (R 347) 654,
fu "kept_lines" "kept_lines" (top 48) [] V V (S "optwright.filling" 615) 348 V,
tp [],
ct [],
ft "described" "described" (top 49),
co "described" "described" 657 277 3 0 0 3 350 true 181 351 V V (R 352) 660,
fu "described" "described" (top 49) [] V V (S "optwright.filling" 615) 353 V,
tp [],
ct [],
ts 666 ["text"],
tp [],
ft "squeezed" "squeezed" (top 50)]
def z9 (P : Params) : List Obj := [
co "squeezed" "squeezed" 663 284 1 0 0 3 355 true 181 356 (R 357) (R 358) (R 359) 667,
fu "squeezed" "squeezed" (top 50) [] V V (S "optwright.filling" 615) 360 V,
tp [],
ct [],
ts 677 ["argument", "layout", "part"],
tp [],
ft "bare_part" "bare_part" (top 53),
co "bare_part" "bare_part" 674 290 2 0 0 3 362 true 181 363 (R 364) (R 365) (R 366) 680,
fu "bare_part" "bare_part" (top 53) [] V V (S "optwright.usage" 670) 367 V,
tp [],
ct [],
ts 686 ["argument", "layout", "part"],
tp [],
ft "part_of" "part_of" (top 54),
co "part_of" "part_of" 683 297 2 0 0 3 369 true 181 370 (R 371) (R 372) (R 373) 689,
fu "part_of" "part_of" (top 54) [] V V (S "optwright.usage" 670) 374 V,
tp [],
ct [],
ft "marked_places" "marked_places" (top 55),
co "marked_places" "marked_places" 692 302 2 0 0 3 376 true 181 377 V V (R 378) 695,
fu "marked_places" "marked_places" (top 55) [] V V (S "optwright.usage" 670) 379 V,
tp [],
ct [],
ft "parts_of" "parts_of" (top 56),
co "parts_of" "parts_of" 698 307 3 0 0 3 381 true 181 382 V V (R 383) 701,
fu "parts_of" "parts_of" (top 56) [] V V (S "optwright.usage" 670) 384 V,
tp [],
ct [],
ts 707 ["first", "parts", "indent", "size", "found", "line", "part"],
tp [],
ft "taken" "taken" (top 57),
co "taken" "taken" 704 320 4 0 0 3 386 true 181 387 (R 388) (R 389) (R 390) 714,
fu "taken" "taken" (top 57) [] V V (S "optwright.usage" 670) 391 V,
tp [],
ct [],
ts 720 ["start", "options", "positionals", "size", "indent", "lines"],
tp [],
ft "usage_lines" "usage_lines" (top 58),
co "usage_lines" "usage_lines" 717 330 4 0 0 3 393 true 181 394 (R 395) (R 396) (R 397) 726,
fu "usage_lines" "usage_lines" (top 58) [] V V (S "optwright.usage" 670) 398 V]
def z10 (P : Params) : List Obj := [
tp [],
ct [],
ft "usage_text" "usage_text" (top 59),
co "usage_text" "usage_text" 729 340 1 0 0 3 400 true 181 401 V V (R 402) 732,
fu "usage_text" "usage_text" (top 59) [] V V (S "optwright.usage" 670) 403 V,
tp [],
ct [],
ts 738 ["parser"],
tp [],
ft "format_usage" "format_usage" (top 60),
co "format_usage" "format_usage" 735 352 1 0 0 3 405 true 181 406 (R 407) (R 408) (R 409) 739,
fu "format_usage" "format_usage" (top 60) [] V V (S "optwright.usage" 670) 410 V,
tp [],
ct [],
ts 750 ["argument"],
tp [],
ft "tells_default" "tells_default" (top 64),
co "tells_default" "tells_default" 747 357 1 0 0 3 412 true 181 413 (R 414) (R 415) (R 416) 751,
fu "tells_default" "tells_default" (top 64) [] V V (S "optwright.helping" 743) 417 V,
tp [],
ct [],
ts 757 ["argument", "prog", "choices", "found"],
tp [],
ft "values_of" "values_of" (top 65),
co "values_of" "values_of" 754 361 2 0 0 3 419 true 181 420 (R 421) (R 422) (R 423) 761,
fu "values_of" "values_of" (top 65) [] V V (S "optwright.helping" 743) 424 V,
tp [],
ct [],
ts 767 ["argument", "parser", "text"],
tp [],
ft "help_of" "help_of" (top 66),
co "help_of" "help_of" 764 370 2 0 0 3 426 true 181 427 (R 428) (R 429) (R 430) 770,
fu "help_of" "help_of" (top 66) [] V V (S "optwright.helping" 743) 431 V,
tp [],
ct [],
ts 776 ["commands", "parser", "found", "name", "aliases", "text", "has_row", "head"],
tp [],
ft "command_rows" "command_rows" (top 67),
co "command_rows" "command_rows" 773 378 2 0 0 3 433 true 181 434 (R 435) (R 436) (R 437) 784,
fu "command_rows" "command_rows" (top 67) [] V V (S "optwright.helping" 743) 438 V]
def z11 (P : Params) : List Obj := [
tp [],
ct [],
ts 790 ["section", "parser", "found", "argument"],
tp [],
ft "section_rows" "section_rows" (top 68),
co "section_rows" "section_rows" 787 386 2 0 0 3 440 true 181 441 (R 442) (R 443) (R 444) 794,
fu "section_rows" "section_rows" (top 68) [] V V (S "optwright.helping" 743) 445 V,
tp [],
ct [],
ft "row_text" "row_text" (top 69),
co "row_text" "row_text" 797 394 4 0 0 3 447 true 181 448 V V (R 449) 800,
fu "row_text" "row_text" (top 69) [] V V (S "optwright.helping" 743) 450 V,
tp [],
ct [],
ft "section_text" "section_text" (top 70),
co "section_text" "section_text" 803 404 4 0 0 3 452 true 181 453 V V (R 454) 806,
fu "section_text" "section_text" (top 70) [] V V (S "optwright.helping" 743) 455 V,
tp [],
ct [],
ft "format_help" "format_help" (top 71),
co "format_help" "format_help" 809 409 1 0 0 3 457 true 181 458 V V (R 459) 812,
fu "format_help" "format_help" (top 71) [] V V (S "optwright.helping" 743) 460 V,
tp [],
ct [],
ts 821 ["parser", "title", "description", "section"],
tp [],
ft "section_like" "section_like" (top 74),
co "section_like" "section_like" 818 424 3 0 0 3 462 true 181 463 (R 464) (R 465) (R 466) 825,
fu "section_like" "section_like" (top 74) [] V V (S "optwright.parents" 816) 467 V,
tp [],
ct [],
ft "section_with" "section_with" (top 75),
co "section_with" "section_with" 828 429 2 0 0 3 469 true 181 470 V V (R 471) 831,
fu "section_with" "section_with" (top 75) [] V V (S "optwright.parents" 816) 472 V,
tp [],
ct [],
ts 837 ["parser", "parent", "section", "made", "group", "title", "argument", "exclusive", "old", "new", "twin"],
tp [],
ft "take_over" "take_over" (top 76),
co "take_over" "take_over" 834 431 2 0 0 3 474 true 181 475 (R 476) (R 477) (R 478) 848]
def z12 (P : Params) : List Obj := [
fu "take_over" "take_over" (top 76) [] V V (S "optwright.parents" 816) 479 V,
tp [],
ob "builtin_function_or_method" [(.builtin "type.__prepare__"), (.type "type")],
di [E P "__module__" 860 (S "optwright.sections" 851), E P "__qualname__" 862 (S "Exclusive" 861), E P "__firstlineno__" 864 (.int 450 863), E P "__init__" 874 (R 494), E P "add_argument" 883 (R 502), E P "__static_attributes__" 888 (R 503)] 6,
tp [],
ct [(452, 4, 493), (458, 4, 501)],
co "Exclusive" "Exclusive" 855 450 0 0 0 0 484 false 181 485 V V V 858,
⟨(.type "frame"), none, .plain, ⟨[(some (R 486)), (some (R 3)), (some (R 483)), none, (some (S "optwright.sections" 851)), none, (some (R 0))]⟩⟩,
tp [],
ct [],
ts 868 ["self", "home", "section", "required"],
tp [],
ft "__init__" "Exclusive.__init__" (inClass (top 78) 0),
co "__init__" "Exclusive.__init__" 865 452 4 0 0 3 488 true 181 489 (R 490) (R 491) (R 492) 872,
fu "__init__" "Exclusive.__init__" (inClass (top 78) 0) [] V V (S "optwright.sections" 851) 493 V,
tp [V],
tp [],
ct [],
ts 878 ["self", "flags", "options"],
tp [],
ft "add_argument" "Exclusive.add_argument" (inClass (top 78) 1),
co "add_argument" "Exclusive.add_argument" 875 458 3 0 0 3 496 true 181 497 (R 498) (R 499) (R 500) 881,
fu "add_argument" "Exclusive.add_argument" (inClass (top 78) 1) [] (R 495) V (S "optwright.sections" 851) 501 V,
ts 884 ["home", "members", "required", "section"],
di [E P "__module__" 860 (S "optwright.sections" 851), E P "__firstlineno__" 864 (.int 450 863), E P "__init__" 874 (R 494), E P "add_argument" 883 (R 502), E P "__static_attributes__" 888 (R 503), E P "__dict__" 890 (R 506), E P "__weakref__" 892 (R 507), E P "__doc__" 893 V] 4,
⟨(.type "type"), none, .cls ⟨"Exclusive", [(.type "object")], [(R 505), (.type "object")], 504, "Exclusive", true, [], [], false, none, false⟩, ⟨[none, none, (some (S "Exclusive" 853)), (some (S "Exclusive" 861)), (some (.builtin "object.__new__")), (some (.bool true))]⟩⟩,
ob "getset_descriptor" [(S "__dict__" 889), (R 505), (.builtin "function.__dict__"), (.builtin "function.__dict__#set")],
ob "getset_descriptor" [(S "__weakref__" 891), (R 505), (.builtin "ExceptionGroup.__weakref__"), V],
ob "super" [(R 505), (R 505), (R 505)],
ob "builtin_function_or_method" [(.builtin "object.__init_subclass__"), (R 505)],
tp [],
ob "builtin_function_or_method" [(.builtin "type.__prepare__"), (.type "type")],
di [E P "__module__" 903 (S "optwright.sections" 851), E P "__qualname__" 905 (S "Section" 904), E P "__firstlineno__" 907 (.int 460 906), E P "__init__" 917 (R 523), E P "add_argument" 926 (R 531), E P "add_mutually_exclusive_group" 935 (R 539), E P "__static_attributes__" 940 (R 540)] 7,
tp [],
ct [(462, 4, 522), (468, 4, 530), (471, 4, 538)],
co "Section" "Section" 898 460 0 0 0 0 513 false 181 514 V V V 901,
⟨(.type "frame"), none, .plain, ⟨[(some (R 515)), (some (R 3)), (some (R 512)), none, (some (S "optwright.sections" 851)), none, (some (R 0))]⟩⟩,
tp [],
ct [],
ts 911 ["self", "home", "title", "description"]]
def z13 (P : Params) : List Obj := [
tp [],
ft "__init__" "Section.__init__" (inClass (top 79) 0),
co "__init__" "Section.__init__" 908 462 4 0 0 3 517 true 181 518 (R 519) (R 520) (R 521) 915,
fu "__init__" "Section.__init__" (inClass (top 79) 0) [] V V (S "optwright.sections" 851) 522 V,
tp [V],
tp [],
ct [],
ts 921 ["self", "flags", "options"],
tp [],
ft "add_argument" "Section.add_argument" (inClass (top 79) 1),
co "add_argument" "Section.add_argument" 918 468 3 0 0 3 525 true 181 526 (R 527) (R 528) (R 529) 924,
fu "add_argument" "Section.add_argument" (inClass (top 79) 1) [] (R 524) V (S "optwright.sections" 851) 530 V,
di [E P "required" 927 (.bool false)] 1,
tp [],
ct [],
ts 931 ["self", "required"],
tp [],
ft "add_mutually_exclusive_group" "Section.add_mutually_exclusive_group" (inClass (top 79) 2),
co "add_mutually_exclusive_group" "Section.add_mutually_exclusive_group" 928 471 1 0 1 3 533 true 181 534 (R 535) (R 536) (R 537) 933,
fu "add_mutually_exclusive_group" "Section.add_mutually_exclusive_group" (inClass (top 79) 2) [] V (R 532) (S "optwright.sections" 851) 538 V,
ts 936 ["description", "home", "members", "title"],
di [E P "__module__" 903 (S "optwright.sections" 851), E P "__firstlineno__" 907 (.int 460 906), E P "__init__" 917 (R 523), E P "add_argument" 926 (R 531), E P "add_mutually_exclusive_group" 935 (R 539), E P "__static_attributes__" 940 (R 540), E P "__dict__" 942 (R 543), E P "__weakref__" 944 (R 544), E P "__doc__" 945 V] 4,
⟨(.type "type"), none, .cls ⟨"Section", [(.type "object")], [(R 542), (.type "object")], 541, "Section", true, [], [], false, none, false⟩, ⟨[none, none, (some (S "Section" 896)), (some (S "Section" 904)), (some (.builtin "object.__new__")), (some (.bool true))]⟩⟩,
ob "getset_descriptor" [(S "__dict__" 941), (R 542), (.builtin "function.__dict__"), (.builtin "function.__dict__#set")],
ob "getset_descriptor" [(S "__weakref__" 943), (R 542), (.builtin "ExceptionGroup.__weakref__"), V],
ob "super" [(R 542), (R 542), (R 542)],
ob "builtin_function_or_method" [(.builtin "object.__init_subclass__"), (R 542)],
ts 950 ["raw", "rawtext", "defaults", "kinds"],
tp [],
ct [],
ft "is_signs" "is_signs" (top 84),
co "is_signs" "is_signs" 960 477 1 0 0 3 548 true 181 549 V V (R 550) 963,
fu "is_signs" "is_signs" (top 84) [] V V (S "optwright.parsers" 948) 551 V,
tp [],
ob "builtin_function_or_method" [(.builtin "type.__prepare__"), (.type "type")],
di [E P "__module__" 973 (S "optwright.parsers" 948), E P "__qualname__" 975 (S "Parser" 974), E P "__firstlineno__" 977 (.int 481 976), E P "__init__" 1002 (R 568), E P "twin" 1009 (R 575), E P "add_argument" 1018 (R 583), E P "add_to" 1030 (R 590), E P "join" 1036 (R 595), E P "take_away" 1042 (R 600), E P "add_argument_group" 1052 (R 608), E P "add_mutually_exclusive_group" 1061 (R 616), E P "add_exclusive" 1071 (R 623), E P "add_subparsers" 1092 (R 631), E P "take_commands" 1101 (R 638), E P "set_defaults" 1109 (R 645), E P "get_default" 1117 (R 652), E P "parse_args" 1126 (R 660), E P "parse_known_args" 1135 (R 668), E P "parse_intermixed_args" 1144 (R 676), E P "parse_known_intermixed_args" 1153 (R 684), E P "format_usage" 1160 (R 691), E P "format_help" 1167 (R 698), E P "error" 1175 (R 705), E P "end" 1186 (R 713), E P "__static_attributes__" 1206 (R 714)] 25,
tp [],
ct [(483, 4, 567), (509, 4, 574), (512, 4, 582), (515, 4, 589), (520, 4, 594), (534, 4, 599), (542, 4, 607), (547, 4, 615), (550, 4, 622), (555, 4, 630), (558, 4, 637), (564, 4, 644), (567, 4, 651), (570, 4, 659), (573, 4, 667), (576, 4, 675), (579, 4, 683), (582, 4, 690), (585, 4, 697), (588, 4, 704), (591, 4, 712)],
co "Parser" "Parser" 968 481 0 0 0 0 556 false 181 557 V V V 971,
⟨(.type "frame"), none, .plain, ⟨[(some (R 558)), (some (R 3)), (some (R 555)), none, (some (S "optwright.parsers" 948)), none, (some (R 0))]⟩⟩]
def z14 (P : Params) : List Obj := [
tp [],
tp [],
ts 978 ["program"],
di [E P "usage" 983 V, E P "description" 984 V, E P "epilog" 985 V, E P "parents" 986 (R 560), E P "layout" 987 (R 561), E P "width" 988 (.int 78 979), E P "prefix_chars" 989 (S "-" 980), E P "fromfile_prefix_chars" 990 (S "" 981), E P "files" 991 V, E P "argument_default" 992 V, E P "conflict_handler" 993 (S "error" 982), E P "add_help" 994 (.bool true), E P "allow_abbrev" 995 (.bool true), E P "exit_on_error" 996 (.bool true)] 14,
tp [],
ct [],
ft "__init__" "Parser.__init__" (inClass (top 85) 0),
co "__init__" "Parser.__init__" 997 483 2 0 14 3 564 true 181 565 V V (R 566) 1000,
fu "__init__" "Parser.__init__" (inClass (top 85) 0) [] (R 562) (R 563) (S "optwright.parsers" 948) 567 V,
tp [],
ct [],
ts 1006 ["self"],
tp [],
ft "twin" "Parser.twin" (inClass (top 85) 1),
co "twin" "Parser.twin" 1003 509 1 0 0 3 569 true 181 570 (R 571) (R 572) (R 573) 1007,
fu "twin" "Parser.twin" (inClass (top 85) 1) [] V V (S "optwright.parsers" 948) 574 V,
tp [V],
tp [],
ct [],
ts 1013 ["self", "flags", "options"],
tp [],
ft "add_argument" "Parser.add_argument" (inClass (top 85) 2),
co "add_argument" "Parser.add_argument" 1010 512 3 0 0 3 577 true 181 578 (R 579) (R 580) (R 581) 1016,
fu "add_argument" "Parser.add_argument" (inClass (top 85) 2) [] (R 576) V (S "optwright.parsers" 948) 582 V,
tp [],
ct [],
ts 1022 ["self", "section", "exclusive", "flags", "options", "argument"],
tp [],
ft "add_to" "Parser.add_to" (inClass (top 85) 3),
co "add_to" "Parser.add_to" 1019 515 5 0 0 3 584 true 181 585 (R 586) (R 587) (R 588) 1028,
fu "add_to" "Parser.add_to" (inClass (top 85) 3) [] V V (S "optwright.parsers" 948) 589 V,
tp [],
ct [],
ft "join" "Parser.join" (inClass (top 85) 4),
co "join" "Parser.join" 1031 520 4 0 0 3 591 true 181 592 V V (R 593) 1034,
fu "join" "Parser.join" (inClass (top 85) 4) [] V V (S "optwright.parsers" 948) 594 V,
tp [],
ct [],
ft "take_away" "Parser.take_away" (inClass (top 85) 5),
co "take_away" "Parser.take_away" 1037 534 2 0 0 3 596 true 181 597 V V (R 598) 1040]
def z15 (P : Params) : List Obj := [
fu "take_away" "Parser.take_away" (inClass (top 85) 5) [] V V (S "optwright.parsers" 948) 599 V,
tp [V, V],
tp [],
ct [],
ts 1046 ["self", "title", "description", "made"],
tp [],
ft "add_argument_group" "Parser.add_argument_group" (inClass (top 85) 6),
co "add_argument_group" "Parser.add_argument_group" 1043 542 3 0 0 3 602 true 181 603 (R 604) (R 605) (R 606) 1050,
fu "add_argument_group" "Parser.add_argument_group" (inClass (top 85) 6) [] (R 601) V (S "optwright.parsers" 948) 607 V,
di [E P "required" 1053 (.bool false)] 1,
tp [],
ct [],
ts 1057 ["self", "required"],
tp [],
ft "add_mutually_exclusive_group" "Parser.add_mutually_exclusive_group" (inClass (top 85) 7),
co "add_mutually_exclusive_group" "Parser.add_mutually_exclusive_group" 1054 547 1 0 1 3 610 true 181 611 (R 612) (R 613) (R 614) 1059,
fu "add_mutually_exclusive_group" "Parser.add_mutually_exclusive_group" (inClass (top 85) 7) [] V (R 609) (S "optwright.parsers" 948) 615 V,
tp [],
ct [],
ts 1065 ["self", "section", "required", "made"],
tp [],
ft "add_exclusive" "Parser.add_exclusive" (inClass (top 85) 8),
co "add_exclusive" "Parser.add_exclusive" 1062 550 3 0 0 3 617 true 181 618 (R 619) (R 620) (R 621) 1069,
fu "add_exclusive" "Parser.add_exclusive" (inClass (top 85) 8) [] V V (S "optwright.parsers" 948) 622 V,
di [E P "title" 1072 V, E P "description" 1073 V, E P "prog" 1074 V, E P "dest" 1075 (S "==SUPPRESS==" 353), E P "required" 1076 (.bool false), E P "about" 1077 V, E P "metavar" 1078 V] 7,
tp [],
ct [],
ts 1082 ["self", "title", "description", "prog", "dest", "required", "about", "metavar"],
tp [],
ft "add_subparsers" "Parser.add_subparsers" (inClass (top 85) 9),
co "add_subparsers" "Parser.add_subparsers" 1079 555 1 0 7 3 625 true 181 626 (R 627) (R 628) (R 629) 1090,
fu "add_subparsers" "Parser.add_subparsers" (inClass (top 85) 9) [] V (R 624) (S "optwright.parsers" 948) 630 V,
tp [],
ct [],
ts 1096 ["self", "argument", "commands"],
tp [],
ft "take_commands" "Parser.take_commands" (inClass (top 85) 10),
co "take_commands" "Parser.take_commands" 1093 558 3 0 0 3 632 true 181 633 (R 634) (R 635) (R 636) 1099,
fu "take_commands" "Parser.take_commands" (inClass (top 85) 10) [] V V (S "optwright.parsers" 948) 637 V,
tp []]
def z16 (P : Params) : List Obj := [
ct [],
ts 1105 ["self", "pairs"],
tp [],
ft "set_defaults" "Parser.set_defaults" (inClass (top 85) 11),
co "set_defaults" "Parser.set_defaults" 1102 564 2 0 0 3 639 true 181 640 (R 641) (R 642) (R 643) 1107,
fu "set_defaults" "Parser.set_defaults" (inClass (top 85) 11) [] V V (S "optwright.parsers" 948) 644 V,
tp [],
ct [],
ts 1113 ["self", "name"],
tp [],
ft "get_default" "Parser.get_default" (inClass (top 85) 12),
co "get_default" "Parser.get_default" 1110 567 2 0 0 3 646 true 181 647 (R 648) (R 649) (R 650) 1115,
fu "get_default" "Parser.get_default" (inClass (top 85) 12) [] V V (S "optwright.parsers" 948) 651 V,
tp [V],
tp [],
ct [],
ts 1121 ["self", "words", "names"],
tp [],
ft "parse_args" "Parser.parse_args" (inClass (top 85) 13),
co "parse_args" "Parser.parse_args" 1118 570 3 0 0 3 654 true 181 655 (R 656) (R 657) (R 658) 1124,
fu "parse_args" "Parser.parse_args" (inClass (top 85) 13) [] (R 653) V (S "optwright.parsers" 948) 659 V,
tp [V],
tp [],
ct [],
ts 1130 ["self", "words", "names"],
tp [],
ft "parse_known_args" "Parser.parse_known_args" (inClass (top 85) 14),
co "parse_known_args" "Parser.parse_known_args" 1127 573 3 0 0 3 662 true 181 663 (R 664) (R 665) (R 666) 1133,
fu "parse_known_args" "Parser.parse_known_args" (inClass (top 85) 14) [] (R 661) V (S "optwright.parsers" 948) 667 V,
tp [V],
tp [],
ct [],
ts 1139 ["self", "words", "names"],
tp [],
ft "parse_intermixed_args" "Parser.parse_intermixed_args" (inClass (top 85) 15),
co "parse_intermixed_args" "Parser.parse_intermixed_args" 1136 576 3 0 0 3 670 true 181 671 (R 672) (R 673) (R 674) 1142,
fu "parse_intermixed_args" "Parser.parse_intermixed_args" (inClass (top 85) 15) [] (R 669) V (S "optwright.parsers" 948) 675 V,
tp [V],
tp [],
ct []]
def z17 (P : Params) : List Obj := [
ts 1148 ["self", "words", "names"],
tp [],
ft "parse_known_intermixed_args" "Parser.parse_known_intermixed_args" (inClass (top 85) 16),
co "parse_known_intermixed_args" "Parser.parse_known_intermixed_args" 1145 579 3 0 0 3 678 true 181 679 (R 680) (R 681) (R 682) 1151,
fu "parse_known_intermixed_args" "Parser.parse_known_intermixed_args" (inClass (top 85) 16) [] (R 677) V (S "optwright.parsers" 948) 683 V,
tp [],
ct [],
ts 1157 ["self"],
tp [],
ft "format_usage" "Parser.format_usage" (inClass (top 85) 17),
co "format_usage" "Parser.format_usage" 1154 582 1 0 0 3 685 true 181 686 (R 687) (R 688) (R 689) 1158,
fu "format_usage" "Parser.format_usage" (inClass (top 85) 17) [] V V (S "optwright.parsers" 948) 690 V,
tp [],
ct [],
ts 1164 ["self"],
tp [],
ft "format_help" "Parser.format_help" (inClass (top 85) 18),
co "format_help" "Parser.format_help" 1161 585 1 0 0 3 692 true 181 693 (R 694) (R 695) (R 696) 1165,
fu "format_help" "Parser.format_help" (inClass (top 85) 18) [] V V (S "optwright.parsers" 948) 697 V,
tp [],
ct [],
ts 1171 ["self", "text"],
tp [],
ft "error" "Parser.error" (inClass (top 85) 19),
co "error" "Parser.error" 1168 588 2 0 0 3 699 true 181 700 (R 701) (R 702) (R 703) 1173,
fu "error" "Parser.error" (inClass (top 85) 19) [] V V (S "optwright.parsers" 948) 704 V,
tp [(.int 0 1176), (S "" 1177)],
tp [],
ct [],
ts 1181 ["self", "status", "err"],
tp [],
ft "end" "Parser.end" (inClass (top 85) 20),
co "end" "Parser.end" 1178 591 3 0 0 3 707 true 181 708 (R 709) (R 710) (R 711) 1184,
fu "end" "Parser.end" (inClass (top 85) 20) [] (R 706) V (S "optwright.parsers" 948) 712 V,
ts 1187 ["allow_abbrev", "argument_default", "arguments", "commands_argument", "conflict_handler", "defaults", "description", "epilog", "exclusives", "exit_on_error", "file_signs", "files", "flags", "layout", "prefix_chars", "prog", "sections", "usage", "width"],
di [E P "__module__" 973 (S "optwright.parsers" 948), E P "__firstlineno__" 977 (.int 481 976), E P "__init__" 1002 (R 568), E P "twin" 1009 (R 575), E P "add_argument" 1018 (R 583), E P "add_to" 1030 (R 590), E P "join" 1036 (R 595), E P "take_away" 1042 (R 600), E P "add_argument_group" 1052 (R 608), E P "add_mutually_exclusive_group" 1061 (R 616), E P "add_exclusive" 1071 (R 623), E P "add_subparsers" 1092 (R 631), E P "take_commands" 1101 (R 638), E P "set_defaults" 1109 (R 645), E P "get_default" 1117 (R 652), E P "parse_args" 1126 (R 660), E P "parse_known_args" 1135 (R 668), E P "parse_intermixed_args" 1144 (R 676), E P "parse_known_intermixed_args" 1153 (R 684), E P "format_usage" 1160 (R 691), E P "format_help" 1167 (R 698), E P "error" 1175 (R 705), E P "end" 1186 (R 713), E P "__static_attributes__" 1206 (R 714), E P "__dict__" 1208 (R 717), E P "__weakref__" 1210 (R 718), E P "__doc__" 1211 V] 4,
⟨(.type "type"), none, .cls ⟨"Parser", [(.type "object")], [(R 716), (.type "object")], 715, "Parser", true, [], [], false, none, false⟩, ⟨[none, none, (some (S "Parser" 966)), (some (S "Parser" 974)), (some (.builtin "object.__new__")), (some (.bool true))]⟩⟩,
ob "getset_descriptor" [(S "__dict__" 1207), (R 716), (.builtin "function.__dict__"), (.builtin "function.__dict__#set")],
ob "getset_descriptor" [(S "__weakref__" 1209), (R 716), (.builtin "ExceptionGroup.__weakref__"), V],
ob "super" [(R 716), (R 716), (R 716)]]
def z18 (P : Params) : List Obj := [
ob "builtin_function_or_method" [(.builtin "object.__init_subclass__"), (R 716)],
tp [],
ct [],
ft "_law_t_laid" "_law_t_laid" (top 87),
co "_law_t_laid" "_law_t_laid" 1216 594 2 0 0 3 721 true 181 722 V V (R 723) 1219,
fu "_law_t_laid" "_law_t_laid" (top 87) [] V V (S "law_optwright_k46_long_words_cut" 1214) 724 V,
tp [],
ct [],
ts 1225 ["_law_stream", "_law_many", "_law_digit", "_law_mixed"],
tp [],
ft "_law_draw" "_law_draw" (top 88),
co "_law_draw" "_law_draw" 1222 605 2 0 0 3 726 true 181 727 (R 728) (R 729) (R 730) 1229,
fu "_law_draw" "_law_draw" (top 88) [] V V (S "law_optwright_k46_long_words_cut" 1214) 731 V,
tp [],
ct [],
ts 1235 ["_law_script"],
tp [],
ft "_law_start" "_law_start" (top 89),
co "_law_start" "_law_start" 1232 618 1 0 0 3 733 true 181 734 (R 735) (R 736) (R 737) 1236,
fu "_law_start" "_law_start" (top 89) [] V V (S "law_optwright_k46_long_words_cut" 1214) 738 V,
tp [],
ct [],
ts 1242 ["_law_stream", "_law_some"],
tp [],
ft "_law_pick" "_law_pick" (top 90),
co "_law_pick" "_law_pick" 1239 620 2 0 0 3 740 true 181 741 (R 742) (R 743) (R 744) 1244,
fu "_law_pick" "_law_pick" (top 90) [] V V (S "law_optwright_k46_long_words_cut" 1214) 745 V,
tp [],
ct [],
ft "_law_text" "_law_text" (top 91),
co "_law_text" "_law_text" 1247 622 1 0 0 3 747 true 181 748 V V (R 749) 1250,
fu "_law_text" "_law_text" (top 91) [] V V (S "law_optwright_k46_long_words_cut" 1214) 750 V,
tp [],
ct [],
ft "law" "law" (top 92),
co "law" "law" 1253 625 1 0 0 3 752 true 181 753 V V (R 754) 1256,
fu "law" "law" (top 92) [] V V (S "law_optwright_k46_long_words_cut" 1214) 755 V]
def zs (P : Params) : List Obj := z0 P ++ (z1 P ++ (z2 P ++ (z3 P ++ (z4 P ++ (z5 P ++ (z6 P ++ (z7 P ++ (z8 P ++ (z9 P ++ (z10 P ++ (z11 P ++ (z12 P ++ (z13 P ++ (z14 P ++ (z15 P ++ (z16 P ++ (z17 P ++ (z18 P))))))))))))))))))
noncomputable def sEnd (w : World) (os : OsState) : PySem.W.SharedT := ⟨bt 12 (zs w.params), 757, {}, ⟨[]⟩, {}, 1259, os⟩
end K46Z

namespace K46
open PySem PySem.Spec PyProof.Rows L2 PySem.W HandSHeadRun
/-! ### the run: it ends in the literal state; all looks are asked of that -/
theorem zRunE (w : World) (os : OsState) : endF (stepQ (denQ tabQ) R.prog w) 12000 R.prog w os = some (K46Z.sEnd w os) := by kernel_rfl
theorem zLk (w : World) (os : OsState) : looksF R.prog (boot_heap w.params) (K46Z.sEnd w os).abs = true := by kernel_rfl
theorem zSq (w : World) (os : OsState) : seenQ (PySem.W.view R.prog [92]) loose (importedModules R.prog.main.body) (fun s => xlAt (PySem.W.view R.prog [92]) [] s && recOk R.toRowW.records s) (K46Z.sEnd w os).abs = openGood (PySem.W.view R.prog [92]) loose := by kernel_rfl
theorem zOq (w : World) (os : OsState) : ob (K46Z.sEnd w os) = hk.val w := by kernel_rfl
theorem run (w : World) : XTop.RunTop R (PySem.W.view R.prog [92]) hk 12000 loose w := fun os => by
  have h0 : endF (stepT (denote treeTable) R.prog w) 12000 R.prog w os = some (K46Z.sEnd w os) := by
    rw [stepQ_eq, denQ_eq, tabQ_eq]
    exact zRunE w os
  have hv : (looksF R.prog (boot_heap w.params) (K46Z.sEnd w os).abs, seenQ (PySem.W.view R.prog [92]) loose (importedModules R.prog.main.body) (fun s => xlAt (PySem.W.view R.prog [92]) [] s && recOk R.toRowW.records s) (K46Z.sEnd w os).abs, ob (K46Z.sEnd w os)) = (true, openGood (PySem.W.view R.prog [92]) loose, hk.val w) :=
    Prod.ext (zLk w os) (Prod.ext (zSq w os) (zOq w os))
  rw [ob_eq] at hv
  exact ⟨_, 12000, Nat.le_refl _, endF_ok h0, hv⟩
end K46

namespace K46
open PySem PySem.Spec PyProof.Rows L2
theorem fun_ofD {K : PySem.W.Frag} {x qual : Str} {st : Stmt} {f : Addr} {fd : FuncData} {kws : List (Str × V)} (F : FunD K x qual (defArgs st) (defBody st) (defScope st) [] kws f fd) : Fun K x qual st f fd := by
  obtain ⟨oc, od, dV, kV, doc, pm, an, cdv, ct, osl, e, lk, cd, hD, _⟩ := F.ex
  rcases hD with ⟨_, rfl⟩ | ⟨q, _⟩
  · exact ⟨⟨oc, od, kV, doc, pm, an, cdv, ct, osl, e, lk, cd⟩, F.kp⟩
  · exact absurd rfl q
/-- the parameters of a parser in their order -/
def g_kb {α : Type} (vs _ds mz zs : List α) : List α := vs ++ ((mz.take 1) ++ (((zs.drop 1).take 1) ++ (((mz.drop 2).take 3) ++ ((zs.take 1) ++ (((mz.drop 6).take 5) ++ (((zs.drop 2).take 1) ++ ((mz.drop 12).take 2)))))))
theorem facts {P : Program} {w : World} {K : PySem.W.Frag} {h : Heap} {mg : Str → Option Value} {f : Addr} (X : K.In h) (G : h.Ns mainGlobals mg) (hfa : mg ("law" : Str) = some (.ref f)) (c : He.SaysD fa fn K) (cx : ex K = true) :
    ∃ fd : FuncData, (∀ (s : Shared) (v : Value), BindsTo s fd ⟨[v], []⟩ [("_law_script", v)]) ∧ ∀ base : Heap, K.In base → base.Ns mainGlobals mg → FnOk P w K mg base CX0 10 f fd ["_law_script"] (spLaw K) := by
  have z_int : mg "int" = none := He.free_ok X G (c.fact 0 (f := .free "int") rfl)
  have z_list : mg "list" = none := He.free_ok X G (c.fact 1 (f := .free "list") rfl)
  have z_tuple : mg "tuple" = none := He.free_ok X G (c.fact 2 (f := .free "tuple") rfl)
  have z_len : mg "len" = none := He.free_ok X G (c.fact 3 (f := .free "len") rfl)
  have z_isinstance : mg "isinstance" = none := He.free_ok X G (c.fact 4 (f := .free "isinstance") rfl)
  have z_dict : mg "dict" = none := He.free_ok X G (c.fact 5 (f := .free "dict") rfl)
  have z_sorted : mg "sorted" = none := He.free_ok X G (c.fact 6 (f := .free "sorted") rfl)
  have z_all : mg "all" = none := He.free_ok X G (c.fact 7 (f := .free "all") rfl)
  have z_zip : mg "zip" = none := He.free_ok X G (c.fact 8 (f := .free "zip") rfl)
  have z_range : mg "range" = none := He.free_ok X G (c.fact 9 (f := .free "range") rfl)
  have z_bool : mg "bool" = none := He.free_ok X G (c.fact 10 (f := .free "bool") rfl)
  have z_str : mg "str" = none := He.free_ok X G (c.fact 11 (f := .free "str") rfl)
  have z_any : mg "any" = none := He.free_ok X G (c.fact 12 (f := .free "any") rfl)
  have z_enumerate : mg "enumerate" = none := He.free_ok X G (c.fact 13 (f := .free "enumerate") rfl)
  have z_max : mg "max" = none := He.free_ok X G (c.fact 14 (f := .free "max") rfl)
  have z_min : mg "min" = none := He.free_ok X G (c.fact 15 (f := .free "min") rfl)
  have B : TxtB mg := ⟨z_int, z_list, z_tuple, z_len, z_isinstance, z_dict, z_sorted, z_all, z_zip, z_range, z_bool⟩
  have m_cop : mg "copied" = some (.ref (He.ga K "copied")) := He.glo_ok X G (c.fact 16 (f := .glo "copied") rfl)
  obtain ⟨fd_cop, D_cop⟩ := c.def_ 0 (d := d_cop) rfl
  have F_cop : Fun K "copied" "copied" sCop (He.ga K "copied") fd_cop := fun_ofD D_cop
  have b_cop := F_cop.binds (ps := ["value"]) fun _ _ _ _ _ _ us hl => match us, hl with | [_], _ => rfl
  have m_isr : mg "is_row" = some (.ref (He.ga K "is_row")) := He.glo_ok X G (c.fact 17 (f := .glo "is_row") rfl)
  obtain ⟨fd_isr, D_isr⟩ := c.def_ 1 (d := d_isr) rfl
  have F_isr : Fun K "is_row" "is_row" sIsRow (He.ga K "is_row") fd_isr := fun_ofD D_isr
  have b_isr := F_isr.binds (ps := ["thing"]) fun _ _ _ _ _ _ us hl => match us, hl with | [_], _ => rfl
  have m_isi : mg "is_integer" = some (.ref (He.ga K "is_integer")) := He.glo_ok X G (c.fact 18 (f := .glo "is_integer") rfl)
  obtain ⟨fd_isi, D_isi⟩ := c.def_ 2 (d := d_isi) rfl
  have F_isi : Fun K "is_integer" "is_integer" sIsInt (He.ga K "is_integer") fd_isi := fun_ofD D_isi
  have b_isi := F_isi.binds (ps := ["thing"]) fun _ _ _ _ _ _ us hl => match us, hl with | [_], _ => rfl
  have m_isv : mg "is_value" = some (.ref (He.ga K "is_value")) := He.glo_ok X G (c.fact 19 (f := .glo "is_value") rfl)
  obtain ⟨fd_isv, D_isv⟩ := c.def_ 3 (d := d_isv) rfl
  have F_isv : Fun K "is_value" "is_value" sIsVal (He.ga K "is_value") fd_isv := fun_ofD D_isv
  have b_isv := F_isv.binds (ps := ["thing"]) fun _ _ _ _ _ _ us hl => match us, hl with | [_], _ => rfl
  have m_isk : mg "is_kind" = some (.ref (He.ga K "is_kind")) := He.glo_ok X G (c.fact 20 (f := .glo "is_kind") rfl)
  obtain ⟨fd_isk, D_isk⟩ := c.def_ 4 (d := d_isk) rfl
  have F_isk : Fun K "is_kind" "is_kind" sIsKind (He.ga K "is_kind") fd_isk := fun_ofD D_isk
  have b_isk := F_isk.binds (ps := ["thing"]) fun _ _ _ _ _ _ us hl => match us, hl with | [_], _ => rfl
  have m_key : mg "keys_of" = some (.ref (He.ga K "keys_of")) := He.glo_ok X G (c.fact 21 (f := .glo "keys_of") rfl)
  obtain ⟨fd_key, D_key⟩ := c.def_ 5 (d := d_key) rfl
  have F_key : Fun K "keys_of" "keys_of" sKeys (He.ga K "keys_of") fd_key := fun_ofD D_key
  have b_key := F_key.binds (ps := ["action"]) fun _ _ _ _ _ _ us hl => match us, hl with | [_], _ => rfl
  have m_isf : mg "is_flag" = some (.ref (He.ga K "is_flag")) := He.glo_ok X G (c.fact 22 (f := .glo "is_flag") rfl)
  obtain ⟨fd_isf, D_isf⟩ := c.def_ 6 (d := d_isf) rfl
  have F_isf : Fun K "is_flag" "is_flag" sIsFlag (He.ga K "is_flag") fd_isf := fun_ofD D_isf
  have b_isf := F_isf.binds (ps := ["text", "prefix_chars"]) fun _ _ _ _ _ _ us hl => match us, hl with | [_, _], _ => rfl
  have m_gap : mg "has_gap" = some (.ref (He.ga K "has_gap")) := He.glo_ok X G (c.fact 23 (f := .glo "has_gap") rfl)
  obtain ⟨fd_gap, D_gap⟩ := c.def_ 7 (d := d_gap) rfl
  have F_gap : Fun K "has_gap" "has_gap" sHasGap (He.ga K "has_gap") fd_gap := fun_ofD D_gap
  have b_gap := F_gap.binds (ps := ["text"]) fun _ _ _ _ _ _ us hl => match us, hl with | [_], _ => rfl
  have m_chk : mg "checked_flags" = some (.ref (He.ga K "checked_flags")) := He.glo_ok X G (c.fact 24 (f := .glo "checked_flags") rfl)
  obtain ⟨fd_chk, D_chk⟩ := c.def_ 8 (d := d_chk) rfl
  have F_chk : Fun K "checked_flags" "checked_flags" sChkFlags (He.ga K "checked_flags") fd_chk := fun_ofD D_chk
  have b_chk := F_chk.binds (ps := ["flags", "prefix_chars"]) fun _ _ _ _ _ _ us hl => match us, hl with | [_, _], _ => rfl
  have m_nam : mg "named" = some (.ref (He.ga K "named")) := He.glo_ok X G (c.fact 25 (f := .glo "named") rfl)
  obtain ⟨fd_nam, D_nam⟩ := c.def_ 9 (d := d_nam) rfl
  have F_nam : Fun K "named" "named" sNamed (He.ga K "named") fd_nam := fun_ofD D_nam
  have b_nam := F_nam.binds (ps := ["flags", "made", "options", "prefix_chars"]) fun _ _ _ _ _ _ us hl => match us, hl with | [_, _, _, _], _ => rfl
  have m_wif : mg "with_fellows" = some (.ref (He.ga K "with_fellows")) := He.glo_ok X G (c.fact 26 (f := .glo "with_fellows") rfl)
  obtain ⟨fd_wif, D_wif⟩ := c.def_ 10 (d := d_wif) rfl
  have F_wif : Fun K "with_fellows" "with_fellows" sWithF (He.ga K "with_fellows") fd_wif := fun_ofD D_wif
  have b_wif := F_wif.binds (ps := ["flags", "prefix_chars"]) fun _ _ _ _ _ _ us hl => match us, hl with | [_, _], _ => rfl
  have m_fit : mg "fits_metavar" = some (.ref (He.ga K "fits_metavar")) := He.glo_ok X G (c.fact 27 (f := .glo "fits_metavar") rfl)
  obtain ⟨fd_fit, D_fit⟩ := c.def_ 11 (d := d_fit) rfl
  have F_fit : Fun K "fits_metavar" "fits_metavar" sFits (He.ga K "fits_metavar") fd_fit := fun_ofD D_fit
  have b_fit := F_fit.binds (ps := ["metavar", "nargs"]) fun _ _ _ _ _ _ us hl => match us, hl with | [_, _], _ => rfl
  have m_cw : mg "check_words" = some (.ref (He.ga K "check_words")) := He.glo_ok X G (c.fact 28 (f := .glo "check_words") rfl)
  obtain ⟨fd_cw, D_cw⟩ := c.def_ 12 (d := d_cw) rfl
  have F_cw : Fun K "check_words" "check_words" sChkWords (He.ga K "check_words") fd_cw := fun_ofD D_cw
  have b_cw := F_cw.binds (ps := ["action", "options"]) fun _ _ _ _ _ _ us hl => match us, hl with | [_, _], _ => rfl
  have m_co : mg "check_options" = some (.ref (He.ga K "check_options")) := He.glo_ok X G (c.fact 29 (f := .glo "check_options") rfl)
  obtain ⟨fd_co, D_co⟩ := c.def_ 13 (d := d_co) rfl
  have F_co : Fun K "check_options" "check_options" sChkOpts (He.ga K "check_options") fd_co := fun_ofD D_co
  have b_co := F_co.binds (ps := ["action", "options", "is_positional"]) fun _ _ _ _ _ _ us hl => match us, hl with | [_, _, _], _ => rfl
  have m_dfl : mg "default_of" = some (.ref (He.ga K "default_of")) := He.glo_ok X G (c.fact 30 (f := .glo "default_of") rfl)
  obtain ⟨fd_dfl, D_dfl⟩ := c.def_ 14 (d := d_dfl) rfl
  have F_dfl : Fun K "default_of" "default_of" sDflt (He.ga K "default_of") fd_dfl := fun_ofD D_dfl
  have b_dfl := F_dfl.binds (ps := ["action", "dest", "options", "defaults", "argument_default"]) fun _ _ _ _ _ _ us hl => match us, hl with | [_, _, _, _, _], _ => rfl
  have m_mad : mg "made_argument" = some (.ref (He.ga K "made_argument")) := He.glo_ok X G (c.fact 31 (f := .glo "made_argument") rfl)
  obtain ⟨fd_mad, D_mad⟩ := c.def_ 15 (d := d_mad) rfl
  have F_mad : Fun K "made_argument" "made_argument" sMadeArg (He.ga K "made_argument") fd_mad := fun_ofD D_mad
  have b_mad := F_mad.binds (ps := ["flags", "given", "parser", "is_exclusive"]) fun _ _ _ _ _ _ us hl => match us, hl with | [_, _, _, _], _ => rfl
  have m_sig : mg "is_signs" = some (.ref (He.ga K "is_signs")) := He.glo_ok X G (c.fact 32 (f := .glo "is_signs") rfl)
  obtain ⟨fd_sig, D_sig⟩ := c.def_ 16 (d := d_sig) rfl
  have F_sig : Fun K "is_signs" "is_signs" sIsSigns (He.ga K "is_signs") fd_sig := fun_ofD D_sig
  have b_sig := F_sig.binds (ps := ["thing"]) fun _ _ _ _ _ _ us hl => match us, hl with | [_], _ => rfl
  have m_sho : mg "is_shown" = some (.ref (He.ga K "is_shown")) := He.glo_ok X G (c.fact 33 (f := .glo "is_shown") rfl)
  obtain ⟨fd_sho, D_sho⟩ := c.def_ 17 (d := d_sho) rfl
  have F_sho : Fun K "is_shown" "is_shown" sIsShown (He.ga K "is_shown") fd_sho := fun_ofD D_sho
  have b_sho := F_sho.binds (ps := ["argument"]) fun _ _ _ _ _ _ us hl => match us, hl with | [_], _ => rfl
  have m_cho : mg "choices_of" = some (.ref (He.ga K "choices_of")) := He.glo_ok X G (c.fact 34 (f := .glo "choices_of") rfl)
  obtain ⟨fd_cho, D_cho⟩ := c.def_ 18 (d := d_cho) rfl
  have F_cho : Fun K "choices_of" "choices_of" sChoicesOf (He.ga K "choices_of") fd_cho := fun_ofD D_cho
  have b_cho := F_cho.binds (ps := ["argument"]) fun _ _ _ _ _ _ us hl => match us, hl with | [_], _ => rfl
  have m_wiw : mg "with_words" = some (.ref (He.ga K "with_words")) := He.glo_ok X G (c.fact 35 (f := .glo "with_words") rfl)
  obtain ⟨fd_wiw, D_wiw⟩ := c.def_ 19 (d := d_wiw) rfl
  have F_wiw : Fun K "with_words" "with_words" sWithWords (He.ga K "with_words") fd_wiw := fun_ofD D_wiw
  have b_wiw := F_wiw.binds (ps := ["shown", "argument", "layout"]) fun _ _ _ _ _ _ us hl => match us, hl with | [_, _, _], _ => rfl
  have m_hea : mg "head_of" = some (.ref (He.ga K "head_of")) := He.glo_ok X G (c.fact 36 (f := .glo "head_of") rfl)
  obtain ⟨fd_hea, D_hea⟩ := c.def_ 20 (d := d_hea) rfl
  have F_hea : Fun K "head_of" "head_of" sHeadOf (He.ga K "head_of") fd_hea := fun_ofD D_hea
  have b_hea := F_hea.binds (ps := ["argument", "layout"]) fun _ _ _ _ _ _ us hl => match us, hl with | [_, _], _ => rfl
  have m_bar : mg "bare_part" = some (.ref (He.ga K "bare_part")) := He.glo_ok X G (c.fact 37 (f := .glo "bare_part") rfl)
  obtain ⟨fd_bar, D_bar⟩ := c.def_ 21 (d := d_bar) rfl
  have F_bar : Fun K "bare_part" "bare_part" sBarePart (He.ga K "bare_part") fd_bar := fun_ofD D_bar
  have b_bar := F_bar.binds (ps := ["argument", "layout"]) fun _ _ _ _ _ _ us hl => match us, hl with | [_, _], _ => rfl
  have m_pto : mg "part_of" = some (.ref (He.ga K "part_of")) := He.glo_ok X G (c.fact 38 (f := .glo "part_of") rfl)
  obtain ⟨fd_pto, D_pto⟩ := c.def_ 22 (d := d_pto) rfl
  have F_pto : Fun K "part_of" "part_of" sPartOf (He.ga K "part_of") fd_pto := fun_ofD D_pto
  have b_pto := F_pto.binds (ps := ["argument", "layout"]) fun _ _ _ _ _ _ us hl => match us, hl with | [_, _], _ => rfl
  have m_tak : mg "taken" = some (.ref (He.ga K "taken")) := He.glo_ok X G (c.fact 39 (f := .glo "taken") rfl)
  obtain ⟨fd_tak, D_tak⟩ := c.def_ 23 (d := d_tak) rfl
  have F_tak : Fun K "taken" "taken" sTaken (He.ga K "taken") fd_tak := fun_ofD D_tak
  have b_tak := F_tak.binds (ps := ["first", "parts", "indent", "size"]) fun _ _ _ _ _ _ us hl => match us, hl with | [_, _, _, _], _ => rfl
  have m_usl : mg "usage_lines" = some (.ref (He.ga K "usage_lines")) := He.glo_ok X G (c.fact 40 (f := .glo "usage_lines") rfl)
  obtain ⟨fd_usl, D_usl⟩ := c.def_ 24 (d := d_usl) rfl
  have F_usl : Fun K "usage_lines" "usage_lines" sUsageLines (He.ga K "usage_lines") fd_usl := fun_ofD D_usl
  have b_usl := F_usl.binds (ps := ["start", "options", "positionals", "size"]) fun _ _ _ _ _ _ us hl => match us, hl with | [_, _, _, _], _ => rfl
  have m_pao : mg "parts_of" = some (.ref (He.ga K "parts_of")) := He.glo_ok X G (c.fact 41 (f := .glo "parts_of") rfl)
  obtain ⟨fd_pao, D_pao⟩ := c.def_ 25 (d := d_pao) rfl
  have F_pao : Fun K "parts_of" "parts_of" sPartsOf (He.ga K "parts_of") fd_pao := fun_ofD D_pao
  have b_pao := F_pao.binds (ps := ["arguments", "exclusives", "layout"]) fun _ _ _ _ _ _ us hl => match us, hl with | [_, _, _], _ => rfl
  have m_ust : mg "usage_text" = some (.ref (He.ga K "usage_text")) := He.glo_ok X G (c.fact 42 (f := .glo "usage_text") rfl)
  obtain ⟨fd_ust, D_ust⟩ := c.def_ 26 (d := d_ust) rfl
  have F_ust : Fun K "usage_text" "usage_text" sUsageText (He.ga K "usage_text") fd_ust := fun_ofD D_ust
  have b_ust := F_ust.binds (ps := ["parser"]) fun _ _ _ _ _ _ us hl => match us, hl with | [_], _ => rfl
  have m_val : mg "values_of" = some (.ref (He.ga K "values_of")) := He.glo_ok X G (c.fact 43 (f := .glo "values_of") rfl)
  obtain ⟨fd_val, D_val⟩ := c.def_ 27 (d := d_val) rfl
  have F_val : Fun K "values_of" "values_of" sValuesOf (He.ga K "values_of") fd_val := fun_ofD D_val
  have b_val := F_val.binds (ps := ["argument", "prog"]) fun _ _ _ _ _ _ us hl => match us, hl with | [_, _], _ => rfl
  have m_hsw : mg "has_words" = some (.ref (He.ga K "has_words")) := He.glo_ok X G (c.fact 44 (f := .glo "has_words") rfl)
  obtain ⟨fd_hsw, D_hsw⟩ := c.def_ 28 (d := d_hsw) rfl
  have F_hsw : Fun K "has_words" "has_words" sHasWords (He.ga K "has_words") fd_hsw := fun_ofD D_hsw
  have b_hsw := F_hsw.binds (ps := ["text"]) fun _ _ _ _ _ _ us hl => match us, hl with | [_], _ => rfl
  have m_hlo : mg "help_of" = some (.ref (He.ga K "help_of")) := He.glo_ok X G (c.fact 45 (f := .glo "help_of") rfl)
  obtain ⟨fd_hlo, D_hlo⟩ := c.def_ 29 (d := d_hlo) rfl
  have F_hlo : Fun K "help_of" "help_of" sHelpOf (He.ga K "help_of") fd_hlo := fun_ofD D_hlo
  have b_hlo := F_hlo.binds (ps := ["argument", "parser"]) fun _ _ _ _ _ _ us hl => match us, hl with | [_, _], _ => rfl
  have m_fil : mg "filled_in" = some (.ref (He.ga K "filled_in")) := He.glo_ok X G (c.fact 46 (f := .glo "filled_in") rfl)
  obtain ⟨fd_fil, D_fil⟩ := c.def_ 30 (d := d_fil) rfl
  have F_fil : Fun K "filled_in" "filled_in" sFilled (He.ga K "filled_in") fd_fil := fun_ofD D_fil
  have b_fil := F_fil.binds (ps := ["text", "values"]) fun _ _ _ _ _ _ us hl => match us, hl with | [_, _], _ => rfl
  have m_lai : mg "laid_out" = some (.ref (He.ga K "laid_out")) := He.glo_ok X G (c.fact 47 (f := .glo "laid_out") rfl)
  obtain ⟨fd_lai, D_lai⟩ := c.def_ 31 (d := d_lai) rfl
  have F_lai : Fun K "laid_out" "laid_out" sLaidOut (He.ga K "laid_out") fd_lai := fun_ofD D_lai
  have b_lai := F_lai.binds (ps := ["text", "size"]) fun _ _ _ _ _ _ us hl => match us, hl with | [_, _], _ => rfl
  have m_des : mg "described" = some (.ref (He.ga K "described")) := He.glo_ok X G (c.fact 48 (f := .glo "described") rfl)
  obtain ⟨fd_des, D_des⟩ := c.def_ 32 (d := d_des) rfl
  have F_des : Fun K "described" "described" sDescribed (He.ga K "described") fd_des := fun_ofD D_des
  have b_des := F_des.binds (ps := ["text", "parser", "indent"]) fun _ _ _ _ _ _ us hl => match us, hl with | [_, _, _], _ => rfl
  have m_squ : mg "squeezed" = some (.ref (He.ga K "squeezed")) := He.glo_ok X G (c.fact 49 (f := .glo "squeezed") rfl)
  obtain ⟨fd_squ, D_squ⟩ := c.def_ 33 (d := d_squ) rfl
  have F_squ : Fun K "squeezed" "squeezed" sSqueezed (He.ga K "squeezed") fd_squ := fun_ofD D_squ
  have b_squ := F_squ.binds (ps := ["text"]) fun _ _ _ _ _ _ us hl => match us, hl with | [_], _ => rfl
  have m_ser : mg "section_rows" = some (.ref (He.ga K "section_rows")) := He.glo_ok X G (c.fact 50 (f := .glo "section_rows") rfl)
  obtain ⟨fd_ser, D_ser⟩ := c.def_ 34 (d := d_ser) rfl
  have F_ser : Fun K "section_rows" "section_rows" sSecRows (He.ga K "section_rows") fd_ser := fun_ofD D_ser
  have b_ser := F_ser.binds (ps := ["section", "parser"]) fun _ _ _ _ _ _ us hl => match us, hl with | [_, _], _ => rfl
  have m_rot : mg "row_text" = some (.ref (He.ga K "row_text")) := He.glo_ok X G (c.fact 51 (f := .glo "row_text") rfl)
  obtain ⟨fd_rot, D_rot⟩ := c.def_ 35 (d := d_rot) rfl
  have F_rot : Fun K "row_text" "row_text" sRowText (He.ga K "row_text") fd_rot := fun_ofD D_rot
  have b_rot := F_rot.binds (ps := ["head", "text", "column", "parser"]) fun _ _ _ _ _ _ us hl => match us, hl with | [_, _, _, _], _ => rfl
  have m_set : mg "section_text" = some (.ref (He.ga K "section_text")) := He.glo_ok X G (c.fact 52 (f := .glo "section_text") rfl)
  obtain ⟨fd_set, D_set⟩ := c.def_ 36 (d := d_set) rfl
  have F_set : Fun K "section_text" "section_text" sSecText (He.ga K "section_text") fd_set := fun_ofD D_set
  have b_set := F_set.binds (ps := ["section", "rows", "column", "parser"]) fun _ _ _ _ _ _ us hl => match us, hl with | [_, _, _, _], _ => rfl
  have m_foh : mg "format_help_helping" = some (.ref (He.ga K "format_help_helping")) := He.glo_ok X G (c.fact 53 (f := .glo "format_help_helping") rfl)
  obtain ⟨fd_foh, D_foh⟩ := c.def_ 37 (d := d_foh) rfl
  have F_foh : Fun K "format_help" "format_help" sFormatHelp (He.ga K "format_help_helping") fd_foh := fun_ofD D_foh
  have b_foh := F_foh.binds (ps := ["parser"]) fun _ _ _ _ _ _ us hl => match us, hl with | [_], _ => rfl
  have m_drw : mg "_law_draw" = some (.ref (He.ga K "_law_draw")) := He.glo_ok X G (c.fact 54 (f := .glo "_law_draw") rfl)
  obtain ⟨fd_drw, D_drw⟩ := c.def_ 38 (d := d_drw) rfl
  have F_drw : Fun K "_law_draw" "_law_draw" sDraw (He.ga K "_law_draw") fd_drw := fun_ofD D_drw
  have b_drw := F_drw.binds (ps := ["_law_stream", "_law_many"]) fun _ _ _ _ _ _ us hl => match us, hl with | [_, _], _ => rfl
  have m_sta : mg "_law_start" = some (.ref (He.ga K "_law_start")) := He.glo_ok X G (c.fact 55 (f := .glo "_law_start") rfl)
  obtain ⟨fd_sta, D_sta⟩ := c.def_ 39 (d := d_sta) rfl
  have F_sta : Fun K "_law_start" "_law_start" sStart (He.ga K "_law_start") fd_sta := fun_ofD D_sta
  have b_sta := F_sta.binds (ps := ["_law_script"]) fun _ _ _ _ _ _ us hl => match us, hl with | [_], _ => rfl
  have m_pck : mg "_law_pick" = some (.ref (He.ga K "_law_pick")) := He.glo_ok X G (c.fact 56 (f := .glo "_law_pick") rfl)
  obtain ⟨fd_pck, D_pck⟩ := c.def_ 40 (d := d_pck) rfl
  have F_pck : Fun K "_law_pick" "_law_pick" sPick (He.ga K "_law_pick") fd_pck := fun_ofD D_pck
  have b_pck := F_pck.binds (ps := ["_law_stream", "_law_some"]) fun _ _ _ _ _ _ us hl => match us, hl with | [_, _], _ => rfl
  have m_txt : mg "_law_text" = some (.ref (He.ga K "_law_text")) := He.glo_ok X G (c.fact 57 (f := .glo "_law_text") rfl)
  obtain ⟨fd_txt, D_txt⟩ := c.def_ 41 (d := d_txt) rfl
  have F_txt : Fun K "_law_text" "_law_text" sTextL (He.ga K "_law_text") fd_txt := fun_ofD D_txt
  have b_txt := F_txt.binds (ps := ["_law_stream"]) fun _ _ _ _ _ _ us hl => match us, hl with | [_], _ => rfl
  have m_lla : mg "_law_t_laid" = some (.ref (He.ga K "_law_t_laid")) := He.glo_ok X G (c.fact 58 (f := .glo "_law_t_laid") rfl)
  obtain ⟨fd_lla, D_lla⟩ := c.def_ 42 (d := d_lla) rfl
  have F_lla : Fun K "_law_t_laid" "_law_t_laid" sLaidL (He.ga K "_law_t_laid") fd_lla := fun_ofD D_lla
  have b_lla := F_lla.binds (ps := ["_law_text_here", "_law_size"]) fun _ _ _ _ _ _ us hl => match us, hl with | [_, _], _ => rfl
  have m_law : mg "law" = some (.ref (He.ga K "law")) := He.glo_ok X G (c.fact 59 (f := .glo "law") rfl)
  obtain ⟨fd_law, D_law⟩ := c.def_ 43 (d := d_law) rfl
  have F_law : Fun K "law" "law" sLaw (He.ga K "law") fd_law := fun_ofD D_law
  have b_law := F_law.binds (ps := ["_law_script"]) fun _ _ _ _ _ _ us hl => match us, hl with | [_], _ => rfl
  obtain ⟨fd_argI, D_argI⟩ := c.def_ 44 (d := d_argI) rfl
  have F_argI : Fun K "__init__" "Argument.__init__" sArgI (He.ma K (He.ga K "Argument") "__init__") fd_argI := fun_ofD D_argI
  have b_argI := F_argI.binds (ps := ["self", "flags", "dest", "action"]) fun _ _ _ _ _ _ us hl => match us, hl with | [_, _, _, _], _ => rfl
  obtain ⟨fd_secI, D_secI⟩ := c.def_ 45 (d := d_secI) rfl
  have F_secI : Fun K "__init__" "Section.__init__" sSecI (He.ma K (He.ga K "Section") "__init__") fd_secI := fun_ofD D_secI
  have b_secI := F_secI.binds (ps := ["self", "home", "title", "description"]) fun _ _ _ _ _ _ us hl => match us, hl with | [_, _, _, _], _ => rfl
  obtain ⟨fd_adt, D_adt⟩ := c.def_ 46 (d := d_adt) rfl
  have F_adt : Fun K "add_to" "Parser.add_to" sAddTo (He.ma K (He.ga K "Parser") "add_to") fd_adt := fun_ofD D_adt
  have b_adt := F_adt.binds (ps := ["self", "section", "exclusive", "flags", "options"]) fun _ _ _ _ _ _ us hl => match us, hl with | [_, _, _, _, _], _ => rfl
  obtain ⟨fd_joi, D_joi⟩ := c.def_ 47 (d := d_joi) rfl
  have F_joi : Fun K "join" "Parser.join" sJoin (He.ma K (He.ga K "Parser") "join") fd_joi := fun_ofD D_joi
  have b_joi := F_joi.binds (ps := ["self", "argument", "section", "exclusive"]) fun _ _ _ _ _ _ us hl => match us, hl with | [_, _, _, _], _ => rfl
  obtain ⟨fd_pfh, D_pfh⟩ := c.def_ 48 (d := d_pfh) rfl
  have F_pfh : Fun K "format_help" "Parser.format_help" sParFH (He.ma K (He.ga K "Parser") "format_help") fd_pfh := fun_ofD D_pfh
  have b_pfh := F_pfh.binds (ps := ["self"]) fun _ _ _ _ _ _ us hl => match us, hl with | [_], _ => rfl
  have m_Parser : mg "Parser" = some (.ref (He.ga K "Parser")) := He.glo_ok X G (c.fact 60 (f := .glo "Parser") rfl)
  have m_Argument : mg "Argument" = some (.ref (He.ga K "Argument")) := He.glo_ok X G (c.fact 61 (f := .glo "Argument") rfl)
  have m_Section : mg "Section" = some (.ref (He.ga K "Section")) := He.glo_ok X G (c.fact 62 (f := .glo "Section") rfl)
  unfold ex at cx
  simp only [Bool.and_eq_true] at cx
  obtain ⟨cW, ⟨cC, ⟨cO, ⟨cN, ⟨cL, ⟨cA, ⟨cn1, cn2⟩⟩⟩⟩⟩⟩⟩ := cx
  have k_W : KT K mg "WITH_WORDS" (He.ga K "WITH_WORDS") wW := ⟨He.glo_ok X G (c.fact 63 (f := .glo "WITH_WORDS") rfl), fun H => He.tupB_ok cW H⟩
  have k_C : KT K mg "WITH_CONST" (He.ga K "WITH_CONST") wC := ⟨He.glo_ok X G (c.fact 64 (f := .glo "WITH_CONST") rfl), fun H => He.tupB_ok cC H⟩
  have k_O : KT K mg "WITHOUT" (He.ga K "WITHOUT") wO := ⟨He.glo_ok X G (c.fact 65 (f := .glo "WITHOUT") rfl), fun H => He.tupB_ok cO H⟩
  have k_N : KT K mg "WORD_COUNTS" (He.ga K "WORD_COUNTS") wN := ⟨He.glo_ok X G (c.fact 66 (f := .glo "WORD_COUNTS") rfl), fun H => He.tupB_ok cN H⟩
  have k_L : KT K mg "LISTS" (He.ga K "LISTS") wL := ⟨He.glo_ok X G (c.fact 67 (f := .glo "LISTS") rfl), fun H => He.tupB_ok cL H⟩
  have k_A : KT K mg "ALWAYS" (He.ga K "ALWAYS") wA := ⟨He.glo_ok X G (c.fact 68 (f := .glo "ALWAYS") rfl), fun H => He.tupB_ok cA H⟩
  have e_SUP := He.str_ok X G (c.fact 69 (f := .str "SUPPRESS" "==SUPPRESS==") rfl)
  obtain ⟨t_SUP, m_SUP⟩ := He.str_ok X G (c.fact 69 (f := .str "SUPPRESS" "==SUPPRESS==") rfl)
  have e_VH := He.str_ok X G (c.fact 70 (f := .str "VERSION_HELP" "show program's version number and exit") rfl)
  obtain ⟨t_VH, m_VH⟩ := He.str_ok X G (c.fact 70 (f := .str "VERSION_HELP" "show program's version number and exit") rfl)
  have e_NOS := He.str_ok X G (c.fact 71 (f := .str "NO_SIGNS" "abcdefghijklmnopqrstuvwxyzABCDEFGHIJKLMNOPQRSTUVWXYZ0123456789 \n=") rfl)
  obtain ⟨t_NOS, m_NOS⟩ := He.str_ok X G (c.fact 71 (f := .str "NO_SIGNS" "abcdefghijklmnopqrstuvwxyzABCDEFGHIJKLMNOPQRSTUVWXYZ0123456789 \n=") rfl)
  have e_STA := He.str_ok X G (c.fact 72 (f := .str "START" "usage: ") rfl)
  obtain ⟨t_STA, m_STA⟩ := He.str_ok X G (c.fact 72 (f := .str "START" "usage: ") rfl)
  have Z : TxtK K mg _ _ _ _ _ _ := ⟨k_W, k_C, k_O, k_N, k_L, k_A, e_SUP, e_VH, z_str, z_any, z_enumerate⟩
  have cP : ClsN K (He.ga K "Parser") parF := by
    refine ⟨He.cls_ok (c.fact 73 (f := .cls "Parser") rfl), fun f hf => ?_⟩
    simp only [parF, List.mem_cons, List.not_mem_nil, or_false] at hf
    rcases hf with rfl | rfl | rfl | rfl | rfl | rfl | rfl | rfl | rfl | rfl | rfl | rfl | rfl | rfl | rfl | rfl | rfl | rfl | rfl
    · exact He.noat_ok (c.fact 75 (f := .noat "Parser" "prog") rfl)
    · exact He.noat_ok (c.fact 76 (f := .noat "Parser" "usage") rfl)
    · exact He.noat_ok (c.fact 77 (f := .noat "Parser" "description") rfl)
    · exact He.noat_ok (c.fact 78 (f := .noat "Parser" "epilog") rfl)
    · exact He.noat_ok (c.fact 79 (f := .noat "Parser" "layout") rfl)
    · exact He.noat_ok (c.fact 80 (f := .noat "Parser" "width") rfl)
    · exact He.noat_ok (c.fact 81 (f := .noat "Parser" "prefix_chars") rfl)
    · exact He.noat_ok (c.fact 82 (f := .noat "Parser" "file_signs") rfl)
    · exact He.noat_ok (c.fact 83 (f := .noat "Parser" "files") rfl)
    · exact He.noat_ok (c.fact 84 (f := .noat "Parser" "argument_default") rfl)
    · exact He.noat_ok (c.fact 85 (f := .noat "Parser" "conflict_handler") rfl)
    · exact He.noat_ok (c.fact 86 (f := .noat "Parser" "allow_abbrev") rfl)
    · exact He.noat_ok (c.fact 87 (f := .noat "Parser" "exit_on_error") rfl)
    · exact He.noat_ok (c.fact 88 (f := .noat "Parser" "arguments") rfl)
    · exact He.noat_ok (c.fact 89 (f := .noat "Parser" "flags") rfl)
    · exact He.noat_ok (c.fact 90 (f := .noat "Parser" "exclusives") rfl)
    · exact He.noat_ok (c.fact 91 (f := .noat "Parser" "defaults") rfl)
    · exact He.noat_ok (c.fact 92 (f := .noat "Parser" "commands_argument") rfl)
    · exact He.noat_ok (c.fact 93 (f := .noat "Parser" "sections") rfl)
  have mk_Parser : Mk K (He.ga K "Parser") (He.ma K (He.ga K "Parser") "__init__") := He.mkr_ok (c.fact 74 (f := .mkr "Parser") rfl)
  have cA : ClsN K (He.ga K "Argument") argF := by
    refine ⟨He.cls_ok (c.fact 94 (f := .cls "Argument") rfl), fun f hf => ?_⟩
    simp only [argF, List.mem_cons, List.not_mem_nil, or_false] at hf
    rcases hf with rfl | rfl | rfl | rfl | rfl | rfl | rfl | rfl | rfl | rfl | rfl | rfl | rfl | rfl | rfl
    · exact He.noat_ok (c.fact 96 (f := .noat "Argument" "flags") rfl)
    · exact He.noat_ok (c.fact 97 (f := .noat "Argument" "dest") rfl)
    · exact He.noat_ok (c.fact 98 (f := .noat "Argument" "action") rfl)
    · exact He.noat_ok (c.fact 99 (f := .noat "Argument" "is_option") rfl)
    · exact He.noat_ok (c.fact 100 (f := .noat "Argument" "nargs") rfl)
    · exact He.noat_ok (c.fact 101 (f := .noat "Argument" "const") rfl)
    · exact He.noat_ok (c.fact 102 (f := .noat "Argument" "default") rfl)
    · exact He.noat_ok (c.fact 103 (f := .noat "Argument" "kind") rfl)
    · exact He.noat_ok (c.fact 104 (f := .noat "Argument" "choices") rfl)
    · exact He.noat_ok (c.fact 105 (f := .noat "Argument" "required") rfl)
    · exact He.noat_ok (c.fact 106 (f := .noat "Argument" "help") rfl)
    · exact He.noat_ok (c.fact 107 (f := .noat "Argument" "metavar") rfl)
    · exact He.noat_ok (c.fact 108 (f := .noat "Argument" "version") rfl)
    · exact He.noat_ok (c.fact 109 (f := .noat "Argument" "commands") rfl)
    · exact He.noat_ok (c.fact 110 (f := .noat "Argument" "fellows") rfl)
  have mk_Argument : Mk K (He.ga K "Argument") (He.ma K (He.ga K "Argument") "__init__") := He.mkr_ok (c.fact 95 (f := .mkr "Argument") rfl)
  have cS : ClsN K (He.ga K "Section") secF := by
    refine ⟨He.cls_ok (c.fact 111 (f := .cls "Section") rfl), fun f hf => ?_⟩
    simp only [secF, List.mem_cons, List.not_mem_nil, or_false] at hf
    rcases hf with rfl | rfl | rfl | rfl
    · exact He.noat_ok (c.fact 113 (f := .noat "Section" "home") rfl)
    · exact He.noat_ok (c.fact 114 (f := .noat "Section" "title") rfl)
    · exact He.noat_ok (c.fact 115 (f := .noat "Section" "description") rfl)
    · exact He.noat_ok (c.fact 116 (f := .noat "Section" "members") rfl)
  have mk_Section : Mk K (He.ga K "Section") (He.ma K (He.ga K "Section") "__init__") := He.mkr_ok (c.fact 112 (f := .mkr "Section") rfl)
  have mt_Parser_add_argument : Meth K (He.ga K "Parser") "add_argument" (He.ma K (He.ga K "Parser") "add_argument") := He.meth_ok (c.fact 117 (f := .meth "Parser" "add_argument") rfl)
  have mt_Parser_add_to : Meth K (He.ga K "Parser") "add_to" (He.ma K (He.ga K "Parser") "add_to") := He.meth_ok (c.fact 118 (f := .meth "Parser" "add_to") rfl)
  have mt_Parser_join : Meth K (He.ga K "Parser") "join" (He.ma K (He.ga K "Parser") "join") := He.meth_ok (c.fact 119 (f := .meth "Parser" "join") rfl)
  have mt_Parser_add_argument_group : Meth K (He.ga K "Parser") "add_argument_group" (He.ma K (He.ga K "Parser") "add_argument_group") := He.meth_ok (c.fact 120 (f := .meth "Parser" "add_argument_group") rfl)
  have mt_Parser_format_help : Meth K (He.ga K "Parser") "format_help" (He.ma K (He.ga K "Parser") "format_help") := He.meth_ok (c.fact 121 (f := .meth "Parser" "format_help") rfl)
  obtain ⟨hP, _⟩ := nilB_ok cn1
  obtain ⟨hL, tL⟩ := nilB_ok cn2
  obtain ⟨fd_par, D_par⟩ := c.def_ 51 (d := d_parI) rfl
  obtain ⟨fd_add, D_add⟩ := c.def_ 49 (d := d_add) rfl
  obtain ⟨ds_add, vd_add, b_add⟩ := FunD.binds1 D_add (ps := ["self", "flags", "options"]) 3 1 (fun z => nomatch z) rfl fun T kV doc pm an cdv ct us its h1 h2 => match us, its, h1, h2 with | [_, _, _], [_], _, _ => ⟨_, rfl, rfl⟩
  cases vd_add
  obtain ⟨fd_adg, D_adg⟩ := c.def_ 50 (d := d_adg) rfl
  obtain ⟨ds_adg, vd_adg, b_adg⟩ := FunD.binds1 D_adg (ps := ["self", "title", "description"]) 3 2 (fun z => nomatch z) rfl fun T kV doc pm an cdv ct us its h1 h2 => match us, its, h1, h2 with | [_, _, _], [_, _], _, _ => ⟨_, rfl, rfl⟩
  cases vd_adg
  have hkb : ∃ its mv : List Value, KBn K fd_par pParI 2 ["width", "description", "add_help"] (fun us ws => g_kb us its mv ws) (fun vs zs => g_kb vs [.str "program"] [.non, .non, .non, .ref (kwAt ("Parser", some "__init__") "parents" K), .ref (kwAt ("Parser", some "__init__") "layout" K), .int 78, .str "-", .str "", .non, .non, .str "error", .bl true, .bl true, .bl true] zs) := by
    refine XB.kbn D_par (ns := ["self", "prog"]) (ko := ["usage", "description", "epilog", "parents", "layout", "width", "prefix_chars", "fromfile_prefix_chars", "files", "argument_default", "conflict_handler", "add_help", "allow_abbrev", "exit_on_error"]) (ps := pParI) 2 ["width", "description", "add_help"] (fun z => nomatch z) (fun z => nomatch z) rfl rfl rfl rfl rfl rfl (by decide) (by show 1 ≤ 2; decide) (by decide +kernel) (by decide +kernel) ?_ (fun a b c d => g_kb a b c d) (fun r1 r2 r3 r4 => r1.append ((r3.take 1).append (((r4.drop 1).take 1).append (((r3.drop 2).take 3).append ((r4.take 1).append (((r3.drop 6).take 5).append (((r4.drop 2).take 1).append ((r3.drop 12).take 2)))))))) ?_
    · show ∀ x ∈ (["self", "prog"] : List Str).take (2 - 1), ((["self", "prog"] : List Str).take 2 ++ (["width", "description", "add_help"] : List Str)).contains x = true
      decide +kernel
    · intro us its mv ws h1 h2 h3 h4
      match us, its, mv, ws, h1, h2, h3, h4 with
      | [_, _], [_], [_, _, _, _, _, _, _, _, _, _, _, _, _, _], [_, _, _], _, _, _, _ => kernel_rfl
  obtain ⟨itskb, mvkb, kb⟩ := hkb
  have e := hfa.symm.trans m_law
  cases e
  refine ⟨fd_law, fun s v => ?_, fun base _ _ => ?_⟩
  · exact FunD.bindsA (ps := ["_law_script"]) D_law (fun _ _ _ _ _ _ us hl => match us, hl with | [_], _ => rfl) s [v] rfl
  have A_cop : At P w K mg base "copied" 4 ["value"] (spCop 3) _ fd_cop := ⟨okCop F_cop B m_cop F_cop.kp b_cop 3, m_cop, F_cop.kp, b_cop⟩
  have A_isr : At P w K mg base "is_row" 1 ["thing"] (spIsRow K) _ fd_isr := ⟨ok_isRow F_isr B, m_isr, F_isr.kp, b_isr⟩
  have A_isi : At P w K mg base "is_integer" 1 ["thing"] (spIsInt K) _ fd_isi := ⟨ok_isInt F_isi B, m_isi, F_isi.kp, b_isi⟩
  have A_isv : At P w K mg base "is_value" 4 ["thing"] (spIsVal 3) _ fd_isv := ⟨okIsVal F_isv B z_str A_isr m_isv F_isv.kp b_isv 3, m_isv, F_isv.kp, b_isv⟩
  have A_isk : At P w K mg base "is_kind" 1 ["thing"] spIsKind _ fd_isk := ⟨ok_isKind F_isk B z_str, m_isk, F_isk.kp, b_isk⟩
  have A_gap : At P w K mg base "has_gap" 1 ["text"] spHasGap _ fd_gap := ⟨ok_hasGap F_gap z_any, m_gap, F_gap.kp, b_gap⟩
  have A_isf : At P w K mg base "is_flag" 2 ["text", "prefix_chars"] spIsFlag _ fd_isf := ⟨ok_isFlag F_isf A_gap, m_isf, F_isf.kp, b_isf⟩
  have A_chk : At P w K mg base "checked_flags" 3 ["flags", "prefix_chars"] (spChk K) _ fd_chk := ⟨ok_chk F_chk B z_str A_isr A_isf, m_chk, F_chk.kp, b_chk⟩
  have A_nam : At P w K mg base "named" 1 ["flags", "made", "options", "prefix_chars"] spNamed _ fd_nam := ⟨ok_named F_nam B z_str, m_nam, F_nam.kp, b_nam⟩
  have A_wif : At P w K mg base "with_fellows" 1 ["flags", "prefix_chars"] spWithF _ fd_wif := ⟨ok_withF F_wif B, m_wif, F_wif.kp, b_wif⟩
  have A_key : At P w K mg base "keys_of" 1 ["action"] (spKeysT K) _ fd_key := ⟨ok_keys F_key Z, m_key, F_key.kp, b_key⟩
  have A_fit : At P w K mg base "fits_metavar" 2 ["metavar", "nargs"] spFits _ fd_fit := ⟨ok_fits F_fit B z_str A_isr A_isi, m_fit, F_fit.kp, b_fit⟩
  have A_cw : At P w K mg base "check_words" 5 ["action", "options"] spWords _ fd_cw := ⟨ok_words F_cw B Z A_isi A_isk A_fit A_isr A_isv, m_cw, F_cw.kp, b_cw⟩
  have A_co : At P w K mg base "check_options" 6 ["action", "options", "is_positional"] spChkO _ fd_co := ⟨ok_chkO F_co B Z A_key A_cw, m_co, F_co.kp, b_co⟩
  have A_dfl : At P w K mg base "default_of" 5 ["action", "dest", "options", "defaults", "argument_default"] spDflt _ fd_dfl := ⟨ok_dflt F_dfl Z A_cop, m_dfl, F_dfl.kp, b_dfl⟩
  have g_argI := ok_argI (P := P) (w := w) (mg := mg) (base := base) F_argI cA
  have g_secI := ok_secI (P := P) (w := w) (mg := mg) (base := base) F_secI cS
  have A_mad : At P w K mg base "made_argument" 7 ["flags", "given", "parser", "is_exclusive"] (spMade (He.ga K "Argument") (He.ga K "Parser")) _ fd_mad := ⟨ok_made F_mad B Z cP cA A_chk A_nam A_co A_dfl A_cop A_isr A_wif m_Argument mk_Argument g_argI b_argI, m_mad, F_mad.kp, b_mad⟩
  have g_joi := ok_join (P := P) (w := w) (mg := mg) (base := base) F_joi B cP cA cS
  have g_adt := ok_addTo (P := P) (w := w) (mg := mg) (base := base) F_adt cP A_mad g_joi mt_Parser_join b_joi
  have g_add : FnOk P w K mg base CX0 9 (He.ma K (He.ga K "Parser") "add_argument") fd_add ["self", "flags", "options"] (spAdd (He.ga K "Parser") (He.ga K "Section") (He.ga K "Argument")) := ok_add D_add cP g_adt mt_Parser_add_to b_adt
  have A_sig : At P w K mg base "is_signs" 1 ["thing"] spSigns _ fd_sig := ⟨ok_signs F_sig B z_str z_any m_NOS (by decide +kernel), m_sig, F_sig.kp, b_sig⟩
  have g_par : FnOk P w K mg base CX0 5 (He.ma K (He.ga K "Parser") "__init__") fd_par pParI (spParI (He.ga K "Parser") (He.ga K "Section") (kwAt ("Parser", some "__init__") "parents" K) (kwAt ("Parser", some "__init__") "layout" K)) := ok_parI D_par B z_str cP hP hL tL A_isr A_isi A_sig A_cop m_Section mk_Section g_secI b_secI
  have A_fil : At P w K mg base "filled_in" 2 ["text", "values"] spFill _ fd_fil := ⟨ok_fill F_fil B, m_fil, F_fil.kp, b_fil⟩
  have A_lai : At P w K mg base "laid_out" 1 ["text", "size"] spLaid _ fd_lai := ⟨ok_laid F_lai B z_max, m_lai, F_lai.kp, b_lai⟩
  have A_des : At P w K mg base "described" 3 ["text", "parser", "indent"] (spDesc K (He.ga K "Parser")) _ fd_des := ⟨ok_desc F_des B z_max cP A_fil A_lai, m_des, F_des.kp, b_des⟩
  have A_squ : At P w K mg base "squeezed" 1 ["text"] spSq _ fd_squ := ⟨ok_sq F_squ, m_squ, F_squ.kp, b_squ⟩
  have A_sho : At P w K mg base "is_shown" 1 ["argument"] (spShown (He.ga K "Argument")) _ fd_sho := ⟨ok_shown F_sho cA m_SUP, m_sho, F_sho.kp, b_sho⟩
  have A_cho : At P w K mg base "choices_of" 1 ["argument"] (spChoices (He.ga K "Argument")) _ fd_cho := ⟨ok_choices F_cho cA, m_cho, F_cho.kp, b_cho⟩
  have A_wiw : At P w K mg base "with_words" 1 ["shown", "argument", "layout"] (spWithW (He.ga K "Argument")) _ fd_wiw := ⟨ok_withW F_wiw cA, m_wiw, F_wiw.kp, b_wiw⟩
  have A_hea : At P w K mg base "head_of" 2 ["argument", "layout"] (spHead (He.ga K "Argument")) _ fd_hea := ⟨ok_head F_hea cA A_wiw, m_hea, F_hea.kp, b_hea⟩
  have A_bar : At P w K mg base "bare_part" 2 ["argument", "layout"] (spHead (He.ga K "Argument")) _ fd_bar := ⟨ok_bare F_bar cA A_wiw, m_bar, F_bar.kp, b_bar⟩
  have A_pto : At P w K mg base "part_of" 3 ["argument", "layout"] (spPart (He.ga K "Argument")) _ fd_pto := ⟨ok_part F_pto cA A_bar, m_pto, F_pto.kp, b_pto⟩
  have A_tak : At P w K mg base "taken" 1 ["first", "parts", "indent", "size"] spTaken _ fd_tak := ⟨ok_taken F_tak B, m_tak, F_tak.kp, b_tak⟩
  have A_usl : At P w K mg base "usage_lines" 2 ["start", "options", "positionals", "size"] spULines _ fd_usl := ⟨ok_ulines F_usl B m_STA A_tak, m_usl, F_usl.kp, b_usl⟩
  have A_pao : At P w K mg base "parts_of" 4 ["arguments", "exclusives", "layout"] (spParts (He.ga K "Argument")) _ fd_pao := ⟨ok_parts F_pao B cA A_pto A_sho, m_pao, F_pao.kp, b_pao⟩
  have A_ust : At P w K mg base "usage_text" 5 ["parser"] (spUsage K (He.ga K "Parser") (He.ga K "Argument")) _ fd_ust := ⟨ok_usage F_ust B cP cA m_STA A_pao A_usl, m_ust, F_ust.kp, b_ust⟩
  have A_val : At P w K mg base "values_of" 2 ["argument", "prog"] (spValues (He.ga K "Argument")) _ fd_val := ⟨ok_values F_val cA z_str m_SUP A_cho, m_val, F_val.kp, b_val⟩
  have A_hsw : At P w K mg base "has_words" 1 ["text"] spHasW _ fd_hsw := ⟨ok_hasW F_hsw B, m_hsw, F_hsw.kp, b_hsw⟩
  have A_hlo : At P w K mg base "help_of" 3 ["argument", "parser"] (spHelpOf K (He.ga K "Parser") (He.ga K "Argument")) _ fd_hlo := ⟨ok_helpOf F_hlo cP cA A_hsw A_fil A_val, m_hlo, F_hlo.kp, b_hlo⟩
  have A_ser : At P w K mg base "section_rows" 4 ["section", "parser"] (spRows K (He.ga K "Parser") (He.ga K "Section") (He.ga K "Argument")) _ fd_ser := ⟨ok_rows F_ser cP cS cA A_sho A_hea A_hlo, m_ser, F_ser.kp, b_ser⟩
  have A_rot : At P w K mg base "row_text" 2 ["head", "text", "column", "parser"] (spRowT K (He.ga K "Parser")) _ fd_rot := ⟨ok_rowT F_rot B z_max cP A_lai, m_rot, F_rot.kp, b_rot⟩
  have A_set : At P w K mg base "section_text" 4 ["section", "rows", "column", "parser"] (spSecT K (He.ga K "Parser") (He.ga K "Section") (He.ga K "Argument")) _ fd_set := ⟨ok_secT F_set cS A_des A_rot, m_set, F_set.kp, b_set⟩
  have A_foh : At P w K mg base "format_help_helping" 6 ["parser"] (spFH K (He.ga K "Parser") (He.ga K "Section") (He.ga K "Argument")) _ fd_foh := ⟨ok_fh F_foh B z_max z_min cP cS A_ser A_ust A_des A_set A_squ, m_foh, F_foh.kp, b_foh⟩
  have g_pfh : FnOk P w K mg base CX0 7 (He.ma K (He.ga K "Parser") "format_help") fd_pfh ["self"] (spFH K (He.ga K "Parser") (He.ga K "Section") (He.ga K "Argument")) := ok_pfh F_pfh A_foh
  have g_adg : FnOk P w K mg base CX0 5 (He.ma K (He.ga K "Parser") "add_argument_group") fd_adg ["self", "title", "description"] (spAddG (He.ga K "Parser") (He.ga K "Section") (He.ga K "Argument")) := ok_addG D_adg cP m_Section mk_Section g_secI b_secI
  have A_drw : At P w K mg base "_law_draw" 1 ["_law_stream", "_law_many"] spDraw _ fd_drw := ⟨ok_draw F_drw B, m_drw, F_drw.kp, b_drw⟩
  have A_sta : At P w K mg base "_law_start" 1 ["_law_script"] (spStart K) _ fd_sta := ⟨ok_start F_sta B, m_sta, F_sta.kp, b_sta⟩
  have A_pck : At P w K mg base "_law_pick" 2 ["_law_stream", "_law_some"] spPick _ fd_pck := ⟨ok_pick F_pck B A_drw.ok m_drw F_drw.kp b_drw, m_pck, F_pck.kp, b_pck⟩
  have A_txt : At P w K mg base "_law_text" 3 ["_law_stream"] spText _ fd_txt := ⟨ok_text F_txt B A_drw A_pck, m_txt, F_txt.kp, b_txt⟩
  have A_lla : At P w K mg base "_law_t_laid" 1 ["_law_text_here", "_law_size"] spLLaid _ fd_lla := ⟨ok_lLaid F_lla B, m_lla, F_lla.kp, b_lla⟩
  exact ok_law F_law ⟨B, z_max, z_min, ⟨_, _, A_sta⟩, ⟨_, _, A_drw⟩, ⟨_, _, A_txt⟩, ⟨_, _, A_lla⟩, m_Parser, cP, hL, ⟨_, _, mk_Parser, g_par, _, _, kb, fun _ _ _ _ _ => rfl⟩, ⟨_, _, g_add, mt_Parser_add_argument, b_add⟩, ⟨_, _, g_adg, mt_Parser_add_argument_group, b_adg⟩, ⟨_, _, g_pfh, mt_Parser_format_help, b_pfh⟩⟩
end K46

open PySem PySem.W PySem.Calls PyProof.Rows
theorem PySem.Challenge.cw_optwright_k46_long_words_cut_holds : PySem.Challenge.rw_optwright_k46_long_words_cut.Holds := by
  refine K46.head K46.run ?_
  refine L2.walk_ofE (l := PySem.Challenge.rw_optwright_k46_long_words_cut) (n := 63) (k := 10) (x := "_law_script") (CX := L2.CX0) rfl (by decide) (by kernel_rfl) ⟨rfl, by decide, by decide⟩ ?F (fun _ _ _ _ z => z)
  intro w mg fa h Y G hmg0
  obtain ⟨K, KX, c, cx⟩ := Y
  have hmg : mg ("law" : PySem.Str) = some (.ref fa) := by
    have e : (HandSHeadRun.topDef (OpenLaw.row PySem.Challenge.rw_optwright_k46_long_words_cut).prog 92).name = ("law" : PySem.Str) := by kernel_rfl
    rw [← e]
    exact hmg0
  obtain ⟨fd, hb, hF⟩ := K46.facts (P := (PySem.Challenge.rw_optwright_k46_long_words_cut).prog) (w := w) KX G hmg c cx
  exact ⟨K, fd, K46.spLaw K, KX, hb, fun H a ns hl _ hS => ⟨a, ns, rfl, hS, fun _ => rfl⟩, hF⟩

