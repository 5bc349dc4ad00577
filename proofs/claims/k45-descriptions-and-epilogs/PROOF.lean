import PyProof.Rows.All
import Wide.All
import OpenK.AllK
import Wide.FinOn
import HandS.Base
import HandS.Call
import HandS.List
import HandS.Comp
import HandS.Dict
import HandS.Words
import KE.KEqDict
import PySem.Challenge.RW_optwright_k45_descriptions_and_epilogs
import HandS.IsInst
import HandS.Zip
import HandS.Walk
import HandS.Style
import HandS.Iter
import HandS.StrMore
import HandS.Text
import HandS.More
import HandS.Conv
import HandS.ListItems
import HandS.Defaults
import HandS.WordsDict
import KE.GoesMore
import HandS.Replace
import HandS.ReplaceLit
import PyProof.ToksMono
import HandS.MakeKwOnly
import KE.KRevSl
import HandS.Steps
import HandS.WideBits
import HandS.FltList
import HandS.Flt
import PyProof.StrLawsTight
import PyProof.StrCalls6
import PyProof.StrLawsWords
import PyProof.Rows.StrCut
import HandS.Head0
import HandS.Head1
import HandS.Head2
import HandS.HeadEnd
import HandS.HeadHook1
import HandS.HeadHook2
import HandS.HeadHook3
import HandS.HeadHook4
import HandS.HeadWalk
set_option Elab.async false
set_option linter.all false
set_option maxRecDepth 100000
set_option maxHeartbeats 0
namespace L2
open PySem PySem.Spec PyProof.Rows
/-- what == of two dicts tells, by their data -/
def eqHits (ld : List (Key × PyData)) : List (Key × PyData) → Bool
  | [] => true
  | (k, d) :: r => match (ld.find? fun kv => decide (kv.1 = k)).map (·.2) with
    | none => false
    | some e => PyData.eqv d e && eqHits ld r
/-- a dict's values by their data -/
def DPairs (K : PySem.W.Frag) (H : Hp) : List (Key × V) → List (Key × PyData) → Prop := Paired fun p q => p.1 = q.1 ∧ Dp K H p.2 q.2 ∧ SeqAt.shaped q.2 = true
theorem DPairs.val {K : PySem.W.Frag} {H : Hp} {ls : List (Key × V)} {ld : List (Key × PyData)} (r : DPairs K H ls ld) (k : Key) :
    (valV ls k = none ∧ (ld.find? fun kv => decide (kv.1 = k)).map (·.2) = none) ∨ ∃ v e, valV ls k = some v ∧ (ld.find? fun kv => decide (kv.1 = k)).map (·.2) = some e ∧ Dp K H v e ∧ SeqAt.shaped e = true := by
  unfold DPairs at r
  unfold valV
  induction r with
  | nil => exact .inl ⟨rfl, rfl⟩
  | @cons p q ps qs h t ih =>
    obtain ⟨h1, h2, h3⟩ := h
    rw [List.find?_cons, List.find?_cons, ← h1]
    by_cases e : p.1 = k
    · rw [decide_eq_true e]
      exact .inr ⟨p.2, q.2, rfl, rfl, h2, h3⟩
    · rw [decide_eq_false e]
      exact ih
section
variable {X : Cx} {pins : List (Addr × Obj)} {σ : St} {H : Hp} {s : Shared}
theorem hits_of (I : Inv X pins σ H s) {A : Around} (hu : A.in1.units + 64 < cLine) {ls : List (Key × V)} {ld : List (Key × PyData)} (rl : DPairs X.K H ls ld) {vb : List (Key × Value)} (rb : KV ls vb) {ks : List (Key × V)} {kd : List (Key × PyData)} (rk : DPairs X.K H ks kd) :
    ∀ {va : List (Key × Value)}, KV ks va → PySem.W.KeqHits A.in1 s vb va (eqHits ld kd) := by
  unfold DPairs at rk
  induction rk with
  | nil =>
    intro va ra
    cases ra
    exact .nil
  | @cons p q ps qs h t ih =>
    intro va ra
    cases ra with
    | @cons _ u _ us r1 r2 =>
      obtain ⟨key, v⟩ := u
      obtain ⟨pk, pv'⟩ := p
      obtain ⟨qk, qd⟩ := q
      obtain ⟨h1, h2, h3⟩ := h
      obtain ⟨e1, rv⟩ := r1
      dsimp only at h1 h2 h3 e1 rv
      subst h1
      subst e1
      have rr := rb.val pk
      show PySem.W.KeqHits A.in1 s vb ((pk, v) :: us) (match (ld.find? fun kv => decide (kv.1 = pk)).map (·.2) with
        | none => false
        | some e => PyData.eqv qd e && eqHits ld qs)
      rcases rl.val pk with ⟨n1, n2⟩ | ⟨y, e, s1, s2, s3, s4⟩
      · rw [n2]
        rw [n1] at rr
        refine .miss ?_
        cases hz : valueAt vb pk with
        | none => rfl
        | some z =>
          rw [hz] at rr
          exact rr.elim
      · rw [s2]
        rw [s1] at rr
        obtain ⟨yu, hy, ry⟩ := rr.some_of
        obtain ⟨as, q1⟩ := Dp.reads I qd pv' v h2 rv
        obtain ⟨bs, q2⟩ := Dp.reads I e y yu s3 ry
        exact .hit hy (PySem.W.keq_at q1 q2 h3 s4 hu) (ih r2)
end
section
variable {X : Cx}
/-- a == b of two dicts of data -/
def rEqDD (K : PySem.W.Frag) : R2 := fun x y H Q => ∃ a b ks ls kd ld, x = .ref a ∧ y = .ref b ∧ H a = some (.dK ks) ∧ H b = some (.dK ls) ∧ DPairs K H ks kd ∧ DPairs K H ls ld ∧ Q (.bl (kd.length == ld.length && eqHits ld kd)) H
theorem op_eqDD (hu : X.A.units + 70 < cLine) : OpR X (compareOp .Eq) (rEqDD X.K) := by
  intro pins s σ H x y v u Q I rx ry h
  obtain ⟨a, b, ks, ls, kd, ld, rfl, rfl, ha, hb, dk, dl, q⟩ := h
  cases rx
  cases ry
  obtain ⟨_, ya, va, ra, da⟩ := (show ObjOk X.prog X.w H s.heap a (.dK ks) from I.hok a _ ha)
  obtain ⟨_, yb, vb, rb, db⟩ := (show ObjOk X.prog X.w H s.heap b (.dK ls) from I.hok b _ hb)
  show wpAny (model X.prog X.w) X.A (richCompare .Eq (.ref a) (.ref b)) (EP X pins σ Q) X.xe s
  refine PySem.W.keq_eq (knd := mixKind X.prog X.w) (r := eqHits ld kd) ya yb da db (by omega) (fun _ => hits_of I (by show X.A.units + 1 + 64 < cLine; omega) dl rb dk ra) ?_
  have e1 : va.length = kd.length := by rw [← ra.length]; exact Paired.length dk
  have e2 : vb.length = ld.length := by rw [← rb.length]; exact Paired.length dl
  rw [e1, e2]
  exact ⟨.bl _, H, I, rfl, q⟩
/-- what stands right of an own == -/
inductive TyE (H : Hp) : V → Value → Prop where
  | ins {b C dy : Addr} {gs : List (Str × V)} (h : H b = some (.ins C dy gs)) : TyE H (.ref b) (.ref C)
  | lst {b : Addr} {xs : List V} (h : H b = some (.lst xs)) : TyE H (.ref b) (.type "list")
  | dct {b : Addr} {kvs : List (Key × V)} (h : H b = some (.dK kvs)) : TyE H (.ref b) (.type "dict")
theorem looks_obj {M : Model} {h : Heap} {a : Addr} {o : Obj} (e : h.get? a = some o) : PySem.W.Looks M h (typeOf (.ref a)) o.cls := (PySem.W.Looks.ld e).andThen .now
/-- x == y, x an instance of the class at C with its own == -/
def rOwnEq (K : PySem.W.Frag) (C : Addr) (sp : Sp) : R2 := fun x y H Q => ∃ a dx fs tb, x = .ref a ∧ H a = some (.ins C dx fs) ∧ TyE H y tb ∧ PySem.W.notFirst K C tb = true ∧ sp [x, y] H (fun v H' => ∃ b, v = .bl b ∧ Q v H') (fun _ _ _ => False)
theorem op_ownEq {CX : CXT} {n : Nat} {C f : Addr} {fd : FuncData} {ps : List Str} {sp : Sp} (F : FnOk X.prog X.w X.K X.mg X.base CX n f fd ps sp) (hr : Room n X.A)
    (hs : PySem.W.findIn X.K (.ref C) "__eq__" = some (some (.ref f))) (hf : PySem.W.isFn X.K (.ref f) = true) (hb : Binds X.K fd ps []) (hx : Passes CX X (fun _ _ _ => False)) : OpR X (compareOp .Eq) (rOwnEq X.K C sp) := by
  intro pins s σ H x y u v Q I rx ry h
  obtain ⟨a, dx, fs, tb, rfl, ha, ty, nf, hsp⟩ := h
  cases rx
  obtain ⟨mA, J, _⟩ := ins_get I.hok ha
  obtain ⟨od, J, _⟩ := J.look
  obtain ⟨m, hF⟩ := I.fr
  have hty : PySem.W.Looks (model X.prog X.w) s.heap (typeOf v) tb := by
    cases ty with
    | @ins b C dy gs hb' =>
      cases ry
      obtain ⟨mB, J', _⟩ := ins_get I.hok hb'
      obtain ⟨od', J', _⟩ := J'.look
      exact J'.type
    | @lst b xs e =>
      cases ry
      obtain ⟨_, _, n, _, h1⟩ := (show ObjOk X.prog X.w H s.heap b (.lst xs) from I.hok b _ e)
      exact looks_obj h1
    | @dct b kvs e =>
      cases ry
      obtain ⟨_, _, vs, _, o, es, ep, h1, h2, _⟩ := (show ObjOk X.prog X.w H s.heap b (.dK kvs) from I.hok b _ e)
      rw [← h2.1]
      exact looks_obj h1
  show wpAny (model X.prog X.w) X.A (richCompare .Eq (.ref a) v) (EP X pins σ Q) X.xe s
  refine PySem.W.cmp_K (op := .Eq) (tb := tb) hr.units0 hF I.ok.mod.kin J hty nf hs hf ?_
  have hl := F.len _ _ _ _ hsp
  have r2 : Vals [V.ref a, y] [Value.ref a, v] := .cons rfl (.cons ry .nil)
  refine wpAny_call (codeAny_mono (F.run X.A X.stack s H ⟨[.ref a, v], []⟩ [.ref a, v] [.ref a, y] _ _ hr I.env0 (by
    have := hb s [.ref a, v] I.kIn (by simpa using hl)
    simpa using this) r2 hsp) fun r s' hq => ?_)
  cases r with
  | error e => exact hx pins σ H s e s' I hq
  | ok fl =>
    cases fl with
    | ret w =>
      obtain ⟨z, H', I', rz, b, ez, ex⟩ := I.after hq
      subst ez
      cases rz
      exact ⟨.bl b, H', I', rfl, ex⟩
    | next => exact False.elim hq
    | brk => exact False.elim hq
    | cont => exact False.elim hq
/-- a walk over a list or a tuple -/
def iLT (wa wb : TI) : TI := fun σ H R => wa σ H R ∨ wb σ H R
theorem pi_or {tg it : Expr} {wa wb : TI} (ha : PI X tg it wa) (hb : PI X tg it wb) : PI X tg it (iLT wa wb) :=
  ⟨fun pins s σ H R I h => h.elim (ha.run pins s σ H R I) (hb.run pins s σ H R I)⟩
end
end L2

namespace K45
open PySem L2
/-! ### the text by places -/
def top (i : Nat) : Stmt := PySem.Challenge.pw_optwright_k45_descriptions_and_epilogs.main.body.getD i (.Pass ⟨0, 0, 0, 0⟩)
abbrev sIsInt : Stmt := top 10
abbrev sIsRow : Stmt := top 11
abbrev sIsVal : Stmt := top 12
abbrev sCop : Stmt := top 13
abbrev sIsKind : Stmt := top 14
abbrev sKindName : Stmt := top 15
abbrev sKeys : Stmt := top 25
abbrev sIsFlag : Stmt := top 26
abbrev sHasGap : Stmt := top 27
abbrev sChkFlags : Stmt := top 28
abbrev sNamed : Stmt := top 29
abbrev sWithF : Stmt := top 30
abbrev sFits : Stmt := top 31
abbrev sChkWords : Stmt := top 32
abbrev sChkOpts : Stmt := top 33
abbrev sDflt : Stmt := top 34
abbrev sMadeArg : Stmt := top 35
abbrev sIsSigns : Stmt := top 84
abbrev sIsShown : Stmt := top 37
abbrev sChoicesOf : Stmt := top 38
abbrev sBraced : Stmt := top 39
abbrev sShownNames : Stmt := top 40
abbrev sWordsOf : Stmt := top 41
abbrev sWithWords : Stmt := top 42
abbrev sHeadOf : Stmt := top 43
abbrev sFilled : Stmt := top 45
abbrev sHasWords : Stmt := top 46
abbrev sLaidOut : Stmt := top 47
abbrev sKeptLines : Stmt := top 48
abbrev sDescribed : Stmt := top 49
abbrev sSqueezed : Stmt := top 50
abbrev sBarePart : Stmt := top 53
abbrev sPartOf : Stmt := top 54
abbrev sMarked : Stmt := top 55
abbrev sPartsOf : Stmt := top 56
abbrev sTaken : Stmt := top 57
abbrev sUsageLines : Stmt := top 58
abbrev sUsageText : Stmt := top 59
abbrev sFormatUsage : Stmt := top 60
abbrev sTellsDef : Stmt := top 64
abbrev sValuesOf : Stmt := top 65
abbrev sHelpOf : Stmt := top 66
abbrev sCmdRows : Stmt := top 67
abbrev sSecRows : Stmt := top 68
abbrev sRowText : Stmt := top 69
abbrev sSecText : Stmt := top 70
abbrev sFormatHelp : Stmt := top 71
abbrev sDraw : Stmt := top 87
abbrev sStart : Stmt := top 88
abbrev sPick : Stmt := top 89
abbrev sLaw : Stmt := top 92
abbrev sArgI : Stmt := inClass (top 24) 0
abbrev sSecI : Stmt := inClass (top 79) 0
abbrev sExcI : Stmt := inClass (top 78) 0
abbrev sParI : Stmt := inClass (top 85) 0
abbrev sAdd : Stmt := inClass (top 85) 2
abbrev sAddTo : Stmt := inClass (top 85) 3
abbrev sJoin : Stmt := inClass (top 85) 4
abbrev sTake : Stmt := inClass (top 85) 5
abbrev sAddGroup : Stmt := inClass (top 85) 6
abbrev sParFH : Stmt := inClass (top 85) 18
abbrev sParFU : Stmt := inClass (top 85) 17
/-! ### what is never reached -/
theorem pss_never {X : Cx} {ss : List Stmt} : PSs X ss (fun _ _ _ => False) := ⟨fun _ _ _ _ _ _ h => h.elim⟩
theorem ps_never {X : Cx} {st : Stmt} : PS X st (fun _ _ _ => False) := ⟨fun _ _ _ _ _ _ h => h.elim⟩
theorem pe_never {X : Cx} {e : Expr} : PE X e (fun _ _ _ => False) := ⟨fun _ _ _ _ _ _ h => h.elim⟩
/-! ### cut: a statement, then the rest, with a word between them -/
def tMid (t u : TS) : TS := fun D σ H => ∃ M : St → Hp → Prop, t { D with nx := M } σ H ∧ ∀ σ' H', M σ' H' → u D σ' H'
theorem pss_mid {X : Cx} {st : Stmt} {rest : List Stmt} {t u : TS} (h1 : PS X st t) (h2 : PSs X rest u) : PSs X (st :: rest) (tMid t u) := by
  refine ⟨fun pins s σ H D I h => ?_⟩
  rcases h with ⟨M, hm, hu⟩
  refine wpAny_execs_cons (thn (h1.run pins s σ H _ I hm) fun fl s1 q => ?_)
  cases fl <;> first
    | exact q
    | (obtain ⟨σ1, H1, I1, q1⟩ := q
       exact h2.run pins s1 σ1 H1 D I1 (hu σ1 H1 q1))
/-! ### the stream -/
/-- a stream of draws at st, its cells at cl, n draws made -/
structure Strm (H : Hp) (st cl : Addr) (n : Nat) : Prop where
  ex : ∃ (c a : Int) (ns : List Int), H st = some (.lst [.ref cl, .int c, .int (n : Int), .int a]) ∧ H cl = some (.lst (ns.map V.int)) ∧ 0 ≤ a ∧ a < 2147483647 ∧ 0 ≤ c
/-- all but what stands at two places is kept -/
def Kp2 (a b : Addr) (H H' : Hp) : Prop := ∀ q o, H q = some o → q ≠ a → q ≠ b → H' q = some o
theorem Strm.ne {H : Hp} {st cl : Addr} {n : Nat} (S : Strm H st cl n) : st ≠ cl := by
  obtain ⟨c, a, ns, h1, h2, _⟩ := S.ex
  refine ne_of h1 h2 fun e => ?_
  have e2 : [V.ref cl, .int c, .int (n : Int), .int a] = ns.map V.int := HO.lst.inj e
  cases ns with
  | nil => cases e2
  | cons x xs => cases (List.cons.inj e2).1
def SAt (H : Hp) (st cl : Addr) (c : Int) (n : Nat) (a : Int) (ns : List Int) : Prop := H st = some (.lst [.ref cl, .int c, .int (n : Int), .int a]) ∧ H cl = some (.lst (ns.map V.int)) ∧ 0 ≤ a ∧ a < 2147483647 ∧ 0 ≤ c
theorem fmod_lo {i j : Int} (h : 0 < j) : 0 ≤ i.fmod j := by
  rw [Int.fmod_eq_emod_of_nonneg _ (by omega)]
  exact Int.emod_nonneg _ (by omega)
theorem fmod_hi {i j : Int} (h : 0 < j) : i.fmod j < j := by
  rw [Int.fmod_eq_emod_of_nonneg _ (by omega)]
  exact Int.emod_lt_of_pos _ h
theorem fdiv_nn {i j : Int} (h : 0 ≤ i) (hj : 0 < j) : 0 ≤ i.fdiv j := by
  rw [Int.fdiv_eq_ediv_of_nonneg _ (by omega)]
  exact Int.ediv_nonneg h (by omega)
theorem seq0 {α : Type} (x : α) (xs : List α) : seqIndex? 0 (x :: xs).length = some 0 := by
  unfold seqIndex?
  simp
def spDraw : Sp := fun vs H Q _ => ∃ (st cl : Addr) (n : Nat) (m : Int), vs = [.ref st, .int m] ∧ Strm H st cl n ∧ 0 < m ∧ m < 1000000 ∧ n ≤ 100000 ∧
  ∀ (k : Int) (H' : Hp), 0 ≤ k → k < m → Strm H' st cl (n + 1) → Kp2 st cl H H' → Q (.int k) H'
/-- names of the top that the walk asks -/
structure TxtB (mg : Str → Option Value) : Prop where
  int : mg "int" = none
  list : mg "list" = none
  tuple : mg "tuple" = none
  len : mg "len" = none
  isinstance : mg "isinstance" = none
  dict : mg "dict" = none
  sorted : mg "sorted" = none
  all : mg "all" = none
  zip : mg "zip" = none
  range : mg "range" = none
  bool : mg "bool" = none
theorem shaped_ints (ns : List Int) : SeqAt.shaped (.list (ns.map PyData.int)) = true := PySem.W.shaped_ints ns
theorem dpAll_ints {K : PySem.W.Frag} {H : Hp} : ∀ ns : List Int, DpAll K H (ns.map V.int) (ns.map PyData.int)
  | [] => .nil
  | n :: ns => .cons (.int n) (dpAll_ints ns)
section
variable {P : Program} {w : World} {K : PySem.W.Frag} {mg : Str → Option Value} {base : Heap}
theorem scDraw : FnScope ["_law_stream", "_law_many", "_law_digit", "_law_mixed"] ["_law_stream", "_law_many"] (defScope sDraw) := ⟨rfl, rfl, rfl, by decide +kernel, rfl, by decide +kernel, by decide +kernel⟩
theorem ok_draw {f : Addr} {fd : FuncData} (F : Fun K "_law_draw" "_law_draw" sDraw f fd) (T : TxtB mg) : FnOk P w K mg base CX0 1 f fd ["_law_stream", "_law_many"] spDraw := by
  refine F.ok scDraw (fun vs H Q E h => ?_) (fun cdv A outer s H vs Q E hr h => ?_)
  · obtain ⟨st, cl, n, m, rfl, _⟩ := h
    rfl
  · obtain ⟨st, cl, n, m, rfl, S, m0, m1, hn, k⟩ := h
    have ne := S.ne
    obtain ⟨c, a, ns, h1, h2, a0, a1, c0⟩ := S.ex
    have hu : (Cx.A (cxOf CX0 P w K mg base ["_law_stream", "_law_many", "_law_digit", "_law_mixed"] "_law_draw" (defScope sDraw) f cdv A outer s H E)).units + 64 < cLine := hr.units
    refine ⟨_, pss_mid (ps_asg (pe_op op_add (pe_ix ix_list (pv 0) pe_int (fun _ _ => rfl)) pe_int) (pg_sub (pv 0) pe_int set_list))
      (pss_mid (ps_if (PW.pt (pw_and (pt_cmpR op_eq (pe_ix ix_list (pv 0) pe_int (fun _ _ => rfl)) pe_int (nomark _)) (pw_and1 (pt_cmpR (op_neD hu) (pe_ix ix_list (pv 0) pe_int (fun _ _ => rfl)) (pe_lst pa_nil) (nomark _)))))
        (pss_mid (ps_asg (pe_bm PySem.F.plainAttrs_list PySem.F.slot_list_pop PySem.F.type_list_pop mt_popAt (pe_ix ix_list (pv 0) pe_int (fun _ _ => rfl)) (pa_cons pe_int pa_nil)) (pg_sub (pv 0) pe_int set_list))
          (pss_one (ps_if (pt_cmpR op_lt (pe_ix ix_list (pv 0) pe_int (fun _ _ => rfl)) (pe_op op_pow pe_int pe_int) (nomark _))
            (pss_mid (ps_asg (pe_op op_modN (pe_callTy call_int1 (by rfl) T.int (by decide +kernel) (pa_cons (pe_op op_add (pe_op op_add (pe_op op_mul (pe_ix ix_list (pv 0) pe_int (fun _ _ => rfl)) pe_int) (pe_ix ix_list (pv 0) pe_int (fun _ _ => rfl))) pe_int) pa_nil)) pe_int) (pg_sub (pv 0) pe_int set_list))
              (pss_one (ps_asg pe_int (pg_sub (pv 0) pe_int set_list)))) pss_nil))) pss_nil)
      (pss_cons (ps_if (pt_cmpR op_gt (pe_ix ix_list (pv 0) pe_int (fun _ _ => rfl)) pe_int (nomark _))
        (pss_cons (ps_set (i := 2) scDraw.nd rfl (Or.inl rfl) (pe_op op_modN (pe_callTy call_int1 (by rfl) T.int (by decide +kernel) (pa_cons (pe_ix ix_list (pv 0) pe_int (fun _ _ => rfl)) pa_nil)) (pv 1)))
          (pss_cons (ps_asg (pe_op op_fdivN (pe_ix ix_list (pv 0) pe_int (fun _ _ => rfl)) (pv 1)) (pg_sub (pv 0) pe_int set_list)) (pss_one (ps_ret (pv 2))))) pss_nil)
      (pss_cons (ps_set (i := 3) scDraw.nd rfl (Or.inl rfl) (pe_op op_modN (pe_op op_pow (pe_op op_add (pe_op op_add (pe_ix ix_list (pv 0) pe_int (fun _ _ => rfl)) (pe_op op_mul pe_int (pe_ix ix_list (pv 0) pe_int (fun _ _ => rfl)))) pe_int) pe_int) pe_int))
      (pss_one (ps_ret (pe_op op_modN (pe_op op_modN (pe_op op_pow (pe_op op_add (pe_op op_add (pe_op op_mul (pv 3) pe_int) (pe_op op_mul (pe_op op_mul pe_int (pe_ix ix_list (pv 0) pe_int (fun _ _ => rfl))) (pe_ix ix_list (pv 0) pe_int (fun _ _ => rfl)))) pe_int) pe_int) pe_int) (pv 1))))))), ?_⟩
    -- stream[2] = stream[2] + 1
    refine ⟨fun σ' H' => σ' = [some (.ref st), some (.int m), none, none] ∧ Kp2 st cl H H' ∧ SAt H' st cl c (n + 1) a ns, ?_, ?_⟩
    · refine ⟨_, rfl, st, _, _, _, rfl, rfl, SqL.of h1, rfl, _, _, rfl, rfl, _, rfl, st, _, _, 2, rfl, rfl, h1, rfl, rfl, ?_, upd_same, ?_, a0, a1, c0⟩
      · intro q o e n1 n2
        rw [upd_ne n1]
        exact e
      · rw [upd_ne ne.symm]
        exact h2
    rintro _ G ⟨rfl, gk, g1, g2, _, _, _⟩
    -- the cell
    refine ⟨fun σ' H' => σ' = [some (.ref st), some (.int m), none, none] ∧ Kp2 st cl H H' ∧ ∃ (c a : Int) (ns : List Int), SAt H' st cl c (n + 1) a ns, ?_, ?_⟩
    · refine ⟨_, rfl, st, _, _, _, rfl, rfl, SqL.of g1, rfl, rfl, _, rfl, ?_⟩
      refine ite2 (fun hc => ?_) (fun hc => ?_)
      · have c0' : c = 0 := by simpa using hc
        refine ⟨_, rfl, st, _, _, _, rfl, rfl, SqL.of g1, rfl, Nat.zero_le _, fun p hp => ?_⟩
        have np : st ≠ p := ne_of_none g1 hp
        have np2 : cl ≠ p := ne_of_none g2 hp
        have q1 : (upd G p (.lst [])) st = some (.lst [.ref cl, .int c, .int ((n + 1 : Nat) : Int), .int a]) := by rw [upd_ne np]; exact g1
        have q2 : (upd G p (.lst [])) cl = some (.lst (ns.map V.int)) := by rw [upd_ne np2]; exact g2
        have qk : Kp2 st cl H (upd G p (.lst [])) := fun q o e n1 n2 => by
          have e1 := gk q o e n1 n2
          rw [upd_ne (ne_of_none e1 hp)]
          exact e1
        refine ⟨_, _, .lst (SqL.of q2) (dpAll_ints ns), .lst (SqL.of upd_same) .nil, shaped_ints ns, by decide, _, rfl, ?_⟩
        cases ns with
        | nil => exact iteF ⟨rfl, qk, c, a, [], q1, q2, a0, a1, c0⟩
        | cons z zs =>
          refine iteT ?_
          generalize upd G p (.lst []) = G1 at q1 q2 qk
          -- stream[1] = stream[0].pop(0)
          refine ⟨fun σ' H' => σ' = [some (.ref st), some (.int m), none, none] ∧ Kp2 st cl H H' ∧ H' st = some (.lst [.ref cl, .int z, .int ((n + 1 : Nat) : Int), .int a]) ∧ H' cl = some (.lst (zs.map V.int)), ?_, ?_⟩
          · refine ⟨_, rfl, st, _, _, _, rfl, rfl, SqL.of q1, rfl, .inl ⟨rfl, _, SqL.of q2⟩, cl, _, 0, 0, .int z, rfl, rfl, q2, by decide, by decide, seq0 _ _, rfl, _, rfl, st, _, _, 1, rfl, rfl, (by rw [upd_ne ne]; exact q1), rfl, rfl, ?_, upd_same, ?_⟩
            · intro q o e n1 n2
              rw [upd_ne n1, upd_ne n2]
              exact qk q o e n1 n2
            · rw [upd_ne ne.symm, upd_same]
              rfl
          rintro _ G2 ⟨rfl, k2, u1, u2⟩
          refine ⟨_, rfl, st, _, _, _, rfl, rfl, SqL.of u1, rfl, _, _, rfl, rfl, ⟨by decide, by decide, by decide⟩, _, _, rfl, rfl, _, rfl, ?_⟩
          refine ite2 (fun hz => ?_) (fun hz => ?_)
          · refine ⟨fun σ' H' => σ' = [some (.ref st), some (.int m), none, none] ∧ Kp2 st cl H H' ∧ H' cl = some (.lst (zs.map V.int)) ∧ ∃ b, 0 ≤ b ∧ b < 2147483647 ∧ H' st = some (.lst [.ref cl, .int z, .int ((n + 1 : Nat) : Int), .int b]), ?_, ?_⟩
            · refine ⟨_, rfl, st, _, _, _, rfl, rfl, SqL.of u1, rfl, _, _, rfl, rfl, .inr ⟨by decide, by decide⟩, _, rfl, st, _, _, _, rfl, rfl, SqL.of u1, rfl, _, _, rfl, rfl, _, _, rfl, rfl, .inl ⟨_, rfl, _, _, rfl, rfl, (by show (2147483647 : Int) ≠ 0; decide), ?_⟩⟩
              refine ⟨_, rfl, st, _, _, 3, rfl, rfl, u1, rfl, rfl, ?_, ?_, _, ?_, ?_, upd_same⟩
              · intro q o e n1 n2
                rw [upd_ne n1]
                exact k2 q o e n1 n2
              · rw [upd_ne ne.symm]
                exact u2
              · exact fmod_lo (by decide)
              · exact fmod_hi (by decide)
            · rintro _ G3 ⟨rfl, k3, v2, b, b0, b1, v1⟩
              refine ⟨_, rfl, st, _, _, 1, rfl, rfl, v1, rfl, rfl, ?_, 0, b, zs, upd_same, ?_, b0, b1, Int.le_refl 0⟩
              · intro q o e n1 n2
                rw [upd_ne n1]
                exact k3 q o e n1 n2
              · rw [upd_ne ne.symm]
                exact v2
          · refine ⟨rfl, k2, z, a, zs, u1, u2, a0, a1, ?_⟩
            have hz' : ¬ z < (10 : Int) ^ (18 : Int).toNat := by simpa using hz
            have : (0 : Int) ≤ (10 : Int) ^ (18 : Int).toNat := by decide
            omega
      · exact iteF ⟨rfl, gk, c, a, ns, g1, g2, a0, a1, c0⟩
    rintro _ G2 ⟨rfl, kk, c, a, ns, h1, h2, a0, a1, c0⟩
    -- a digit
    refine ⟨_, rfl, st, _, _, _, rfl, rfl, SqL.of h1, rfl, _, _, rfl, rfl, _, rfl, ?_⟩
    refine ite2 (fun hc => ?_) (fun hc => ?_)
    · refine ⟨_, rfl, st, _, _, _, rfl, rfl, SqL.of h1, rfl, .inl ⟨_, rfl, _, rfl, _, _, rfl, rfl, (by show m ≠ 0; omega), ?_⟩⟩
      refine ⟨_, rfl, st, _, _, _, rfl, rfl, SqL.of h1, rfl, _, rfl, _, _, rfl, rfl, ⟨(by show m ≠ 0; omega), (by show m.natAbs < 1073741824; omega)⟩, _, rfl, st, _, _, 1, rfl, rfl, h1, rfl, ?_⟩
      refine ⟨_, rfl, k _ _ (fmod_lo m0) (fmod_hi m0) ⟨Int.fdiv c m, a, ns, upd_same, ?_, a0, a1, fdiv_nn c0 m0⟩ ?_⟩
      · rw [upd_ne ne.symm]
        exact h2
      · intro q o e n1 n2
        rw [upd_ne n1]
        exact kk q o e n1 n2
    -- mixed
    have nb : ((n + 1 : Nat) : Int) ≤ 100001 := by omega
    have n0 : (0 : Int) ≤ ((n + 1 : Nat) : Int) := by omega
    refine ⟨_, rfl, st, _, _, _, rfl, rfl, SqL.of h1, rfl, _, rfl, st, _, _, _, rfl, rfl, SqL.of h1, rfl, _, _, rfl, rfl, .inl ⟨by decide, by decide⟩, _, _, rfl, rfl, _, _, rfl, rfl, _, _, rfl, rfl, ⟨by decide, by decide, ?_⟩, _, _, rfl, rfl, (by show (2147483629 : Int) ≠ 0; decide), ?_⟩
    · show (a + 104729 * ((n + 1 : Nat) : Int) + 17).natAbs < 2 ^ 64
      omega
    have y0 : (0 : Int) ≤ ((a + 104729 * ((n + 1 : Nat) : Int) + 17) ^ (5 : Int).toNat).fmod 2147483629 := fmod_lo (by decide)
    have y1 : ((a + 104729 * ((n + 1 : Nat) : Int) + 17) ^ (5 : Int).toNat).fmod 2147483629 < 2147483629 := fmod_hi (by decide)
    -- the answer
    refine ⟨_, rfl, _, _, rfl, rfl, .inl ⟨?_, ?_⟩, _, rfl, st, _, _, _, rfl, rfl, SqL.of h1, rfl, _, _, rfl, rfl, .inl ⟨by decide, by decide⟩, _, rfl, st, _, _, _, rfl, rfl, SqL.of h1, rfl, _, _, rfl, rfl, .inl ⟨?_, ?_⟩, _, _, rfl, rfl, _, _, rfl, rfl, _, _, rfl, rfl, ⟨by decide, by decide, ?_⟩, _, _, rfl, rfl, (by show (1000000007 : Int) ≠ 0; decide), _, rfl, _, _, rfl, rfl, (by show m ≠ 0; omega), ?_⟩
    · show -(2 ^ 64) < ((a + 104729 * ((n + 1 : Nat) : Int) + 17) ^ (5 : Int).toNat).fmod 2147483629
      generalize ((a + 104729 * ((n + 1 : Nat) : Int) + 17) ^ (5 : Int).toNat).fmod 2147483629 = y at y0 y1 ⊢
      omega
    · show ((a + 104729 * ((n + 1 : Nat) : Int) + 17) ^ (5 : Int).toNat).fmod 2147483629 < 2 ^ 64
      generalize ((a + 104729 * ((n + 1 : Nat) : Int) + 17) ^ (5 : Int).toNat).fmod 2147483629 = y at y0 y1 ⊢
      omega
    · show -(2 ^ 64) < 40503 * ((n + 1 : Nat) : Int)
      omega
    · show 40503 * ((n + 1 : Nat) : Int) < 2 ^ 64
      omega
    · show (((a + 104729 * ((n + 1 : Nat) : Int) + 17) ^ (5 : Int).toNat).fmod 2147483629 * 48271 + 40503 * ((n + 1 : Nat) : Int) * ((n + 1 : Nat) : Int) + 13).natAbs < 2 ^ 64
      generalize ((a + 104729 * ((n + 1 : Nat) : Int) + 17) ^ (5 : Int).toNat).fmod 2147483629 = y at y0 y1 ⊢
      have e1 : 40503 * ((n + 1 : Nat) : Int) * ((n + 1 : Nat) : Int) ≤ 40503 * 100001 * 100001 :=
        Int.mul_le_mul (by omega) nb n0 (by omega)
      have e2 : 0 ≤ 40503 * ((n + 1 : Nat) : Int) * ((n + 1 : Nat) : Int) := Int.mul_nonneg (by omega) n0
      omega
    exact k _ _ (fmod_lo m0) (fmod_hi m0) ⟨c, a, ns, h1, h2, a0, a1, c0⟩ kk
end
end K45

namespace K45
open PySem L2
/-! ### data at addresses of its own -/
mutual
/-- v bears the data d, all its lists and tuples stand in N -/
inductive Dt (N : Hp) : V → PyData → Prop
  | non : Dt N .non .none
  | bl (b : Bool) : Dt N (.bl b) (.bool b)
  | int (i : Int) : Dt N (.int i) (.int i)
  | str (x : Str) : Dt N (.str x) (.str x)
  | lst {a : Addr} {xs : List V} {ds : List PyData} : N a = some (.lst xs) → DtAll N xs ds → Dt N (.ref a) (.list ds)
  | tup {a : Addr} {xs : List V} {ds : List PyData} : N a = some (.tup xs) → DtAll N xs ds → Dt N (.ref a) (.tuple ds)
inductive DtAll (N : Hp) : List V → List PyData → Prop
  | nil : DtAll N [] []
  | cons {v : V} {vs : List V} {d : PyData} {ds : List PyData} : Dt N v d → DtAll N vs ds → DtAll N (v :: vs) (d :: ds)
end
mutual
theorem Dt.mono {N M : Hp} (e : Same N M) : ∀ (d : PyData) (v : V), Dt N v d → Dt M v d
  | .none, _, h => by cases h; exact .non
  | .bool b, _, h => by cases h; exact .bl b
  | .int i, _, h => by cases h; exact .int i
  | .str x, _, h => by cases h; exact .str x
  | .list ds, _, h => by
    cases h with
    | lst h1 h2 => exact .lst (e _ _ h1) (DtAll.mono e ds _ h2)
  | .tuple ds, _, h => by
    cases h with
    | tup h1 h2 => exact .tup (e _ _ h1) (DtAll.mono e ds _ h2)
  | .dict _, _, h => by cases h
theorem DtAll.mono {N M : Hp} (e : Same N M) : ∀ (ds : List PyData) (vs : List V), DtAll N vs ds → DtAll M vs ds
  | [], _, h => by cases h; exact .nil
  | d :: ds, _, h => by
    cases h with
    | cons h1 h2 => exact .cons (Dt.mono e d _ h1) (DtAll.mono e ds _ h2)
end
mutual
theorem Dt.dp {K : PySem.W.Frag} {N : Hp} : ∀ (d : PyData) (v : V), Dt N v d → Dp K N v d
  | .none, _, h => by cases h; exact .non
  | .bool b, _, h => by cases h; exact .bl b
  | .int i, _, h => by cases h; exact .int i
  | .str x, _, h => by cases h; exact .str x
  | .list ds, _, h => by
    cases h with
    | lst h1 h2 => exact .lst (SqL.of h1) (DtAll.dp ds _ h2)
  | .tuple ds, _, h => by
    cases h with
    | tup h1 h2 => exact .tup (SqT.of h1) (DtAll.dp ds _ h2)
  | .dict _, _, h => by cases h
theorem DtAll.dp {K : PySem.W.Frag} {N : Hp} : ∀ (ds : List PyData) (vs : List V), DtAll N vs ds → DpAll K N vs ds
  | [], _, h => by cases h; exact .nil
  | d :: ds, _, h => by
    cases h with
    | cons h1 h2 => exact .cons (Dt.dp d _ h1) (DtAll.dp ds _ h2)
end
theorem DtAll.len {N : Hp} : ∀ {ds : List PyData} {vs : List V}, DtAll N vs ds → vs.length = ds.length
  | [], _, h => by cases h; rfl
  | d :: ds, _, h => by
    cases h with
    | cons h1 h2 => rw [List.length_cons, List.length_cons, DtAll.len h2]
theorem DtAll.get {N : Hp} : ∀ {ds : List PyData} {vs : List V} {i : Nat} {v : V}, DtAll N vs ds → vs[i]? = some v → ∃ d, ds[i]? = some d ∧ Dt N v d
  | [], _, i, v, h, e => by cases h; simp at e
  | d :: ds, _, i, v, h, e => by
    cases h with
    | cons h1 h2 =>
      cases i with
      | zero =>
        simp at e
        subst e
        exact ⟨d, rfl, h1⟩
      | succ i => exact DtAll.get (i := i) h2 (by simpa using e)
theorem DtAll.snoc {N : Hp} : ∀ {ds : List PyData} {vs : List V} {d : PyData} {v : V}, DtAll N vs ds → Dt N v d → DtAll N (vs ++ [v]) (ds ++ [d])
  | [], _, d, v, h, q => by cases h; exact .cons q .nil
  | _ :: ds, _, d, v, h, q => by
    cases h with
    | cons h1 h2 => exact .cons h1 (DtAll.snoc h2 q)
/-! ### heaps apart -/
def emp : Hp := fun _ => none
/-- N stands in H', and is new beside H -/
structure Fresh (H H' N : Hp) : Prop where
  sub : Same N H'
  new : ∀ b o, N b = some o → H b = none
theorem fresh_emp {H H' : Hp} : Fresh H H' emp := ⟨fun _ _ e => (nomatch e), fun _ _ e => (nomatch e)⟩
theorem Fresh.upd {H H' N : Hp} {p : Addr} {o : HO} (F : Fresh H H' N) (hp : H p = none) (h' : H' p = some o) : Fresh H H' (upd N p o) := by
  refine ⟨fun b u e => ?_, fun b u e => ?_⟩
  · by_cases hb : b = p
    · subst hb
      rw [upd_same] at e
      cases e
      exact h'
    · rw [upd_ne hb] at e
      exact F.sub b u e
  · by_cases hb : b = p
    · subst hb
      exact hp
    · rw [upd_ne hb] at e
      exact F.new b u e
def uni (N M : Hp) : Hp := fun b => match N b with
  | some o => some o
  | none => M b
theorem uni_l {N M : Hp} : Same N (uni N M) := fun b o e => by
  unfold uni
  rw [e]
theorem uni_r {N M : Hp} (d : ∀ b o, M b = some o → N b = none) : Same M (uni N M) := fun b o e => by
  unfold uni
  rw [d b o e]
  exact e
theorem uni_or {N M : Hp} {b : Addr} {o : HO} (e : uni N M b = some o) : N b = some o ∨ M b = some o := by
  unfold uni at e
  cases h : N b with
  | some u =>
    rw [h] at e
    exact .inl e
  | none =>
    rw [h] at e
    exact .inr e
theorem same_upd {H : Hp} {p : Addr} {o : HO} (h : H p = none) : Same H (upd H p o) := fun b u e => by
  rw [upd_ne (ne_of_none e h)]
  exact e
theorem same_upd2 {H H1 : Hp} {p : Addr} {o : HO} (x : Same H H1) (h : H1 p = none) : Same H (upd H1 p o) := L2.Same.trans x (same_upd h)
/-- what H does not track may change -/
theorem same_mut {H H1 : Hp} {p : Addr} {o : HO} (x : Same H H1) (h : H p = none) : Same H (upd H1 p o) := fun b u e => by
  rw [upd_ne (ne_of_none e h)]
  exact x b u e
theorem Kp2.same {a b : Addr} {H H' B : Hp} (k : Kp2 a b H H') (s : Same B H) (ha : B a = none) (hb : B b = none) : Same B H' := fun q o e =>
  k q o (s q o e) (ne_of_none e ha) (ne_of_none e hb)
theorem Strm.keep {H H' : Hp} {st cl : Addr} {n : Nat} (S : Strm H st cl n) (e : Same H H') : Strm H' st cl n := by
  obtain ⟨c, a, ns, h1, h2, h3⟩ := S.ex
  exact ⟨c, a, ns, e _ _ h1, e _ _ h2, h3⟩
theorem Kp2.of_same {a b : Addr} {H H' : Hp} (e : Same H H') : Kp2 a b H H' := fun q o h _ _ => e q o h
theorem Kp2.trans {a b : Addr} {H H1 H2 : Hp} (x : Kp2 a b H H1) (y : Kp2 a b H1 H2) : Kp2 a b H H2 := fun q o e n1 n2 => y q o (x q o e n1 n2) n1 n2
theorem Strm.st {H : Hp} {st cl : Addr} {n : Nat} (S : Strm H st cl n) : ∃ o, H st = some o := by
  obtain ⟨c, a, ns, h1, _⟩ := S.ex
  exact ⟨_, h1⟩
theorem Strm.cl {H : Hp} {st cl : Addr} {n : Nat} (S : Strm H st cl n) : ∃ o, H cl = some o := by
  obtain ⟨c, a, ns, _, h2, _⟩ := S.ex
  exact ⟨_, h2⟩
/-! ### start, pick -/
def spStart (K : PySem.W.Frag) : Sp := fun vs H Q _ => ∃ (a : Addr) (ns : List Int), vs = [.ref a] ∧ SqL K H a (ns.map V.int) ∧ ∀ (st cl : Addr) (H' : Hp), H st = none → H cl = none → Same H H' → Strm H' st cl 0 → Q (.ref st) H'
def spPick : Sp := fun vs H Q _ => ∃ (st cl : Addr) (n : Nat) (a : Addr) (xs : List V), vs = [.ref st, .ref a] ∧ Strm H st cl n ∧ H a = some (.lst xs) ∧ a ≠ st ∧ a ≠ cl ∧ xs ≠ [] ∧ xs.length < 1000 ∧ n ≤ 100000 ∧
  ∀ (x : V) (H' : Hp), x ∈ xs → Strm H' st cl (n + 1) → Kp2 st cl H H' → Q x H'
section
variable {P : Program} {w : World} {K : PySem.W.Frag} {mg : Str → Option Value} {base : Heap}
theorem scStart : FnScope ["_law_script"] ["_law_script"] (defScope sStart) := ⟨rfl, rfl, rfl, by decide +kernel, rfl, by decide +kernel, by decide +kernel⟩
theorem ok_start {f : Addr} {fd : FuncData} (F : Fun K "_law_start" "_law_start" sStart f fd) (T : TxtB mg) : FnOk P w K mg base CX0 1 f fd ["_law_script"] (spStart K) := by
  refine F.ok scStart (fun vs H Q E h => ?_) (fun cdv A outer s H vs Q E hr h => ?_)
  · obtain ⟨a, ns, rfl, _⟩ := h
    rfl
  · obtain ⟨a, ns, rfl, hS, k⟩ := h
    refine ⟨_, pss_one (ps_ret (pe_lst (pa_cons (pe_callTy call_list_of (by rfl) T.list (by decide +kernel) (pa_cons (pv 0) pa_nil)) (pa_cons pe_int (pa_cons pe_int (pa_cons pe_int pa_nil)))))), ?_⟩
    refine ⟨_, rfl, a, _, rfl, .inl hS, fun cl hc => ⟨(by show 4 ≤ sizeLine; decide), fun st hs => ?_⟩⟩
    have nc : cl ≠ st := ne_of_none upd_same hs
    have hs0 : H st = none := by
      rw [upd_ne nc.symm] at hs
      exact hs
    exact k st cl _ hs0 hc (same_upd2 (same_upd hc) hs) ⟨0, 0, ns, upd_same, by rw [upd_ne nc, upd_same], by decide, by decide, by decide⟩
theorem scPick : FnScope ["_law_stream", "_law_some"] ["_law_stream", "_law_some"] (defScope sPick) := ⟨rfl, rfl, rfl, by decide +kernel, rfl, by decide +kernel, by decide +kernel⟩
theorem ok_pick {f fD : Addr} {fd fdD : FuncData} (F : Fun K "_law_pick" "_law_pick" sPick f fd) (T : TxtB mg) (G : FnOk P w K mg base CX0 1 fD fdD ["_law_stream", "_law_many"] spDraw) (mD : mg "_law_draw" = some (.ref fD)) (kD : PySem.W.keepIn K (.ref fD) = true) (bD : Binds K fdD ["_law_stream", "_law_many"] []) :
    FnOk P w K mg base CX0 2 f fd ["_law_stream", "_law_some"] spPick := by
  refine F.ok scPick (fun vs H Q E h => ?_) (fun cdv A outer s H vs Q E hr h => ?_)
  · obtain ⟨st, cl, n, a, xs, rfl, _⟩ := h
    rfl
  · obtain ⟨st, cl, n, a, xs, rfl, S, ha, n1, n2, x0, xl, hn, k⟩ := h
    refine ⟨_, pss_one (ps_ret (pe_ix ix_list (pv 1) (pe_call G hr rfl mD kD bD .nil pass0 (pa_cons (pv 0) (pa_cons (pe_callB call_len_seq (by rfl) T.len PySem.boot_len (pa_cons (pv 1) pa_nil)) pa_nil))) (fun _ _ => rfl))), ?_⟩
    have hx : 0 < xs.length := List.length_pos_iff.mpr x0
    refine ⟨_, rfl, _, rfl, _, rfl, a, xs, rfl, .inl (SqL.of ha), st, cl, n, (xs.length : Int), rfl, S, by omega, by omega, hn, fun j H' j0 j1 S' kk => ?_⟩
    have hj : j.toNat < xs.length := by omega
    have ej : ((j.toNat : Nat) : Int) = j := by omega
    refine ⟨a, xs, j, xs[j.toNat], rfl, rfl, SqL.of (kk _ _ ha n1 n2), ?_, k _ _ (List.getElem_mem hj) S' kk⟩
    have q := atI_nat (xs := xs) (j := j.toNat) (List.getElem?_eq_getElem hj)
    rw [ej] at q
    exact q
end
end K45

namespace K45
open PySem L2
/-! ### copied -/
mutual
def small : PyData → Bool
  | .list xs => decide (xs.length ≤ 1000) && smallAll xs
  | .tuple xs => decide (xs.length ≤ 1000) && smallAll xs
  | _ => true
def smallAll : List PyData → Bool
  | [] => true
  | x :: xs => small x && smallAll xs
end
theorem smallAll_get : ∀ {ds : List PyData} {i : Nat} {d : PyData}, smallAll ds = true → ds[i]? = some d → small d = true
  | [], i, d, _, e => by simp at e
  | x :: xs, i, d, h, e => by
    simp only [smallAll, Bool.and_eq_true] at h
    cases i with
    | zero =>
      simp at e
      subst e
      exact h.1
    | succ i => exact smallAll_get h.2 (by simpa using e)
theorem depthAll_get : ∀ {ds : List PyData} {i : Nat} {d : PyData}, ds[i]? = some d → PyData.depth d ≤ PyData.depthAll ds
  | [], i, d, e => by simp at e
  | x :: xs, i, d, e => by
    simp only [PyData.depthAll]
    cases i with
    | zero =>
      simp at e
      subst e
      omega
    | succ i =>
      have := depthAll_get (ds := xs) (i := i) (d := d) (by simpa using e)
      omega
/-- copied(v), v of nesting below m -/
def spCop : Nat → Sp
  | 0 => fun _ _ _ _ => False
  | m + 1 => fun vs H Q _ => ∃ (v : V) (d : PyData), vs = [v] ∧ Dt H v d ∧ PyData.depth d ≤ m ∧ small d = true ∧ ∀ (v' : V) (N H' : Hp), Same H H' → Fresh H H' N → Dt N v' d → Q v' H'
theorem cop_child {m : Nat} {ds : List PyData} {i : Nat} {d : PyData} (dep : PyData.depth (.list ds) ≤ m) (sz : small (.list ds) = true) (e : ds[i]? = some d) : PyData.depth d + 1 ≤ m ∧ small d = true := by
  simp only [small, Bool.and_eq_true] at sz
  have := depthAll_get e
  simp only [PyData.depth] at dep
  exact ⟨by omega, smallAll_get sz.2 e⟩
theorem cop_child' {m : Nat} {ds : List PyData} {i : Nat} {d : PyData} (dep : PyData.depth (.tuple ds) ≤ m) (sz : small (.tuple ds) = true) (e : ds[i]? = some d) : PyData.depth d + 1 ≤ m ∧ small d = true := by
  simp only [small, Bool.and_eq_true] at sz
  have := depthAll_get e
  simp only [PyData.depth] at dep
  exact ⟨by omega, smallAll_get sz.2 e⟩
theorem cop_size {ds : List PyData} (sz : small (.list ds) = true) : ds.length ≤ 1000 := by
  simp only [small, Bool.and_eq_true] at sz
  simpa using sz.1
theorem cop_size' {ds : List PyData} (sz : small (.tuple ds) = true) : ds.length ≤ 1000 := by
  simp only [small, Bool.and_eq_true] at sz
  simpa using sz.1
theorem sz_lt1 {n i : Nat} (e : n = i) (h : i < 1001) : n < sizeLine := by
  rw [e, PySem.sizeLine_eq]
  omega
/-- behind i items of a copying comprehension: at D the copies, whose parts stand in N -/
def CopI (H : Hp) (D : Addr) (ds : List PyData) (i : Nat) (H' : Hp) : Prop := Same H H' ∧ ∃ (ys : List V) (N : Hp), H' D = some (.lst ys) ∧ N D = none ∧ Fresh H H' N ∧ DtAll N ys (ds.take i)
theorem copI0 {H : Hp} {D : Addr} {ds : List PyData} (hD : H D = none) : CopI H D ds 0 (upd H D (.lst [])) := ⟨same_upd hD, [], emp, upd_same, rfl, fresh_emp, .nil⟩
theorem take_more' {α : Type} : ∀ {l : List α} {i : Nat} {x : α}, l[i]? = some x → l.take (i + 1) = l.take i ++ [x]
  | [], i, x, h => by simp at h
  | a :: l, 0, x, h => by
    have e : a = x := Option.some.inj h
    subst e
    rfl
  | a :: l, i + 1, x, h => by
    have ih := take_more' (l := l) (i := i) (x := x) h
    show a :: l.take (i + 1) = a :: l.take i ++ [x]
    rw [ih]
    rfl
theorem copI_step {H H' H2 N : Hp} {D : Addr} {ds : List PyData} {i : Nat} {dx : PyData} {v' : V} (hD : H D = none) (hdx : ds[i]? = some dx) (h : CopI H D ds i H') (e2 : Same H' H2) (F2 : Fresh H' H2 N) (t2 : Dt N v' dx) :
    ∃ (ys : List V) (N0 : Hp), H2 D = some (.lst ys) ∧ ys.length = i ∧ CopI H D ds (i + 1) (upd H2 D (.lst (ys ++ [v']))) := by
  obtain ⟨s1, ys, N0, hy, nD, F1, t1⟩ := h
  have hlen : i < ds.length := (List.getElem?_eq_some_iff.mp hdx).1
  have hl : ys.length = i := by
    rw [t1.len, List.length_take]
    omega
  have ap : ∀ b o, N b = some o → N0 b = none := fun b o e => by
    have z := F2.new b o e
    cases q : N0 b with
    | none => rfl
    | some u =>
      rw [F1.sub b u q] at z
      cases z
  have nND : N D = none := by
    cases q : N D with
    | none => rfl
    | some u =>
      have z := F2.new D u q
      rw [hy] at z
      cases z
  refine ⟨ys, N0, e2 _ _ hy, hl, same_mut (s1.trans e2) hD, ys ++ [v'], uni N0 N, upd_same, ?_, ⟨fun b o e => ?_, fun b o e => ?_⟩, ?_⟩
  · unfold uni
    rw [nD]
    exact nND
  · have hb : b ≠ D := fun z => by
      rw [z] at e
      rcases uni_or e with q | q
      · rw [nD] at q
        cases q
      · rw [nND] at q
        cases q
    rw [upd_ne hb]
    rcases uni_or e with q | q
    · exact e2 _ _ (F1.sub b o q)
    · exact F2.sub b o q
  · rcases uni_or e with q | q
    · exact F1.new b o q
    · exact Same.free s1 (F2.new b o q)
  · rw [take_more' hdx]
    exact (DtAll.mono uni_l _ _ t1).snoc (Dt.mono (uni_r ap) _ _ t2)
theorem copI_end {H H' : Hp} {D : Addr} {ds : List PyData} {n : Nat} (hn : n = ds.length) (h : CopI H D ds n H') : Same H H' ∧ ∃ (ys : List V) (N : Hp), H' D = some (.lst ys) ∧ N D = none ∧ Fresh H H' N ∧ DtAll N ys ds := by
  obtain ⟨s1, ys, N0, hy, nD, F1, t1⟩ := h
  rw [hn, List.take_length] at t1
  exact ⟨s1, ys, N0, hy, nD, F1, t1⟩
section
variable {P : Program} {w : World} {K : PySem.W.Frag} {mg : Str → Option Value} {base : Heap}

theorem scCop : FnScope ["value", "part"] ["value"] (defScope sCop) := ⟨rfl, rfl, rfl, by decide +kernel, rfl, by decide +kernel, by decide +kernel⟩
theorem stepCop {f : Addr} {fd : FuncData} {m : Nat} (F : Fun K "copied" "copied" sCop f fd) (T : TxtB mg) (G : FnOk P w K mg base CX0 (m + 1) f fd ["value"] (spCop m)) (mC : mg "copied" = some (.ref f)) (kC : PySem.W.keepIn K (.ref f) = true) (bC : Binds K fd ["value"] []) :
    FnOk P w K mg base CX0 (m + 2) f fd ["value"] (spCop (m + 1)) := by
  refine F.ok scCop (fun vs H Q E h => ?_) (fun cdv A outer s H vs Q E hr h => ?_)
  · obtain ⟨v, d, rfl, _⟩ := h
    rfl
  · obtain ⟨v, d, rfl, hd, dep, sz, k⟩ := h
    refine ⟨_, pss_cons (ps_if (pt_val (pe_callB call_isi (by rfl) T.isinstance (by decide +kernel) (pa_cons (pv 0) (pa_cons (pe_bltn (v := .ty "list") (by rfl) T.list (by decide +kernel) rfl) pa_nil))))
        (pss_one (ps_ret (pe_lc (own := [("part", 1)]) (g := gName 1) (tt := tYes) rfl scCop.nd (pi_list (pv 0)) (blkOk_by (N := ["value", "part"]) (sc := defScope sCop) (by decide +kernel)) (fun _ _ _ _ _ => pg_name (i := 1) scCop.nd rfl (Or.inl rfl)) (fun _ _ _ _ _ => pts_nil) (fun _ _ _ _ _ => pe_call G hr rfl mC kC bC .nil pass0 (pa_cons (pv 1) pa_nil))))) pss_nil)
      (pss_one (ps_ret (pe_ifExp (pt_val (pe_callB call_isi (by rfl) T.isinstance (by decide +kernel) (pa_cons (pv 0) (pa_cons (pe_bltn (v := .ty "tuple") (by rfl) T.tuple (by decide +kernel) rfl) pa_nil))))
        (pe_callTy call_tuple_of (by rfl) T.tuple (by decide +kernel) (pa_cons (pe_lc (own := [("part", 1)]) (g := gName 1) (tt := tYes) rfl scCop.nd (pi_tup (pv 0)) (blkOk_by (N := ["value", "part"]) (sc := defScope sCop) (by decide +kernel)) (fun _ _ _ _ _ => pg_name (i := 1) scCop.nd rfl (Or.inl rfl)) (fun _ _ _ _ _ => pts_nil) (fun _ _ _ _ _ => pe_call G hr rfl mC kC bC .nil pass0 (pa_cons (pv 1) pa_nil))) pa_nil))
        (pv 0)))), ?_⟩
    -- isinstance(value, list)
    cases hd with
    | non => exact ⟨_, rfl, _, .ty "list", _, _, false, rfl, .ty _, .base (.non), kit_ty (by decide +kernel), _, rfl, iteF ⟨_, rfl, _, .ty "tuple", _, _, false, rfl, .ty _, .base (.non), kit_ty (by decide +kernel), _, rfl, iteF ⟨_, rfl, k _ emp H (Same.refl H) fresh_emp (.non)⟩⟩⟩
    | bl b => exact ⟨_, rfl, _, .ty "list", _, _, false, rfl, .ty _, .base (.bl b), kit_ty (by decide +kernel), _, rfl, iteF ⟨_, rfl, _, .ty "tuple", _, _, false, rfl, .ty _, .base (.bl b), kit_ty (by decide +kernel), _, rfl, iteF ⟨_, rfl, k _ emp H (Same.refl H) fresh_emp (.bl b)⟩⟩⟩
    | int i => exact ⟨_, rfl, _, .ty "list", _, _, false, rfl, .ty _, .base (.int i), kit_ty (by decide +kernel), _, rfl, iteF ⟨_, rfl, _, .ty "tuple", _, _, false, rfl, .ty _, .base (.int i), kit_ty (by decide +kernel), _, rfl, iteF ⟨_, rfl, k _ emp H (Same.refl H) fresh_emp (.int i)⟩⟩⟩
    | str x => exact ⟨_, rfl, _, .ty "list", _, _, false, rfl, .ty _, .base (.str x), kit_ty (by decide +kernel), _, rfl, iteF ⟨_, rfl, _, .ty "tuple", _, _, false, rfl, .ty _, .base (.str x), kit_ty (by decide +kernel), _, rfl, iteF ⟨_, rfl, k _ emp H (Same.refl H) fresh_emp (.str x)⟩⟩⟩
    | @lst a xs ds ha hds =>
      refine ⟨_, rfl, .ref a, .ty "list", _, _, true, rfl, .ty _, .base (.lst ha), kit_ty (by decide +kernel), _, rfl, iteT ?_⟩
      refine ⟨_, rfl, a, rfl, ⟨_, SqL.of ha⟩, fun D hD => ?_⟩
      refine lc_list (K := K) (a := a) (xs := xs) (CopI H D ds) (copI0 hD) (fun i H' _ h => SqL.of (h.1 _ _ ha)) (fun i x H' hx h => ?_) (fun H' h => ?_)
      · obtain ⟨dx, hdx, hx'⟩ := hds.get hx
        obtain ⟨d0, s0⟩ := cop_child dep sz hdx
        obtain ⟨m', rfl⟩ : ∃ m', m = m' + 1 := ⟨m - 1, by omega⟩
        refine ⟨rfl, _, rfl, x, dx, rfl, Dt.mono h.1 _ _ hx', by omega, s0, fun v' N H2 e2 F2 t2 => ?_⟩
        obtain ⟨ys, N0, h1, h2⟩ := copI_step hD hdx h e2 F2 t2
        exact ⟨ys, h1, by have := (List.getElem?_eq_some_iff.mp hx).1; have := hds.len; have := cop_size sz; exact sz_lt1 h2.1 (by omega), h2.2⟩
      · obtain ⟨s1, ys, N, hy, hl, F1, t1⟩ := copI_end hds.len h
        exact k (.ref D) (upd N D (.lst ys)) H' s1 (F1.upd hD hy) (.lst upd_same (DtAll.mono (same_upd hl) _ _ t1))
    | @tup a xs ds ha hds =>
      refine ⟨_, rfl, .ref a, .ty "list", _, _, false, rfl, .ty _, .base (.tup ha), kit_ty (by decide +kernel), _, rfl, iteF ?_⟩
      refine ⟨_, rfl, .ref a, .ty "tuple", _, _, true, rfl, .ty _, .base (.tup ha), kit_ty (by decide +kernel), _, rfl, iteT ?_⟩
      refine ⟨_, rfl, a, rfl, ⟨_, SqT.of ha⟩, fun D hD => ?_⟩
      refine lc_tup (K := K) (a := a) (xs := xs) (CopI H D ds) (copI0 hD) (fun i H' _ h => SqT.of (h.1 _ _ ha)) (fun i x H' hx h => ?_) (fun H' h => ?_)
      · obtain ⟨dx, hdx, hx'⟩ := hds.get hx
        obtain ⟨d0, s0⟩ := cop_child' dep sz hdx
        obtain ⟨m', rfl⟩ : ∃ m', m = m' + 1 := ⟨m - 1, by omega⟩
        refine ⟨rfl, _, rfl, x, dx, rfl, Dt.mono h.1 _ _ hx', by omega, s0, fun v' N H2 e2 F2 t2 => ?_⟩
        obtain ⟨ys, N0, h1, h2⟩ := copI_step hD hdx h e2 F2 t2
        exact ⟨ys, h1, by have := (List.getElem?_eq_some_iff.mp hx).1; have := hds.len; have := cop_size' sz; exact sz_lt1 h2.1 (by omega), h2.2⟩
      · obtain ⟨s1, ys, N, hy, hl, F1, t1⟩ := copI_end hds.len h
        refine ⟨D, ys, rfl, .inl ⟨SqL.of hy, fun l hl2 => ?_⟩⟩
        have nDl : N l = none := by
          cases e : N l with
          | none => rfl
          | some o =>
            rw [F1.sub _ _ e] at hl2
            cases hl2
        exact k (.ref l) (upd N l (.tup ys)) _ (same_upd2 s1 hl2) (Fresh.upd ⟨F1.sub.trans (same_upd hl2), F1.new⟩ (Same.free s1 hl2) upd_same) (.tup upd_same (DtAll.mono (same_upd nDl) _ _ t1))
theorem okCop {f : Addr} {fd : FuncData} (F : Fun K "copied" "copied" sCop f fd) (T : TxtB mg) (mC : mg "copied" = some (.ref f)) (kC : PySem.W.keepIn K (.ref f) = true) (bC : Binds K fd ["value"] []) :
    ∀ m, FnOk P w K mg base CX0 (m + 1) f fd ["value"] (spCop m)
  | 0 => ⟨fun _ _ _ _ h => h.elim, fun _ _ _ _ _ _ _ _ _ _ _ _ _ h => h.elim⟩
  | m + 1 => stepCop F T (okCop F T mC kC bC m) mC kC bC

end
end K45

namespace K45
open PySem L2
/-- the same data read twice, of nesting below m -/
def spSame : Nat → Sp
  | 0 => fun _ _ _ _ => False
  | m + 1 => fun vs H Q _ => ∃ (x y : V) (d : PyData), vs = [x, y] ∧ Dt H x d ∧ Dt H y d ∧ PyData.depth d ≤ m ∧ small d = true ∧ ∀ (H' : Hp), Same H H' → Q (.bl true) H'
theorem walk_zipT {K : PySem.W.Frag} {a b : Addr} {xs ys : List V} {n : Nat} (hn : n = min xs.length ys.length) : Walk (RZ.ItzT K a b) n (fun H => SqT K H a xs ∧ SqT K H b ys) (YPair (fun i => xs[i]?) (fun i => ys[i]?)) := by
  subst hn
  refine ⟨fun i _ hi q => ?_, fun _ q => ⟨xs, ys, q.1, q.2, by omega⟩, fun i H v H' _ q y => ?_⟩
  · exact ⟨xs, ys, xs[i], ys[i], q.1, q.2, by rw [List.getElem?_eq_getElem], by rw [List.getElem?_eq_getElem]⟩
  · obtain ⟨T, x, z, h1, h2, h3, h4, h5⟩ := y
    exact ⟨T, x, z, h1, h2, h3, h4 xs q.1, h5 ys q.2⟩
theorem all_true (n : Nat) : (List.replicate n true).all id = true := by
  rw [List.all_eq_true]
  intro x hx
  exact (List.mem_replicate.mp hx).2
theorem DtAll.at {N : Hp} : ∀ {ds : List PyData} {vs : List V} {i : Nat} {d : PyData}, DtAll N vs ds → ds[i]? = some d → ∃ v, vs[i]? = some v ∧ Dt N v d
  | [], _, i, v, h, e => by simp at e
  | d :: ds, _, i, v, h, e => by
    cases h with
    | cons h1 h2 =>
      cases i with
      | zero =>
        simp at e
        subst e
        exact ⟨_, rfl, h1⟩
      | succ i => exact DtAll.at (i := i) h2 (by simpa using e)
def kitsB (a : String) : List String → Option Bool
  | [] => some false
  | c :: cs => match kitB a c with
    | some true => some true
    | some false => kitsB a cs
    | none => none
theorem kits {K : PySem.W.Frag} {a : String} : ∀ {cs : List String} {r : Bool}, kitsB a cs = some r → PySem.W.kitAny K (.type a) (cs.map Value.type) = some r
  | [], r, h => by
    cases h
    exact kitAny_nil
  | c :: cs, r, h => by
    unfold kitsB at h
    cases e : kitB a c with
    | none =>
      rw [e] at h
      cases h
    | some b =>
      rw [e] at h
      cases b with
      | true =>
        cases h
        exact kitAny_cons (kit_ty e) (fun z => by cases z) (fun _ => rfl)
      | false => exact kitAny_cons (kit_ty e) (fun _ => kits h) (fun z => by cases z)
/-- at D so many True -/
def AllT (H : Hp) (D : Addr) (i : Nat) (H' : Hp) : Prop := Same H H' ∧ H' D = some (.lst ((List.replicate i true).map V.bl))
end K45

namespace K45
open PySem L2 PyProof.Rows
/-! ### a store into a field as a target -/
def gFld (K : PySem.W.Frag) (to : TE) (f : Str) : TG := fun v σ H Q => to σ H fun x H1 => ∃ a C dx fs, x = .ref a ∧ H1 a = some (.ins C dx fs) ∧ Cls K C ∧ NoAttr K C f ∧ fs.length < 1000 ∧ Q σ (upd H1 a (.ins C dx (putF f v fs)))
theorem pg_fld {X : Cx} {o : Expr} {to : TE} {f : Str} {pos : Pos} (ho : PE X o to) : PG X (.Attribute o f pos) (gFld X.K to f) := by
  refine ⟨fun pins s σ H v u Q I r h => PySem.W.kas_attr (thn (ho.run pins s σ H _ I h) fun ov s1 hh => ?_)⟩
  obtain ⟨x, H1, I1, rx, a, C, dx, fs, ex, ea, c, n, l, q⟩ := hh
  subst ex
  obtain rfl : ov = Value.ref a := rx
  exact setattr_ok I1 ea c n l r fun s3 I3 => ⟨σ, _, I3, q⟩
/-! ### comprehensions of bools -/
def BlI {α : Type} (f : α → Bool) (H1 : Hp) (D : Addr) (xs : List α) (i : Nat) (H' : Hp) : Prop := Same H1 H' ∧ H' D = some (.lst ((xs.take i).map fun x => V.bl (f x)))
theorem blI0 {α : Type} {f : α → Bool} {H1 : Hp} {D : Addr} {xs : List α} (hD : H1 D = none) : BlI f H1 D xs 0 (upd H1 D (.lst [])) := ⟨same_upd hD, upd_same⟩
theorem blI_step {α : Type} {f : α → Bool} {H1 H' H2 : Hp} {D : Addr} {xs : List α} {i : Nat} {x : α} {b : Bool} (hD : H1 D = none) (hx : xs[i]? = some x) (h : BlI f H1 D xs i H') (e : Same H' H2) (hb : b = f x) (hs : xs.length ≤ 1000) :
    ∃ acc, H2 D = some (.lst acc) ∧ acc.length < sizeLine ∧ BlI f H1 D xs (i + 1) (upd H2 D (.lst (acc ++ [.bl b]))) := by
  have hi : i < xs.length := (List.getElem?_eq_some_iff.mp hx).1
  refine ⟨_, e _ _ h.2, sz_lt1 (by rw [List.length_map, List.length_take]; omega) (show i < 1001 by omega), same_mut (h.1.trans e) hD, ?_⟩
  rw [upd_same, take_more' hx, List.map_append, hb]
  rfl
theorem blI_end {α : Type} {f : α → Bool} {H1 H' : Hp} {D : Addr} {xs : List α} {n : Nat} (hn : n = xs.length) (h : BlI f H1 D xs n H') : Same H1 H' ∧ H' D = some (.lst ((xs.map f).map V.bl)) := by
  have h2 := h.2
  rw [hn, List.take_length] at h2
  refine ⟨h.1, ?_⟩
  rw [h2, List.map_map]
  rfl
/-! ### is_row, is_integer -/
def spIsRow (K : PySem.W.Frag) : Sp := fun vs H Q _ => ∃ (x : V) (t : String) (b : Bool), vs = [x] ∧ TyX K H x (.type t) ∧ kitsB t ["list", "tuple"] = some b ∧ ∀ H', Same H H' → Q (.bl b) H'
def spIsInt (K : PySem.W.Frag) : Sp := fun vs H Q _ => ∃ (x : V) (t : String) (b c : Bool), vs = [x] ∧ TyX K H x (.type t) ∧ kitB t "int" = some b ∧ kitB t "bool" = some c ∧ Q (.bl (b && !c)) H
theorem TyX.keep {K : PySem.W.Frag} {H H' : Hp} {x : V} {t : String} (e : Same H H') (h : TyX K H x (.type t)) : TyX K H' x (.type t) := by
  cases h with
  | base h =>
    cases h with
    | non => exact .base .non
    | bl x => exact .base (.bl x)
    | int i => exact .base (.int i)
    | str x => exact .base (.str x)
    | flt x => exact .base (.flt x)
    | lst h => exact .base (.lst (e _ _ h))
    | frz h => exact .base (.frz (e _ _ h))
    | tup h => exact .base (.tup (e _ _ h))
    | dK h => exact .base (.dK (e _ _ h))
    | dT h => exact .base (.dT (e _ _ h))
  | byt b => exact .byt b
  | set h => exact .set (e _ _ h)
  | kList h c => exact .kList h c
  | kTuple h c => exact .kTuple h c
  | kDict h c => exact .kDict h c
  | fTuple h => exact .fTuple (e _ _ h)
  | fDict h => exact .fDict (e _ _ h)
section
variable {P : Program} {w : World} {K : PySem.W.Frag} {mg : Str → Option Value} {base : Heap}
theorem scIsRow : FnScope ["thing"] ["thing"] (defScope sIsRow) := ⟨rfl, rfl, rfl, by decide +kernel, rfl, by decide +kernel, by decide +kernel⟩
theorem ok_isRow {f : Addr} {fd : FuncData} (F : Fun K "is_row" "is_row" sIsRow f fd) (T : TxtB mg) : FnOk P w K mg base CX0 1 f fd ["thing"] (spIsRow K) := by
  refine F.ok scIsRow (fun vs H Q E h => ?_) (fun cdv A outer s H vs Q E hr h => ?_)
  · obtain ⟨x, t, b, rfl, _⟩ := h
    rfl
  · obtain ⟨x, t, b, rfl, tx, hb, k⟩ := h
    refine ⟨_, pss_one (ps_ret (pe_callB call_isiT (by rfl) T.isinstance (by decide +kernel) (pa_cons (pv 0) (pa_cons (pe_tup (pa_cons (pe_bltn (v := .ty "list") (by rfl) T.list (by decide +kernel) rfl) (pa_cons (pe_bltn (v := .ty "tuple") (by rfl) T.tuple (by decide +kernel) rfl) pa_nil))) pa_nil)))), ?_⟩
    exact ⟨_, rfl, (by show 2 ≤ sizeLine; decide), fun p hp => ⟨_, p, _, _, _, b, rfl, upd_same, .cons (.ty _) (.cons (.ty _) .nil), TyX.keep (same_upd hp) tx, kits hb, k _ (same_upd hp)⟩⟩
theorem scIsInt : FnScope ["thing"] ["thing"] (defScope sIsInt) := ⟨rfl, rfl, rfl, by decide +kernel, rfl, by decide +kernel, by decide +kernel⟩
theorem ok_isInt {f : Addr} {fd : FuncData} (F : Fun K "is_integer" "is_integer" sIsInt f fd) (T : TxtB mg) : FnOk P w K mg base CX0 1 f fd ["thing"] (spIsInt K) := by
  refine F.ok scIsInt (fun vs H Q E h => ?_) (fun cdv A outer s H vs Q E hr h => ?_)
  · obtain ⟨x, t, b, c, rfl, _⟩ := h
    rfl
  · obtain ⟨x, t, b, c, rfl, tx, hb, hc, k⟩ := h
    refine ⟨_, pss_one (ps_ret (pe_and (pe_callB call_isi (by rfl) T.isinstance (by decide +kernel) (pa_cons (pv 0) (pa_cons (pe_bltn (v := .ty "int") (by rfl) T.int (by decide +kernel) rfl) pa_nil))) (pe_one (pe_not (pe_callB call_isi (by rfl) T.isinstance (by decide +kernel) (pa_cons (pv 0) (pa_cons (pe_bltn (v := .ty "bool") (by rfl) T.bool (by decide +kernel) rfl) pa_nil))))))), ?_⟩
    refine ⟨_, rfl, _, .ty "int", _, _, b, rfl, .ty _, tx, kit_ty hb, b, rfl, ?_⟩
    cases b with
    | true => exact iteT ⟨_, rfl, _, .ty "bool", _, _, c, rfl, .ty _, tx, kit_ty hc, c, rfl, k⟩
    | false => exact iteF k
end
end K45

namespace K45
open PySem L2 PyProof.Rows
/-! ### sorted texts are one list -/
theorem sortedS_pw : ∀ (l : List Str), sortedS l = true → l.Pairwise fun a b => a.cps.toList ≤ b.cps.toList
  | [], _ => .nil
  | [x], _ => .cons (fun _ h => nomatch h) .nil
  | x :: y :: r, h => by
    have h' : (!PySem.Spec.ltCps y.cps.toList x.cps.toList && risingS y r) = true := h
    rw [Bool.and_eq_true] at h'
    have ih := sortedS_pw (y :: r) h'.2
    have xy : x.cps.toList ≤ y.cps.toList := by
      have q := h'.1
      rw [PyProof.Rows.ltCps_eq] at q
      simpa using q
    refine .cons (fun z hz => ?_) ih
    rcases List.mem_cons.mp hz with rfl | hz
    · exact xy
    · exact List.le_trans xy (List.rel_of_pairwise_cons ih hz)
theorem cps_inj {a b : Str} (h : a.cps.toList = b.cps.toList) : a = b := by
  cases a
  cases b
  simp at h
  rw [h]
theorem sorted_one {a b : List Str} (p : a.Perm b) (ha : sortedS a = true) (hb : sortedS b = true) : a = b :=
  p.eq_of_pairwise (fun x y _ _ h1 h2 => cps_inj (List.le_antisymm h1 h2)) (sortedS_pw a ha) (sortedS_pw b hb)
/-! ### the mirror of a dict of data -/
abbrev DD := List (Str × PyData)
def putD (l : DD) (k : Str) (d : PyData) : DD := if (l.any fun p => decide (p.1 = k)) = true then l.map (fun p => if p.1 = k then (p.1, d) else p) else l ++ [(k, d)]
def lookD (l : DD) (k : Str) : Option PyData := (l.find? fun p => decide (p.1 = k)).map (·.2)
def mergeD (l more : DD) : DD := more.foldl (fun a p => putD a p.1 p.2) l
def keysD (l : DD) : List Str := l.map (·.1)
/-- a dict's pairs bear the mirror, their parts stand in N -/
def Held (N : Hp) : List (Key × V) → DD → Prop := PySem.Paired fun p q => p.1 = Sum.inr q.1 ∧ Dt N p.2 q.2
theorem held_mono {N M : Hp} (e : Same N M) : ∀ {kvs : List (Key × V)} {ld : DD}, Held N kvs ld → Held M kvs ld
  | _, _, .nil => .nil
  | _, _, .cons h t => .cons ⟨h.1, Dt.mono e _ _ h.2⟩ (held_mono e t)
theorem held_len {N : Hp} {kvs : List (Key × V)} {ld : DD} (h : Held N kvs ld) : kvs.length = ld.length := PySem.Paired.length h
theorem held_keys {N : Hp} : ∀ {kvs : List (Key × V)} {ld : DD}, Held N kvs ld → kvs.map (·.1) = (keysD ld).map Sum.inr
  | _, _, .nil => rfl
  | _, _, .cons h t => by
    have e := held_keys t
    unfold keysD at e ⊢
    rw [List.map_cons, List.map_cons, List.map_cons, ← e]
    exact congrArg (· :: _) h.1
theorem held_any {N : Hp} (k : Str) : ∀ {kvs : List (Key × V)} {ld : DD}, Held N kvs ld → (kvs.any fun kv => decide (kv.1 = (Sum.inr k : Key))) = ld.any fun p => decide (p.1 = k)
  | _, _, .nil => rfl
  | _, _, .cons h t => by
    rw [List.any_cons, List.any_cons, held_any k t, h.1, key_rr]
theorem held_map {N : Hp} (k : Str) {v : V} {d : PyData} (hv : Dt N v d) : ∀ {kvs : List (Key × V)} {ld : DD}, Held N kvs ld →
    Held N (kvs.map fun kv => if kv.1 = (Sum.inr k : Key) then (kv.1, v) else kv) (ld.map fun p => if p.1 = k then (p.1, d) else p)
  | _, _, .nil => .nil
  | _, _, @PySem.Paired.cons _ _ _ p q ps qs h t => by
    refine .cons ?_ (held_map k hv t)
    dsimp only at h ⊢
    by_cases e : q.1 = k
    · have e2 : p.1 = (Sum.inr k : Key) := by rw [h.1, e]
      rw [if_pos e, if_pos e2]
      exact ⟨h.1, hv⟩
    · have e2 : ¬ p.1 = (Sum.inr k : Key) := fun z => e (Sum.inr.inj (h.1.symm.trans z))
      rw [if_neg e, if_neg e2]
      exact h
theorem held_app {N : Hp} {v : V} {d : PyData} {k : Str} (hv : Dt N v d) : ∀ {kvs : List (Key × V)} {ld : DD}, Held N kvs ld → Held N (kvs ++ [(Sum.inr k, v)]) (ld ++ [(k, d)])
  | _, _, .nil => .cons ⟨rfl, hv⟩ .nil
  | _, _, .cons h t => .cons h (held_app hv t)
theorem held_put {N : Hp} {kvs : List (Key × V)} {ld : DD} {v : V} {d : PyData} {k : Str} (h : Held N kvs ld) (hv : Dt N v d) : Held N (putK kvs (Sum.inr k : Key) v) (putD ld k d) := by
  unfold putK putD
  rw [held_any k h]
  by_cases e : (ld.any fun p => decide (p.1 = k)) = true
  · rw [if_pos e, if_pos e]
    exact held_map k hv h
  · rw [if_neg e, if_neg e]
    exact held_app hv h
theorem held_merge {N : Hp} : ∀ {more : List (Key × V)} {md : DD} {kvs : List (Key × V)} {ld : DD}, Held N more md → Held N kvs ld → Held N (mergeK kvs more) (mergeD ld md)
  | _, _, _, _, .nil, h => h
  | _, _, _, _, @PySem.Paired.cons _ _ _ p q ps qs m t, h => by
    have e := held_put (k := q.1) h m.2
    rw [← m.1] at e
    exact held_merge (more := ps) (md := qs) t e
theorem held_look {N : Hp} (k : Str) : ∀ {kvs : List (Key × V)} {ld : DD}, Held N kvs ld → (lookD ld k = none ∧ valV kvs (Sum.inr k : Key) = none) ∨ ∃ d v, lookD ld k = some d ∧ valV kvs (Sum.inr k : Key) = some v ∧ Dt N v d
  | _, _, .nil => .inl ⟨rfl, rfl⟩
  | _, _, @PySem.Paired.cons _ _ _ p q ps qs h t => by
    unfold lookD valV
    rw [List.find?_cons, List.find?_cons]
    by_cases e : q.1 = k
    · have e2 : p.1 = (Sum.inr k : Key) := by rw [h.1, e]
      rw [decide_eq_true e, decide_eq_true e2]
      exact .inr ⟨q.2, p.2, rfl, rfl, h.2⟩
    · have e2 : ¬ p.1 = (Sum.inr k : Key) := fun z => e (Sum.inr.inj (h.1.symm.trans z))
      rw [decide_eq_false e, decide_eq_false e2]
      exact held_look k t
/-! ### the mirror's own laws -/
theorem any_key {l : DD} {k : Str} : (l.any fun p => decide (p.1 = k)) = true ↔ k ∈ keysD l := by
  unfold keysD
  rw [List.any_eq_true, List.mem_map]
  constructor
  · rintro ⟨p, hp, e⟩
    exact ⟨p, hp, by simpa using e⟩
  · rintro ⟨p, hp, e⟩
    exact ⟨p, hp, by simpa using e⟩
theorem keys_put {l : DD} {k : Str} {d : PyData} : keysD (putD l k d) = if k ∈ keysD l then keysD l else keysD l ++ [k] := by
  unfold putD
  by_cases e : (l.any fun p => decide (p.1 = k)) = true
  · rw [if_pos e, if_pos (any_key.mp e)]
    unfold keysD
    rw [List.map_map]
    apply List.map_congr_left
    intro p _
    show (if p.1 = k then (p.1, d) else p).1 = p.1
    split <;> rfl
  · rw [if_neg e, if_neg (fun z => e (any_key.mpr z))]
    unfold keysD
    rw [List.map_append]
    rfl
theorem nodup_put {l : DD} {k : Str} {d : PyData} (h : (keysD l).Nodup) : (keysD (putD l k d)).Nodup := by
  rw [keys_put]
  split
  · exact h
  · rename_i hk
    rw [List.nodup_append]
    exact ⟨h, by simp, fun a ha b hb e => hk (by rw [List.mem_singleton.mp hb] at e; rw [← e]; exact ha)⟩
theorem len_put {l : DD} {k : Str} {d : PyData} : (putD l k d).length ≤ l.length + 1 := by
  unfold putD
  split
  · rw [List.length_map]
    omega
  · rw [List.length_append]
    simp
theorem all_put {R : PyData → Prop} {l : DD} {k : Str} {d : PyData} (h : ∀ p ∈ l, R p.2) (hd : R d) : ∀ p ∈ putD l k d, R p.2 := by
  intro p hp
  unfold putD at hp
  split at hp
  · obtain ⟨q, hq, e⟩ := List.mem_map.mp hp
    by_cases z : q.1 = k
    · rw [if_pos z] at e
      rw [← e]
      exact hd
    · rw [if_neg z] at e
      rw [← e]
      exact h q hq
  · rcases List.mem_append.mp hp with hp | hp
    · exact h p hp
    · rw [List.mem_singleton.mp hp]
      exact hd
theorem nodup_merge : ∀ {m l : DD}, (keysD l).Nodup → (keysD (mergeD l m)).Nodup
  | [], l, h => h
  | p :: m, l, h => nodup_merge (m := m) (l := putD l p.1 p.2) (nodup_put h)
theorem len_merge : ∀ {m l : DD}, (mergeD l m).length ≤ l.length + m.length
  | [], l => Nat.le_refl _
  | p :: m, l => by
    have h1 := len_merge (m := m) (l := putD l p.1 p.2)
    have h2 := len_put (l := l) (k := p.1) (d := p.2)
    show (mergeD (putD l p.1 p.2) m).length ≤ l.length + (m.length + 1)
    omega
theorem all_merge {R : PyData → Prop} : ∀ {m l : DD}, (∀ p ∈ l, R p.2) → (∀ p ∈ m, R p.2) → ∀ p ∈ mergeD l m, R p.2
  | [], l, h, _ => h
  | p :: m, l, h, hm => all_merge (m := m) (l := putD l p.1 p.2) (all_put h (hm p List.mem_cons_self)) fun q hq => hm q (List.mem_cons_of_mem _ hq)
theorem look_put {l : DD} {k j : Str} {d : PyData} : lookD (putD l k d) j = if j = k then some d else lookD l j := by
  have e1 : ∀ l : DD, lookD (l.map fun p => if p.1 = k then (p.1, d) else p) j = if j = k then (if (l.any fun p => decide (p.1 = k)) = true then some d else none) else lookD l j := by
    intro l
    induction l with
    | nil =>
      show (none : Option PyData) = _
      split
      · rw [if_neg (by simp)]
      · rfl
    | cons p l ih =>
      unfold lookD at ih ⊢
      rw [List.map_cons, List.find?_cons]
      by_cases pk : p.1 = k
      · rw [if_pos pk]
        by_cases jk : j = k
        · rw [if_pos jk, jk, decide_eq_true pk, List.any_cons, decide_eq_true pk]
          rfl
        · have pj : ¬ p.1 = j := fun z => jk (z.symm.trans pk)
          rw [decide_eq_false pj]
          rw [if_neg jk] at ih ⊢
          rw [List.find?_cons, decide_eq_false pj]
          exact ih
      · rw [if_neg pk]
        by_cases pj : p.1 = j
        · have jk : ¬ j = k := fun z => pk (pj.trans z)
          rw [if_neg jk, decide_eq_true pj, List.find?_cons, decide_eq_true pj]
        · rw [decide_eq_false pj, ih, List.any_cons, decide_eq_false pk, Bool.false_or]
          split
          · rfl
          · rw [List.find?_cons, decide_eq_false pj]
  unfold putD
  by_cases e : (l.any fun p => decide (p.1 = k)) = true
  · rw [if_pos e, e1, if_pos e]
  · rw [if_neg e]
    unfold lookD
    rw [List.find?_append]
    by_cases jk : j = k
    · rw [if_pos jk, jk]
      have n : l.find? (fun p => decide (p.1 = k)) = none := by
        rw [List.find?_eq_none]
        intro p hp z
        exact e (List.any_eq_true.mpr ⟨p, hp, z⟩)
      rw [n]
      show ((none : Option (Str × PyData)).or ([(k, d)].find? fun p => decide (p.1 = k))).map (·.2) = some d
      rw [List.find?_cons, decide_eq_true rfl]
      rfl
    · rw [if_neg jk, List.find?_cons, decide_eq_false (fun z : k = j => jk z.symm)]
      show ((l.find? fun p => decide (p.1 = j)).or (List.find? _ [])).map (·.2) = _
      rw [List.find?_nil, Option.or_none]
theorem look_mem {l : DD} {k : Str} {d : PyData} (h : lookD l k = some d) : (k, d) ∈ l := by
  unfold lookD at h
  obtain ⟨p, hp, e⟩ := Option.map_eq_some_iff.mp h
  have h1 := List.mem_of_find?_eq_some hp
  have h2 := List.find?_some (p := fun p : Str × PyData => decide (p.1 = k)) hp
  have h3 : p.1 = k := by simpa using h2
  rw [← h3, ← e]
  exact h1
theorem look_nodup : ∀ {l : DD} {k : Str} {d : PyData}, (keysD l).Nodup → (k, d) ∈ l → lookD l k = some d
  | [], k, d, _, h => nomatch h
  | p :: l, k, d, n, h => by
    have n' : p.1 ∉ keysD l ∧ (keysD l).Nodup := List.nodup_cons.mp n
    unfold lookD
    rw [List.find?_cons]
    rcases List.mem_cons.mp h with rfl | h
    · rw [decide_eq_true rfl]
      rfl
    · have pk : ¬ p.1 = k := fun z => n'.1 (by rw [z]; exact List.mem_map.mpr ⟨_, h, rfl⟩)
      rw [decide_eq_false pk]
      exact look_nodup n'.2 h
theorem look_key {l : DD} {k : Str} (h : k ∈ keysD l) : ∃ d, lookD l k = some d := by
  unfold keysD at h
  obtain ⟨p, hp, e⟩ := List.mem_map.mp h
  unfold lookD
  cases q : l.find? (fun p => decide (p.1 = k)) with
  | some r => exact ⟨r.2, rfl⟩
  | none =>
    rw [List.find?_eq_none] at q
    exact absurd (decide_eq_true e) (q p hp)
theorem key_look {l : DD} {k : Str} {d : PyData} (h : lookD l k = some d) : k ∈ keysD l := List.mem_map.mpr ⟨_, look_mem h, rfl⟩
end K45

/-! enumerate over a tuple -/
namespace PySem
theorem enumT_new {v : Value} {o : Obj} {H : Heap → Prop} (B : Begins v o H) :
    Meets (Builtin.«enumerate.__new__» ⟨[.type "enumerate", v], []⟩) (fun _ R s => H s.heap ∧ R (.ok (.ret (.ref (s.heap.push o).objs.size))) { s with heap := (s.heap.push o).push { cls := .type "enumerate", data := .fields #[.none, .bool false, .ref s.heap.objs.size, rawInt 0, .none, .none] } }) :=
  .of_wp fun prog w A R s h => by
    obtain ⟨hp, g, d, tk, os⟩ := s
    obtain ⟨h1, h⟩ := h
    have hsub := sub_enumerate
    have go : ∀ {A' : Around} {E : Value → Shared → Prop} {Q : Value → Shared → Prop}, Q (.ref hp.objs.size) ⟨hp.push o, g, d, tk, os⟩ → wpAny (model prog w) A' (pyIter v) Q E ⟨hp, g, d, tk, os⟩ := fun q => B.iter prog w _ _ ⟨hp, g, d, tk, os⟩ _ h1 q
    wp_walk using go
    refine wpAny_stack_any fun st => wpAny_pure ?_
    split
    · rename_i c _ _ _ _ _
      cases (c == Value.type "enumerate") <;> (wp_walk using go; exact ⟨_, rfl, h⟩)
    · wp_walk using go
      exact ⟨_, rfl, h⟩
theorem enumT_call {prog : Program} {w : World} {A : Around} {E : Value → Shared → Prop} {s : Shared} {v : Value} {o : Obj} {H : Heap → Prop} {Q : Value → Shared → Prop} (B : Begins v o H) (h1 : H s.heap)
    (h : ∀ h', IsEnum h' (s.heap.objs.size + 1) s.heap.objs.size 0 .none → h'.get? s.heap.objs.size = some o → (∀ b o, s.heap.get? b = some o → h'.get? b = some o) → Q (.ref (s.heap.objs.size + 1)) { s with heap := h' }) :
    wpAny (model prog w) A (call (.type "enumerate") [v]) Q E s := by
  refine callType_new F.called_enumerate (by decide) (F.typeCall_enumerate_1 _) (F.newCall_enumerate_1 _) (fun obj => F.args_object_init_2 obj _) F.entry_enumerate_new (enumT_new B) ⟨h1, ?_⟩
  have hz : (s.heap.push o).objs.size = s.heap.objs.size + 1 := Heap.size_push ..
  show _ ∧ _
  rw [hz]
  have he : IsEnum ((s.heap.push o).push { cls := .type "enumerate", data := .fields #[.none, .bool false, .ref s.heap.objs.size, rawInt 0, .none, .none] }) (s.heap.objs.size + 1) s.heap.objs.size 0 .none := by
    have q := Heap.get?_push_size (s.heap.push o) (o := { cls := .type "enumerate", data := .fields #[.none, .bool false, .ref s.heap.objs.size, rawInt 0, .none, .none] }) rfl
    rw [hz] at q
    exact q
  exact ⟨⟨_, he, rfl⟩, h _ he (Heap.get?_push_of_some _ (Heap.get?_push_size _ B.free)) fun b o x => Heap.get?_push_of_some _ (Heap.get?_push_of_some _ x)⟩
end PySem
namespace L2
open PySem PySem.Spec PyProof.Rows
/-- the tuple at a, each item in a new pair -/
def ItET (K : PySem.W.Frag) (a : Addr) : It :=
  ⟨fun i H => ∃ (xs : List V) (x : V), SqT K H a xs ∧ xs[i]? = some x, fun i H v H' => ∃ T x, v = .ref T ∧ H T = none ∧ H' = upd H T (.tup [.int (i : Nat), x]) ∧ ∀ xs, SqT K H a xs → xs[i]? = some x, fun i H => ∃ xs : List V, SqT K H a xs ∧ xs.length = i⟩
theorem turn_enumT {P : Program} {w : World} {K : PySem.W.Frag} {elts : List Expr} {kk : Nat} {tpos : Pos} (a e it : Addr) :
    Turn P w K (.Tuple elts kk tpos) (ItET K a) [e, it] e (fun i h => (∃ old, IsEnum h e it ((i : Nat) : Int) old) ∧ h.IsTupleIter it a i ∧ e ≠ it) where
  mem := by simp
  obj := fun i h st b hb => by
    obtain ⟨⟨old, he⟩, ⟨o, ho, hc, hd⟩, _⟩ := st
    have z : b = e ∨ b = it := by simpa using hb
    rcases z with rfl | rfl
    · exact ⟨_, he, fun v q => nomatch q⟩
    · exact ⟨o, ho, fun v q => by rw [hd] at q; cases q⟩
  keep := fun i h h' st k => by
    obtain ⟨⟨old, he⟩, hi, hne⟩ := st
    exact ⟨⟨old, k e (by simp) _ he⟩, hi.at fun o q => k it (by simp) o q, hne⟩
  item := by
    intro X hP hw hK hc i pins s σ H E I hf st hg
    subst hP hw hK
    obtain ⟨⟨old, he⟩, hit, hne⟩ := st
    obtain ⟨xs, x, hq, hx⟩ := hg
    obtain ⟨its, rv, p, hz⟩ := I.tuple hq
    have p : s.heap.IsTuple a its.toArray := p
    obtain ⟨u, hu, ru⟩ := rv.get hx
    have hel : e < s.heap.objs.size := Heap.lt_size he
    have hil : it < s.heap.objs.size := by obtain ⟨_, q, _⟩ := hit; exact Heap.lt_size q
    have nai : a ≠ it := fun z => by
      obtain ⟨o, e1, e2, _⟩ := id hit
      obtain ⟨o', f1, f2, _⟩ := id p
      rw [← z, f1] at e1
      cases e1
      rw [e2] at f2
      exact absurd (Value.type.inj f2) (by decide)
    have nae : a ≠ e := fun z => by
      obtain ⟨o', f1, f2, _⟩ := id p
      rw [z] at f1
      have f3 := he.symm.trans f1
      cases f3
      exact absurd (Value.type.inj f2) (by decide)
    have hiu : its.toArray[i]? = some u := by simpa using hu
    refine wpAny_pyNext_enum_itemD (Draws.tuple (prog := X.prog) (w := X.w) (A := X.A.in1) (show X.A.in1.handled = none from I.ok.hd hc) it a nai its.toArray) he ⟨hit, p⟩ (by have := (Array.getElem?_eq_some_iff.mp hiu).1; exact this) hne (fun z => by
      rcases List.mem_cons.mp z with z | z
      · exact hne z
      · exact nae (List.mem_singleton.mp z).symm) fun x' h' tk hP ho hst hT hsz hk => ?_
    have ex : x' = u := by
      rw [hiu] at hP
      exact (Option.some.inj hP).symm
    subst ex
    refine ⟨_, rfl, wpAny_letOwnedTupleGo_enum (s := { s with heap := h', toks := tk + 1 }) ho fun h'' he' sb => ?_⟩
    have hT2 : h''.get? s.heap.objs.size = some { cls := .type "tuple", data := .seq #[.int i tk, x'] } := (sb.2 _ (Nat.ne_of_gt hel)).trans hT
    have new : ObjOk X.prog X.w (upd H s.heap.objs.size (.tup [.int (i : Nat), x])) h'' s.heap.objs.size (.tup [.int (i : Nat), x]) :=
      ⟨by show 2 ≤ sizeLine; decide, [.int i tk, x'], .cons ⟨_, rfl⟩ (.cons ru .nil), ⟨_, hT2, rfl, _, rfl⟩⟩
    have I1 : Inv X pins σ (upd H s.heap.objs.size (.tup [.int (i : Nat), x])) { s with heap := h'', toks := tk + 1 } :=
      I.turnedNew (ch := [e, it]) (fun b ob hb q => (sb.2 b (fun z => hb (by simp [z]))).trans (hk b ob (fun z => hb (by simp [z])) (fun z => hb (by simp [z])) q)) hf (Nat.le_refl _) new
    refine ⟨.ref s.heap.objs.size, _, I1, rfl, ⟨_, x, rfl, I.hok.fresh (Nat.le_refl _), rfl, fun ys hy => by rw [I.tuple_inj hy hq]; exact hx⟩, ⟨⟨x', ?_⟩, hst.1.at fun o q => (sb.2 it (Ne.symm hne)).trans q, hne⟩, fun b hb => ?_⟩
    · have e1 : ((i + 1 : Nat) : Int) = (i : Int) + 1 := by omega
      rw [e1]
      exact he'
    · have hb' : b < s.heap.objs.size := by
        have z : b = e ∨ b = it := by simpa using hb
        rcases z with rfl | rfl
        · exact hel
        · exact hil
      rw [upd_ne (Nat.ne_of_lt hb')]
      exact (hf b hb).1
  done := by
    intro X hP hw hK hc i pins s σ H E I hf st hg
    subst hP hw hK
    obtain ⟨⟨old, he⟩, hit, hne⟩ := st
    obtain ⟨xs, hq, hx⟩ := hg
    obtain ⟨its, rv, p, hz⟩ := I.tuple hq
    have p : s.heap.IsTuple a its.toArray := p
    obtain ⟨f0, f1, f2, f3, f4, f5⟩ := hf it (by simp)
    have hl := rv.length
    have nai : a ≠ it := fun z => by
      obtain ⟨o, e1, e2, _⟩ := id hit
      obtain ⟨o', g1, g2, _⟩ := id p
      rw [← z, g1] at e1
      cases e1
      rw [e2] at g2
      exact absurd (Value.type.inj g2) (by decide)
    have hn : i = its.toArray.size := by simp; omega
    subst hn
    exact wpAny_pyNext_enum_endD (Draws.tuple (prog := X.prog) (w := X.w) (A := X.A.in1) (show X.A.in1.handled = none from I.ok.hd hc) it a nai its.toArray) he ⟨hit, p⟩ fun h' eb => ⟨rfl, I.turned (t' := s.toks) (fun b o hb q => eb b o hb q) f0 f1 f3 f4 f5⟩
  self := fun A i s Q E st h => by
    obtain ⟨⟨_, he⟩, _⟩ := st
    exact wpAny_pyIter_enum he h
def iEnumT (K : PySem.W.Frag) (ta : TA) : TI := fun σ H R => ta σ H fun vs H1 => ∃ a xs, vs = [.ref a] ∧ SqT K H1 a xs ∧ R (ItET K a) H1
theorem pi_enumT {X : Cx} {e : Expr} {ta : TA} {p pos tpos : Pos} {elts : List Expr} {kk : Nat} (hg : Gl X "enumerate") (hm : X.mg "enumerate" = none) (ha : PA X [e] ta) (hs : starEach [e] X.env = [(false, eval e X.env)] := by rfl) :
    PI X (.Tuple elts kk tpos) (.Call (.Name "enumerate" p) [e] [] pos) (iEnumT X.K ta) := by
  refine ⟨fun pins s σ H R I h => ?_⟩
  refine Call_ (ld_blt I hg hm boot_enumerate (PyProof.Rows.callWith_type1 (thn (ha.run pos pins s σ H _ I h) fun us s1 ⟨vs, H1, I1, r1, q1⟩ => ?_) hs rfl))
  obtain ⟨a, xs, ex, hq, q⟩ := q1
  subst ex
  cases r1 with
  | cons r rr =>
    cases rr
    cases r
    obtain ⟨its, rv, p', hz⟩ := I1.tuple hq
    refine enumT_call (begins_tuple a its.toArray) (show s1.heap.IsTuple a its.toArray from p') fun h' he hit hk => wpAny_pyIter_enum he ?_
    have I2 : Inv X pins σ H1 { s1 with heap := h' } := I1.kept (t' := s1.toks) hk
    refine ⟨s1.heap.objs.size + 1, [s1.heap.objs.size + 1, s1.heap.objs.size], _, _, H1, rfl, I2, turn_enumT a (s1.heap.objs.size + 1) s1.heap.objs.size, ⟨⟨.none, he⟩, ⟨_, hit, rfl, rfl⟩, Nat.succ_ne_self _⟩, fun b hb => ?_, q⟩
    have z : b = s1.heap.objs.size + 1 ∨ b = s1.heap.objs.size := by simpa using hb
    have hle : s1.heap.objs.size ≤ b := by
      rcases z with z | z
      · rw [z]; exact Nat.le_add_right _ _
      · rw [z]; exact Nat.le_refl _
    exact I1.fpOk hle (I1.hok.fresh hle)
theorem walk_enumT {K : PySem.W.Frag} {a : Addr} {xs : List V} : Walk (ItET K a) xs.length (fun H => SqT K H a xs) (YPair (fun i => some (.int (i : Nat))) (fun i => xs[i]?)) := by
  refine ⟨fun i H hi hq => ⟨xs, xs[i], hq, by simp [hi]⟩, fun H hq => ⟨xs, hq, rfl⟩, fun i H v H' hi hq y => ?_⟩
  obtain ⟨T, x, e1, e2, e3, e4⟩ := y
  exact ⟨T, _, x, e1, e2, e3, rfl, e4 xs hq⟩
end L2

/-! a written text opens a statement: behind it a token is out -/
namespace XTok
open PySem PySem.Spec PyProof.Rows L2 CwR
section
variable {X : Cx} {st : Stmt} {rest : List Stmt} {t u : TS}
/-- x = 'text' + e, then statements that want a token -/
theorem pss_catT {i j : Nat} {x c : Str} {e : Expr} {te : TE} {op : Operator} {r : R2} {cpos bpos pos' pos : Pos} (hN : X.N.Nodup) (hi : X.N[i]? = some x) (hx : Loc X.env.scope x) (ho : OpR X (binaryOp op) r) (he : PE X e te) (h2 : PSsT X rest u)
    (hs : swapsWith (.BinOp (.Constant (.str c) j cpos) op e bpos) (some (.Name x pos')) pos.line X.env = pure false := by rfl) (hf : X.fn x = true ∨ X.env.scope.names.lookup x = some .local := by first | exact .inl rfl | exact .inr rfl | assumption) :
    PSs X (.Assign [.Name x pos'] (.BinOp (.Constant (.str c) j cpos) op e bpos) pos :: rest) (tSeq (tAsg (tOp r (tC (.str c)) te) (gName i)) u) := by
  refine ⟨fun pins s σ H D I h => ?_⟩
  refine wpAny_execs_cons (wpAny_Assign_Name (wpAny_BinOp (Calls.Constant_str ?_)) hs)
  refine wpAny_mono (PySem.wpAny_toks_of (n := 1) (by show 1 ≤ s.toks + 1; omega) (he.run pins _ σ H _ (I.tok (s.toks + 1)) h)) (fun w s2 q => ?_) fun _ _ z => z.2
  obtain ⟨hk, y, H2, I2, r2, q2⟩ := q
  refine wpAny_mono (PySem.wpAny_toks_of hk (ho pins s2 σ H2 (V.str c) y (Value.str c s.toks) w _ I2 ⟨s.toks, rfl⟩ r2 q2)) (fun v s3 q => ?_) fun _ _ z => z.2
  obtain ⟨hk3, z, H3, I3, r3, q3⟩ := q
  refine wpAny_mono (PySem.wpAny_toks_of hk3 (store_ok (Q := fun _ s2 => Inv X pins (σ.set i (some z)) H3 s2) I3 hN hi hx r3 (fun _ I => I) hf)) (fun _ s4 q => ?_) fun _ _ z => z.2
  exact h2 pins s4 _ H3 D q.1 q.2 q3
/-- x = e, e wants a token -/
theorem pst_set {i : Nat} {x : Str} {e : Expr} {te : TE} {pos' pos : Pos} (hN : X.N.Nodup) (hi : X.N[i]? = some x) (hx : Loc X.env.scope x) (he : PET X e te) (hs : swapsWith e (some (.Name x pos')) pos.line X.env = pure false := by rfl) (hf : X.fn x = true ∨ X.env.scope.names.lookup x = some .local := by first | exact .inl rfl | exact .inr rfl | assumption) :
    PST X (.Assign [.Name x pos'] e pos) (tAsg te (gName i)) := by
  intro pins s σ H D h0 I h
  refine wpAny_Assign_Name (thn (he pins s σ H _ h0 I h) fun v s1 ⟨y, H1, I1, r1, q1⟩ => ?_) hs
  exact store_ok I1 hN hi hx r1 (fun s2 I2 => ⟨_, H1, I2, q1⟩) hf
end
end XTok

/-! x = 'text' in d: behind it a token is out -/
namespace XTokIn
open PySem PySem.Spec PyProof.Rows L2 CwR
section
variable {X : Cx} {rest : List Stmt} {u : TS}
theorem pss_dinT {i j : Nat} {x c : Str} {o : Expr} {td : TE} {cpos bpos pos' pos : Pos} (hN : X.N.Nodup) (hi : X.N[i]? = some x) (hx : Loc X.env.scope x) (hu : X.A.units + 1 < cLine) (ho : PE X o td) (h2 : PSsT X rest u) (h1 : behindInMarks .In o = false)
    (hs : swapsWith (.Compare (.Constant (.str c) j cpos) [.In] [o] bpos) (some (.Name x pos')) pos.line X.env = pure false := by rfl) (hf : X.fn x = true ∨ X.env.scope.names.lookup x = some .local := by first | exact .inl rfl | exact .inr rfl | assumption) :
    PSs X (.Assign [.Name x pos'] (.Compare (.Constant (.str c) j cpos) [.In] [o] bpos) pos :: rest) (tSeq (tAsg (tDIn (tC (.str c)) td) (gName i)) u) := by
  refine ⟨fun pins s σ H D I h => ?_⟩
  refine wpAny_execs_cons (wpAny_Assign_Name (wpAny_Compare1 (Calls.Constant_str ?_) h1) hs)
  refine wpAny_mono (PySem.wpAny_toks_of (n := 1) (by show 1 ≤ s.toks + 1; omega) (ho.run pins _ σ H _ (I.tok (s.toks + 1)) h)) (fun w s2 q => ?_) fun _ _ z => z.2
  obtain ⟨hk, y, H2, I2, r2, a, ov, ex, g, q2⟩ := q
  subst ex
  obtain rfl : w = Value.ref a := r2
  refine wpAny_mono (PySem.wpAny_toks_of hk (d_in hu I2 g (show RelV (V.str c) (Value.str c s.toks) from ⟨s.toks, rfl⟩) (Q := fun v s3 => v = .bool ov.isSome ∧ Inv X pins σ H2 s3) fun s3 I3 => ⟨rfl, I3⟩)) (fun v s3 q => ?_) fun _ _ z => z.2
  obtain ⟨hk3, rfl, I3⟩ := q
  refine wpAny_mono (PySem.wpAny_toks_of hk3 (store_ok (v := V.bl ov.isSome) (Q := fun _ s2 => Inv X pins (σ.set i (some (V.bl ov.isSome))) H2 s2) I3 hN hi hx rfl (fun _ I => I) hf)) (fun _ s4 q => ?_) fun _ _ z => z.2
  exact h2 pins s4 _ H2 D q.1 q.2 q2
/-- if 'text' in d: .. ; behind it a token is out -/
theorem pss_ifInT {j : Nat} {c : Str} {o : Expr} {td : TE} {cpos bpos pos : Pos} {a b : List Stmt} {t t2 : TS} (hu : X.A.units + 1 < cLine) (ho : PE X o td) (ha : PSs X a t) (hb : PSs X b t2) (h2 : PSsT X rest u) (h1 : behindInMarks .In o = false) :
    PSs X (.If (.Compare (.Constant (.str c) j cpos) [.In] [o] bpos) a b pos :: rest) (tSeq (tIfS (tB (tDIn (tC (.str c)) td)) t t2) u) := by
  refine ⟨fun pins s σ H D I h => ?_⟩
  refine wpAny_execs_cons (wpAny_If (wpAny_isTrue_Compare1 (Calls.Constant_str ?_) h1))
  refine wpAny_mono (PySem.wpAny_toks_of (n := 1) (by show 1 ≤ s.toks + 1; omega) (ho.run pins _ σ H _ (I.tok (s.toks + 1)) h)) (fun w s2 q => ?_) fun _ _ z => z.2
  obtain ⟨hk, y, H2, I2, r2, a', ov, ex, g, q2⟩ := q
  subst ex
  obtain rfl : w = Value.ref a' := r2
  refine wpAny_mono (PySem.wpAny_toks_of hk (d_in hu I2 g (show RelV (V.str c) (Value.str c s.toks) from ⟨s.toks, rfl⟩) (Q := fun v s3 => v = .bool ov.isSome ∧ Inv X pins σ H2 s3) fun s3 I3 => ⟨rfl, I3⟩)) (fun v s3 q => ?_) fun _ _ z => z.2
  obtain ⟨hk3, rfl, I3⟩ := q
  refine wpAny_truthy_bool ?_
  obtain ⟨d, hd, q3⟩ := q2
  obtain rfl : ov.isSome = d := V.bl.inj hd
  have fin : ∀ (fl : Flow) (s4 : Shared), 1 ≤ s4.toks ∧ SP X pins { D with nx := u D } fl s4 → (match fl with | .next => wpAny (model X.prog X.w) X.A (execs rest X.env) (SP X pins D) X.xe s4 | f => SP X pins D f s4) := by
    rintro fl s4 ⟨hk4, q4⟩
    cases fl with
    | next =>
      obtain ⟨σ', H', I', q⟩ := q4
      exact h2 pins s4 σ' H' D hk4 I' q
    | ret v => exact q4
    | brk => exact q4
    | cont => exact q4
  cases hov : ov.isSome with
  | true =>
    rw [hov] at q3
    exact wpAny_mono (PySem.wpAny_toks_of hk3 (ha.run pins s3 σ H2 { D with nx := u D } I3 q3)) (fun fl s4 q4 => by cases fl <;> exact fin _ s4 q4) fun _ _ z => z.2
  | false =>
    rw [hov] at q3
    exact wpAny_mono (PySem.wpAny_toks_of hk3 (hb.run pins s3 σ H2 { D with nx := u D } I3 q3)) (fun fl s4 q4 => by cases fl <;> exact fin _ s4 q4) fun _ _ z => z.2
end
end XTokIn

namespace K45
open PySem L2 PyProof.Rows
theorem pt_never {X : Cx} {e : Expr} : PT X e (fun _ _ _ => False) := ⟨fun _ _ _ _ _ _ h => h.elim⟩
theorem pw_never {X : Cx} {e : Expr} : PW X e (fun _ _ _ => False) := ⟨fun _ _ _ _ _ _ _ h => h.elim⟩
/-- a function of the top, its promise at hand -/
structure At (P : Program) (w : World) (K : PySem.W.Frag) (mg : Str → Option Value) (base : Heap) (nm : Str) (k : Nat) (ps : List Str) (sp : Sp) (f : Addr) (fd : FuncData) : Prop where
  ok : FnOk P w K mg base CX0 k f fd ps sp
  m : mg nm = some (.ref f)
  k : PySem.W.keepIn K (.ref f) = true
  b : Binds K fd ps []
structure ClsN (K : PySem.W.Frag) (C : Addr) (fs : List Str) : Prop where
  cl : Cls K C
  no : ∀ f ∈ fs, NoAttr K C f
/-- a constant tuple of the top -/
structure KT (K : PySem.W.Frag) (mg : Str → Option Value) (nm : Str) (a : Addr) (xs : List V) : Prop where
  m : mg nm = some (.ref a)
  q : ∀ H : Hp, SqT K H a xs
theorem dpAll_strs {K : PySem.W.Frag} {H : Hp} : ∀ ks : List Str, DpAll K H (ks.map V.str) (ks.map PyData.str)
  | [] => .nil
  | k :: ks => .cons (.str k) (dpAll_strs ks)
theorem dts_strs {N : Hp} : ∀ (ws : List Str), DtAll N (ws.map V.str) (ws.map PyData.str)
  | [] => .nil
  | w :: ws => .cons (.str w) (dts_strs ws)
theorem str_at {ys : List Str} {i : Nat} {x : V} (hx : (ys.map V.str)[i]? = some x) : ∃ k, ys[i]? = some k ∧ x = V.str k := by
  rw [List.getElem?_map] at hx
  cases e : ys[i]? with
  | none =>
    rw [e] at hx
    cases hx
  | some k =>
    rw [e] at hx
    exact ⟨k, rfl, (Option.some.inj hx).symm⟩
theorem all_tt {α : Type} (xs : List α) : (xs.map fun _ => true).all id = true := by
  induction xs with
  | nil => rfl
  | cons x xs ih => exact ih
theorem strs_shaped {fl : List Str} (h : ∀ x ∈ fl, PyData.strOk x = true) : SeqAt.shaped (.tuple (fl.map PyData.str)) = true := by
  have key : PyData.canLayAll0 (fl.map PyData.str) = true ∧ PyData.depthAll (fl.map PyData.str) = 0 := by
    induction fl with
    | nil => exact ⟨rfl, rfl⟩
    | cons k ks ih =>
      obtain ⟨i1, i2⟩ := ih fun j hj => h j (List.mem_cons_of_mem _ hj)
      constructor
      · show (PyData.strOk k && PyData.canLayAll0 (ks.map PyData.str)) = true
        rw [i1, Bool.and_true]
        exact h k List.mem_cons_self
      · show max 0 (PyData.depthAll (ks.map PyData.str)) = 0
        rw [i2]
        rfl
  unfold SeqAt.shaped
  rw [Bool.and_eq_true]
  refine ⟨key.1, ?_⟩
  apply decide_eq_true
  show PyData.depthAll (fl.map PyData.str) + 1 ≤ 64
  rw [key.2]
  decide
/-! ### flags by any signs -/
def wAt (w : Str) (i : Nat) : Nat := w.cps.toList.getD i 0
theorem wAt_at {x : Str} {i : Nat} (h : i < x.length) : atI x.cps.toList (i : Nat) = some (wAt x i) := by
  have h' : i < x.cps.toList.length := by simpa [PySem.Str.length] using h
  have : x.cps.toList[i]? = some (wAt x i) := by
    unfold wAt
    rw [List.getD_eq_getElem?_getD, List.getElem?_eq_getElem h']
    rfl
  exact atI_nat this
def inP (pf : Str) (c : Nat) : Bool := !(Builtin.Str.occurrences pf (⟨#[c]⟩ : Str) 0 pf.length 1).isEmpty
def gapB (c : Nat) : Bool := !(Builtin.Str.occurrences (" \n=" : Str) (⟨#[c]⟩ : Str) 0 (" \n=" : Str).length 1).isEmpty
def noF (x : Str) : Str := cutS x none (some 2) ++ "no-" ++ cutS x (some 2) none
def flB (pf x : Str) : Bool := decide (x ≠ "") && decide (2 ≤ x.length) && decide (x.length ≤ 40) && inP pf (wAt x 0) && decide (Txt.lstripChars x pf ≠ "") && !((x.cps.toList.map gapB).any id) && PyData.strOk x && decide ((Txt.lstripChars x pf).length ≤ 40) && PyData.strOk (noF x) && decide (Txt.lstripChars x pf = ⟨(x.cps.toList.dropWhile (inP pf)).toArray⟩)
structure FlOk (pf x : Str) : Prop where
  ne : x ≠ ""
  l2 : 2 ≤ x.length
  ln : x.length ≤ 40
  h0 : inP pf (wAt x 0) = true
  ls : Txt.lstripChars x pf ≠ ""
  gp : (x.cps.toList.map gapB).any id = false
  so : PyData.strOk x = true
  sl : (Txt.lstripChars x pf).length ≤ 40
  no : PyData.strOk (noF x) = true
  dw : Txt.lstripChars x pf = ⟨(x.cps.toList.dropWhile (inP pf)).toArray⟩
theorem flB_ok {pf x : Str} (h : flB pf x = true) : FlOk pf x := by
  unfold flB at h
  simp only [Bool.and_eq_true, decide_eq_true_eq, Bool.not_eq_true'] at h
  obtain ⟨⟨⟨⟨⟨⟨⟨⟨⟨h1, h2⟩, h3⟩, h4⟩, h5⟩, h6⟩, h7⟩, h8⟩, h9⟩, h10⟩ := h
  exact ⟨h1, h2, h3, h4, h5, h6, h7, h8, h9, h10⟩
def spHasGap : Sp := fun vs H Q _ => ∃ x : Str, vs = [.str x] ∧ x.length ≤ 1000 ∧ ∀ H', Same H H' → Q (.bl ((x.cps.toList.map gapB).any id)) H'
def spIsFlag : Sp := fun vs H Q _ => ∃ x pf : Str, vs = [.str x, .str pf] ∧ FlOk pf x ∧ pf.length ≤ 20 ∧ ∀ H', Same H H' → Q (.bl true) H'
/-- flags as they are handed -/
structure Gv (pf : Str) (gs : List Str) (io : Bool) : Prop where
  op : io = true → gs ≠ [] ∧ ∀ x ∈ gs, FlOk pf x
  po : io = false → gs = [] ∨ ∃ g, gs = [g] ∧ g ≠ "" ∧ g.length ≤ 40 ∧ inP pf (wAt g 0) = false ∧ PyData.strOk g = true
  n : gs.length ≤ 20
  pl : pf.length ≤ 20
def flOf (gs : List Str) (io : Bool) : List Str := if io then gs else []
def SeqF (H : Hp) (a : Addr) (xs : List V) : Prop := H a = some (.lst xs) ∨ H a = some (.tup xs)
theorem SeqF.keep {H H' : Hp} {a : Addr} {xs : List V} (h : SeqF H a xs) (e : Same H H') : SeqF H' a xs := h.imp (e _ _) (e _ _)
theorem SeqF.sq {K : PySem.W.Frag} {H : Hp} {a : Addr} {xs : List V} (h : SeqF H a xs) : SqL K H a xs ∨ SqT K H a xs := h.imp SqL.of SqT.of
def spChk (K : PySem.W.Frag) : Sp := fun vs H Q _ => ∃ (a : Addr) (pf : Str) (gs : List Str) (io : Bool), vs = [.ref a, .str pf] ∧ SeqF H a (gs.map V.str) ∧ Gv pf gs io ∧ ∀ (T : Addr) (H' : Hp), Same H H' → H' T = some (.tup ((flOf gs io).map V.str)) → Q (.ref T) H'
section
variable {P : Program} {w : World} {K : PySem.W.Frag} {mg : Str → Option Value} {base : Heap}
theorem scHasGap : FnScope ["text", "sign"] ["text"] (defScope sHasGap) := ⟨rfl, rfl, rfl, by decide +kernel, rfl, by decide +kernel, by decide +kernel⟩
theorem ok_hasGap {f : Addr} {fd : FuncData} (F : Fun K "has_gap" "has_gap" sHasGap f fd) (zAny : mg "any" = none) : FnOk P w K mg base CX0 1 f fd ["text"] spHasGap := by
  refine F.ok scHasGap (fun vs H Q E h => ?_) (fun cdv A outer s H vs Q E hr h => ?_)
  · obtain ⟨x, rfl, _⟩ := h
    rfl
  · obtain ⟨x, rfl, hx, k⟩ := h
    refine ⟨_, pss_one (ps_ret (pe_callB (cr_any rfl) (by rfl) zAny (by decide +kernel) (pa_cons (pe_lc (own := [("sign", 1)]) (g := gName 1) (tt := tYes) rfl scHasGap.nd (pi_str (pv 0)) (blkOk_by (N := ["text", "sign"]) (sc := defScope sHasGap) (by decide +kernel)) (fun _ _ _ _ _ => pg_name (i := 1) scHasGap.nd rfl (Or.inl rfl)) (fun _ _ _ _ _ => pts_nil)
      (fun _ _ _ _ _ => by exact pe_cmpR op_in_str (pv 1) pe_str (by rfl))) pa_nil))), ?_⟩
    have hl : x.cps.toList.length ≤ 1000 := by simpa [PySem.Str.length] using hx
    refine ⟨_, rfl, x, rfl, fun D hD => ?_⟩
    refine lc_it walk_str (BlI gapB H D x.cps.toList) (blI0 hD) (fun _ _ _ _ => trivial) (fun i v H' H'' hi h y => ?_) (fun H' h => ?_)
    · obtain ⟨rfl, c, hc, rfl⟩ := y
      refine ⟨rfl, _, rfl, _, _, rfl, rfl, ?_⟩
      exact blI_step hD (by rw [Array.getElem?_toList]; exact hc) h (Same.refl _) rfl (by omega)
    · obtain ⟨e, hl⟩ := blI_end (by simp) h
      exact ⟨D, _, rfl, SqL.of hl, k _ e⟩
theorem scIsFlag : FnScope ["text", "prefix_chars"] ["text", "prefix_chars"] (defScope sIsFlag) := ⟨rfl, rfl, rfl, by decide +kernel, rfl, by decide +kernel, by decide +kernel⟩
theorem ok_isFlag {f fG : Addr} {fd fdG : FuncData} (F : Fun K "is_flag" "is_flag" sIsFlag f fd) (G : At P w K mg base "has_gap" 1 ["text"] spHasGap fG fdG) : FnOk P w K mg base CX0 2 f fd ["text", "prefix_chars"] spIsFlag := by
  refine F.ok scIsFlag (fun vs H Q E h => ?_) (fun cdv A outer s H vs Q E hr h => ?_)
  · obtain ⟨x, pf, rfl, _⟩ := h
    rfl
  · obtain ⟨x, pf, rfl, hx, hp, k⟩ := h
    refine ⟨_, pss_one (ps_ret (pe_and (pe_cmpR op_ne (pv 0) pe_str (nomark _)) (pe_and (pe_cmpR op_in_str (pe_ix ix_str (pv 0) pe_int (fun _ _ => rfl)) (pv 1) (by rfl)) (pe_and (pe_cmpR op_ne (pe_bm PySem.F.plainAttrs_str PySem.F.slot_str_lstrip PySem.F.type_str_lstrip mt_lstripChars (pv 0) (pa_cons (pv 1) pa_nil)) pe_str (nomark _)) (pe_one (pe_not (pe_call G.ok hr rfl G.m G.k G.b .nil pass0 (pa_cons (pv 0) pa_nil)))))))), ?_⟩
    have hl := hx.ln
    refine ⟨_, rfl, rfl, true, congrArg V.bl (by rw [decide_eq_false fun z => hx.ne (V.str.inj z)]; rfl), iteT ?_⟩
    refine ⟨_, rfl, x, 0, _, rfl, rfl, (by rw [PySem.sizeLine_eq]; omega), (wAt_at (x := x) (i := 0) (by have := hx.l2; omega) : atI x.cps.toList ((0 : Nat) : Int) = _), _, rfl, _, _, rfl, rfl, true, congrArg V.bl hx.h0, iteT ?_⟩
    refine ⟨_, rfl, rfl, _, rfl, _, _, rfl, rfl, (by rw [PySem.sizeLine_eq]; omega), rfl, true, congrArg V.bl (by rw [decide_eq_false fun z => hx.ls (V.str.inj z)]; rfl), iteT ?_⟩
    refine ⟨_, rfl, x, rfl, by omega, fun H' e => ?_⟩
    rw [hx.gp]
    exact ⟨false, rfl, k H' e⟩
end
end K45

namespace K45
open PySem L2 PyProof.Rows
/-! ### a section, signs -/
def argF : List Str := ["flags", "dest", "action", "is_option", "nargs", "const", "default", "kind", "choices", "required", "help", "metavar", "version", "commands", "fellows"]
def parF : List Str := ["prog", "usage", "description", "epilog", "layout", "width", "prefix_chars", "file_signs", "files", "argument_default", "conflict_handler", "allow_abbrev", "exit_on_error", "arguments", "flags", "exclusives", "defaults", "commands_argument", "sections"]
def secF : List Str := ["home", "title", "description", "members"]
def sFs (v1 v2 v3 : V) (m : Addr) : List (Str × V) := [("home", v1), ("title", v2), ("description", v3), ("members", .ref m)]
def spSecI (C : Addr) : Sp := fun vs H Q _ => ∃ (x dx : Addr) (v1 v2 v3 : V), vs = [.ref x, v1, v2, v3] ∧ H x = some (.ins C dx []) ∧
  ∀ (m : Addr) (H' : Hp), (∀ b o, H b = some o → b ≠ x → H' b = some o) → H m = none → H' m = some (.lst []) → H' x = some (.ins C dx (sFs v1 v2 v3 m)) → Q .non H'
def sgns : List Nat := [43, 45, 47, 58, 64]
def sgK (x : Str) : List (Key × V) := x.cps.toList.map fun c => (Sum.inr (⟨#[c]⟩ : Str), V.bl true)
/-- signs that are right -/
structure SgOk (x : Str) : Prop where
  c : ∀ c ∈ x.cps.toList, c ∈ sgns
  l : x.cps.toList.length ≤ 5
  n : x.length ≤ 5
  d : decide (((mergeK [] (sgK x)).length : Int) < (x.length : Int)) = false
theorem sg_none : SgOk "" := ⟨by decide, by decide, by decide, by decide⟩
def spSigns : Sp := fun vs H Q _ => ∃ x : Str, vs = [.str x] ∧ SgOk x ∧ ∀ H', Same H H' → Q (.bl true) H'
section
variable {P : Program} {w : World} {K : PySem.W.Frag} {mg : Str → Option Value} {base : Heap}
theorem scSecI : FnScope ["self", "home", "title", "description"] ["self", "home", "title", "description"] (defScope sSecI) := ⟨rfl, rfl, rfl, by decide +kernel, rfl, by decide +kernel, by decide +kernel⟩
theorem ok_secI {f C : Addr} {fd : FuncData} (F : Fun K "__init__" "Section.__init__" sSecI f fd) (c : ClsN K C secF) : FnOk P w K mg base CX0 1 f fd ["self", "home", "title", "description"] (spSecI C) := by
  refine F.ok scSecI (fun vs H Q E h => ?_) (fun cdv A outer s H vs Q E hr h => ?_)
  · obtain ⟨x, dx, v1, v2, v3, rfl, _⟩ := h
    rfl
  · obtain ⟨x, dx, v1, v2, v3, rfl, hx, k⟩ := h
    have m : ∀ f ∈ secF, NoAttr K C f := c.no
    refine ⟨_, pss_cons (ps_fld (pv 0) (pv 1) rfl) (pss_cons (ps_fld (pv 0) (pv 2) rfl) (pss_cons (ps_fld (pv 0) (pv 3) rfl) (pss_one (ps_fld (pv 0) (pe_lst pa_nil) rfl)))), ?_⟩
    refine ⟨_, rfl, _, rfl, x, C, dx, _, rfl, hx, c.cl, m _ (by decide +kernel), (by show 0 < 1000; decide), ?_⟩
    refine ⟨_, rfl, _, rfl, x, C, dx, _, rfl, upd_same, c.cl, m _ (by decide +kernel), (by show 1 < 1000; decide), ?_⟩
    refine ⟨_, rfl, _, rfl, x, C, dx, _, rfl, upd_same, c.cl, m _ (by decide +kernel), (by show 2 < 1000; decide), ?_⟩
    refine ⟨(by show 0 ≤ sizeLine; decide), fun q hq => ⟨_, rfl, x, C, dx, _, rfl, same_upd hq _ _ upd_same, c.cl, m _ (by decide +kernel), (by show 3 < 1000; decide), ?_⟩⟩
    have nx : x ≠ q := ne_of_none upd_same hq
    refine k q _ (fun b o e nb => ?_) ?_ ?_ ?_
    · rw [upd_ne nb]
      refine same_upd hq _ _ ?_
      rw [upd_ne nb, upd_ne nb, upd_ne nb]
      exact e
    · rw [upd_ne nx.symm, upd_ne nx.symm, upd_ne nx.symm] at hq
      exact hq
    · rw [upd_ne nx.symm, upd_same]
    · rw [upd_same]
      rfl
theorem paired_snoc {α β : Type} {R : α → β → Prop} : ∀ {xs : List α} {ys : List β} {x : α} {y : β}, PySem.Paired R xs ys → R x y → PySem.Paired R (xs ++ [x]) (ys ++ [y])
  | _, _, _, _, .nil, h => .cons h .nil
  | _, _, _, _, .cons r t, h => .cons r (paired_snoc t h)
theorem paired_map {α β : Type} {R S : α → β → Prop} (f : ∀ a b, R a b → S a b) : ∀ {xs : List α} {ys : List β}, PySem.Paired R xs ys → PySem.Paired S xs ys
  | _, _, .nil => .nil
  | _, _, .cons r t => .cons (f _ _ r) (paired_map f t)
theorem any_ff {α : Type} (xs : List α) : (xs.map fun _ => false).any id = false := by
  induction xs with
  | nil => rfl
  | cons x xs ih => exact ih
theorem scSigns : FnScope ["thing", "sign"] ["thing"] (defScope sIsSigns) := ⟨rfl, rfl, rfl, by decide +kernel, rfl, by decide +kernel, by decide +kernel⟩
theorem ok_signs {f : Addr} {fd : FuncData} {no : Str} {tn : Tok} (F : Fun K "is_signs" "is_signs" sIsSigns f fd) (T : TxtB mg) (zStr : mg "str" = none) (zAny : mg "any" = none) (hN : mg "NO_SIGNS" = some (.str no tn)) (hno : ∀ c ∈ sgns, (Builtin.Str.occurrences no (⟨#[c]⟩ : Str) 0 no.length 1).isEmpty = true) : FnOk P w K mg base CX0 1 f fd ["thing"] spSigns := by
  refine F.ok scSigns (fun vs H Q E h => ?_) (fun cdv A outer s H vs Q E hr h => ?_)
  · obtain ⟨x, rfl, _⟩ := h
    rfl
  · obtain ⟨x, rfl, hx, k⟩ := h
    refine ⟨_, pss_cons (ps_if (PW.pt (pw_or (pt_not (pt_val (pe_callB call_isi (by rfl) T.isinstance (by decide +kernel) (pa_cons (pv 0) (pa_cons (pe_bltn (v := .ty "str") (by rfl) zStr (by decide +kernel) rfl) pa_nil))))) (pw_or1 (pt_cmpR op_lt (pe_callB call_lenD (by rfl) T.len PySem.boot_len (pa_cons (pe_callTy (call_dictP rfl) (by rfl) T.dict (by decide +kernel) (pa_cons (pe_lc (own := [("sign", 1)]) (g := gName 1) (tt := tYes) (te := tTup (tCons (tVar 1) (tCons (tC (.bl true)) tNil))) rfl scSigns.nd (pi_str (pv 0)) (blkOk_by (N := ["thing", "sign"]) (sc := defScope sIsSigns) (by decide +kernel)) (fun _ _ _ _ _ => pg_name (i := 1) scSigns.nd rfl (Or.inl rfl)) (fun _ _ _ _ _ => pts_nil)
        (fun _ _ _ _ _ => by exact pe_tup (pa_cons (pv 1) (pa_cons pe_bl pa_nil)))) pa_nil)) pa_nil)) (pe_callB call_len_str (by rfl) T.len PySem.boot_len (pa_cons (pv 0) pa_nil)) (nomark _))))) (pss_one (ps_ret pe_bl)) pss_nil)
      (pss_one (ps_ret (pe_not (pe_callB (cr_any rfl) (by rfl) zAny (by decide +kernel) (pa_cons (pe_lc (own := [("sign", 1)]) (g := gName 1) (tt := tYes) (te := tOp (fun x y H Q => ∃ i j, x = .str i ∧ y = .str j ∧ Q (.bl (!(Builtin.Str.occurrences j i 0 j.length 1).isEmpty)) H) (tVar 1) (tC (.str no))) rfl scSigns.nd (pi_str (pv 0)) (blkOk_by (N := ["thing", "sign"]) (sc := defScope sIsSigns) (by decide +kernel)) (fun _ _ _ _ _ => pg_name (i := 1) scSigns.nd rfl (Or.inl rfl)) (fun _ _ _ _ _ => pts_nil)
        (fun _ _ _ _ _ => by exact pe_cmpR op_in_str (pv 1) (pe_glob (v := .str no) rfl hN ⟨tn, rfl⟩) (by rfl))) pa_nil))))), ?_⟩
    have hc := hx.c
    have hl : x.cps.toList.length ≤ 5 ∧ x.length ≤ 5 ∧ decide (((mergeK [] (sgK x)).length : Int) < (x.length : Int)) = false := ⟨hx.l, hx.n, hx.d⟩
    refine ⟨_, rfl, _, .ty "str", _, _, true, rfl, .ty _, .base (.str x), kit_ty (by decide +kernel), _, rfl, iteF ?_⟩
    refine ⟨_, rfl, x, rfl, fun D hD => ?_⟩
    refine lc_it walk_str (fun i H' => Same H H' ∧ ∃ ts : List Addr, ts.length = i ∧ H' D = some (.lst (ts.map V.ref)) ∧ PySem.Paired (fun (t : Addr) (kv : Key × V) => H' t = some (.tup [kV kv.1, kv.2])) ts ((sgK x).take i)) ⟨same_upd hD, [], rfl, upd_same, .nil⟩ (fun _ _ _ _ => trivial) (fun i v H' H'' hi h y => ?_) (fun H1 h => ?_)
    · obtain ⟨rfl, c, hcc, rfl⟩ := y
      obtain ⟨s1, ts, lt, hD1, pp⟩ := h
      have hk : (sgK x)[i]? = some (Sum.inr (⟨#[c]⟩ : Str), V.bl true) := by
        unfold sgK
        rw [List.getElem?_map, Array.getElem?_toList, hcc]
        rfl
      refine ⟨rfl, _, rfl, (by show 2 ≤ sizeLine; decide), fun U hU => ?_⟩
      have eU := same_upd (o := .tup [.str ⟨#[c]⟩, .bl true]) hU
      have nDU : D ≠ U := ne_of_none hD1 hU
      have hil : i < x.cps.toList.length := by simpa using hi
      refine ⟨_, eU _ _ hD1, sz_lt1 (by rw [List.length_map]; exact lt) (show i < 1001 by omega), same_mut (s1.trans eU) hD, ts ++ [U], by rw [List.length_append, lt]; rfl, by rw [upd_same, List.map_append]; rfl, ?_⟩
      rw [take_more' hk]
      refine paired_snoc (paired_map (fun t kv q => ?_) pp) (by rw [upd_ne nDU.symm]; exact upd_same)
      rw [upd_ne (ne_of q hD1 (by intro z; cases z))]
      exact eU _ _ q
    · obtain ⟨s1, ts, lt, hD1, pp⟩ := h
      have ek : (sgK x).take x.cps.size = sgK x := List.take_of_length_le (by unfold sgK; rw [List.length_map]; simp)
      rw [ek] at pp
      refine ⟨D, ts, sgK x, rfl, SqL.of hD1, paired_map (fun t kv q => SqT.of q) pp, fun q hq => ⟨q, _, rfl, upd_same, _, rfl, x, rfl, (by rw [PySem.sizeLine_eq]; omega), _, _, rfl, rfl, _, rfl, ?_⟩⟩
      rw [hl.2.2]
      refine iteF ?_
      have e1 := same_upd2 (o := .dK (mergeK [] (sgK x))) s1 hq
      generalize upd H1 q (.dK (mergeK [] (sgK x))) = G at e1
      refine ⟨_, rfl, x, rfl, fun D2 hD2 => ?_⟩
      refine lc_it walk_str (BlI (fun _ => false) G D2 x.cps.toList) (blI0 hD2) (fun _ _ _ _ => trivial) (fun i v H' H'' hi h y => ?_) (fun H2 h => ?_)
      · obtain ⟨rfl, c, hcc, rfl⟩ := y
        have hcs : c ∈ sgns := hc c (List.mem_of_getElem? (by rw [Array.getElem?_toList]; exact hcc))
        exact ⟨rfl, _, rfl, _, _, rfl, rfl, blI_step hD2 (by rw [Array.getElem?_toList]; exact hcc) h (Same.refl _) (by rw [hno c hcs]; rfl) (by omega)⟩
      · obtain ⟨e2, hD3⟩ := blI_end (by simp) h
        refine ⟨D2, _, rfl, SqL.of hD3, ?_⟩
        rw [any_ff]
        exact ⟨_, rfl, k _ (e1.trans e2)⟩
end
end K45

namespace K45
open PySem L2 PyProof.Rows
/-! ### a parser anew -/
/-- a parser's fields -/
def pFs (pr pf cf : Str) (us ds ep : V) (wd : Int) (ab ee : Bool) (aL fi la lf le dd ls : Addr) : List (Str × V) :=
  [("prog", .str pr), ("usage", us), ("description", ds), ("epilog", ep), ("layout", .ref aL), ("width", .int wd), ("prefix_chars", .str pf), ("file_signs", .str ""), ("files", .ref fi), ("argument_default", .non), ("conflict_handler", .str cf), ("allow_abbrev", .bl ab), ("exit_on_error", .bl ee), ("arguments", .ref la), ("flags", .ref lf), ("exclusives", .ref le), ("defaults", .ref dd), ("commands_argument", .non), ("sections", .ref ls)]
/-- x, an instance in the making: all else that stood is kept -/
structure Bld (CP : Addr) (H H' : Hp) (x dx : Addr) (fs : List (Str × V)) : Prop where
  kp : ∀ b o, H b = some o → b ≠ x → H' b = some o
  at_ : H' x = some (.ins CP dx fs)
theorem Bld.put {K : PySem.W.Frag} {Q : L2.St → Hp → Prop} {σ : L2.St} {CP : Addr} {H H' : Hp} {x dx : Addr} {fs : List (Str × V)} {f : Str} {v : V} {N : List Str} (m : Bld CP H H' x dx fs) (c : ClsN K CP N) (hf : f ∈ N) (hl : fs.length < 1000) (h0 : σ[0]? = some (some (.ref x))) (k : ∀ H2, Bld CP H H2 x dx (putF f v fs) → Q σ H2) :
    gFld K (tVar 0) f v σ H' Q := ⟨_, h0, x, CP, dx, fs, rfl, m.at_, c.cl, c.no _ hf, hl, k _ ⟨fun b o e nb => by rw [upd_ne nb]; exact m.kp b o e nb, upd_same⟩⟩
theorem Bld.keep {CP : Addr} {H H' H2 : Hp} {x dx : Addr} {fs : List (Str × V)} (m : Bld CP H H' x dx fs) (e : Same H' H2) : Bld CP H H2 x dx fs := ⟨fun b o h nb => e _ _ (m.kp b o h nb), e _ _ m.at_⟩
/-- new ones, all apart -/
structure Nw (H H' : Hp) (xs : List Addr) : Prop where
  new : ∀ b ∈ xs, H b = none ∧ ∃ o, H' b = some o
  nd : xs.Nodup
theorem Nw.keep {H H' H2 : Hp} {xs : List Addr} (h : Nw H H' xs) (e : ∀ b o, H' b = some o → ∃ o', H2 b = some o') : Nw H H2 xs := ⟨fun b hb => ⟨(h.new b hb).1, by obtain ⟨o, ho⟩ := (h.new b hb).2; exact e b o ho⟩, h.nd⟩
theorem Nw.same {H H' H2 : Hp} {xs : List Addr} (h : Nw H H' xs) (e : Same H' H2) : Nw H H2 xs := h.keep fun b o q => ⟨o, e _ _ q⟩
theorem Nw.add {H H' : Hp} {xs : List Addr} {p : Addr} {o : HO} (h : Nw H H' xs) (hp : H' p = none) (h0 : H p = none) : Nw H (upd H' p o) (p :: xs) := by
  refine ⟨fun b hb => ?_, List.nodup_cons.mpr ⟨fun q => ?_, h.nd⟩⟩
  · rcases List.mem_cons.mp hb with rfl | hb
    · exact ⟨h0, o, upd_same⟩
    · obtain ⟨o', ho⟩ := (h.new b hb).2
      exact ⟨(h.new b hb).1, o', same_upd hp _ _ ho⟩
  · obtain ⟨o', ho⟩ := (h.new p q).2
    rw [hp] at ho
    cases ho
theorem Nw.grow {H H1 H2 : Hp} {xs : List Addr} {p : Addr} (h : Nw H H1 xs) (e : ∀ b o, H1 b = some o → ∃ o', H2 b = some o') (h0 : H p = none) (h1 : H1 p = none) (h2 : ∃ o, H2 p = some o) : Nw H H2 (p :: xs) := by
  refine ⟨fun b hb => ?_, List.nodup_cons.mpr ⟨fun q => ?_, h.nd⟩⟩
  · rcases List.mem_cons.mp hb with rfl | hb
    · exact ⟨h0, h2⟩
    · exact (h.keep e).new b hb
  · obtain ⟨o', ho⟩ := (h.new p q).2
    rw [h1] at ho
    cases ho
theorem Bld.free {CP : Addr} {H H' : Hp} {x dx p : Addr} {fs : List (Str × V)} (m : Bld CP H H' x dx fs) (h : H' p = none) : H p = none := by
  cases e : H p with
  | none => rfl
  | some o =>
    by_cases nb : p = x
    · rw [nb, m.at_] at h
      cases h
    · rw [m.kp p o e nb] at h
      cases h
structure ParNew (CP CS : Addr) (H H' : Hp) (x dx : Addr) (pr pf cf : Str) (us ds ep : V) (wd : Int) (ab ee : Bool) (aL la lf le dd ls s0 s1 m0 m1 : Addr) : Prop where
  kp : ∀ b o, H b = some o → b ≠ x → H' b = some o
  px : ∃ fi, H' x = some (.ins CP dx (pFs pr pf cf us ds ep wd ab ee aL fi la lf le dd ls))
  h_la : H' la = some (.lst [])
  h_lf : H' lf = some (.dK [])
  h_le : H' le = some (.lst [])
  h_dd : H' dd = some (.dK [])
  h_ls : H' ls = some (.lst [.ref s0, .ref s1])
  h_s0 : ∃ d v2, H' s0 = some (.ins CS d (sFs (.ref x) v2 .non m0))
  h_s1 : ∃ d v2, H' s1 = some (.ins CS d (sFs (.ref x) v2 .non m1))
  h_m0 : H' m0 = some (.lst [])
  h_m1 : H' m1 = some (.lst [])
  nw : Nw H H' [ls, m1, s1, m0, s0, dd, le, lf, la]
def spParI (CP CS aP aL : Addr) : Sp := fun vs H Q _ => ∃ (x dx : Addr) (pr pf cf : Str) (us ds ep : V) (wd : Int) (ab ee : Bool), 1 ≤ wd ∧ SgOk pf ∧ pf ≠ "" ∧ vs = [.ref x, .str pr, us, ds, ep, .ref aP, .ref aL, .int wd, .str pf, .str "", .non, .non, .str cf, .bl false, .bl ab, .bl ee] ∧ H x = some (.ins CP dx []) ∧ (cf = "error" ∨ cf = "resolve") ∧
  ∀ (la lf le dd ls s0 s1 m0 m1 : Addr) (H' : Hp), ParNew CP CS H H' x dx pr pf cf us ds ep wd ab ee aL la lf le dd ls s0 s1 m0 m1 → Q .non H'
section
variable {P : Program} {w : World} {K : PySem.W.Frag} {mg : Str → Option Value} {base : Heap}
abbrev pParI : List Str := ["self", "prog", "usage", "description", "epilog", "parents", "layout", "width", "prefix_chars", "fromfile_prefix_chars", "files", "argument_default", "conflict_handler", "add_help", "allow_abbrev", "exit_on_error"]
abbrev nParI : List Str := pParI ++ (["sign", "options", "parent", "word"] : List Str)
theorem scParI : FnScope nParI pParI (defScope sParI) := ⟨rfl, rfl, rfl, by decide +kernel, rfl, by decide +kernel, by decide +kernel⟩
theorem ok_parI {dvs : List V} {kws : List (Str × V)} {f fR fI fG fCp fS CP CS aP aL : Addr} {fd fdR fdI fdG fdCp fdS : FuncData} (F : FunD K "__init__" "Parser.__init__" (defArgs sParI) (defBody sParI) (defScope sParI) dvs kws f fd) (T : TxtB mg) (zStr : mg "str" = none) (cP : ClsN K CP parF)
    (hP : ∀ H, SqT K H aP []) (hL : ∀ H, SqT K H aL []) (tL : ∀ H, TyX K H (.ref aL) (.type "tuple"))
    (R : At P w K mg base "is_row" 1 ["thing"] (spIsRow K) fR fdR) (I : At P w K mg base "is_integer" 1 ["thing"] (spIsInt K) fI fdI) (G : At P w K mg base "is_signs" 1 ["thing"] spSigns fG fdG) (Cp : At P w K mg base "copied" 4 ["value"] (spCop 3) fCp fdCp)
    (mS : mg "Section" = some (.ref CS)) (MS : Mk K CS fS) (GS : FnOk P w K mg base CX0 1 fS fdS ["self", "home", "title", "description"] (spSecI CS)) (bS : Binds K fdS ["self", "home", "title", "description"] []) :
    FnOk P w K mg base CX0 5 f fd pParI (spParI CP CS aP aL) := by
  refine F.ok scParI (fun vs H Q E h => ?_) (fun cdv A0 outer s H vs Q E hr h => ?_)
  · obtain ⟨x, dx, pr, pf, cf, us, ds, ep, wd, ab, ee, _, _, _, rfl, _⟩ := h
    rfl
  · obtain ⟨x, dx, pr, pf, cf, us, ds, ep, wd, ab, ee, hwd, hsg, hpn, rfl, hx, hcf, k⟩ := h
    have r1 : Room 1 (A0.deeper (PyProof.Rows.envOfC "Parser.__init__" (defScope sParI) s.heap.objs.size f cdv)) := hr.mono (by decide)
    have r2 : Room 2 (A0.deeper (PyProof.Rows.envOfC "Parser.__init__" (defScope sParI) s.heap.objs.size f cdv)) := hr.mono (by decide)
    refine ⟨_, PSs.nox (pss_cons (ps_if (PW.pt (pw_or (pt_not (pt_val (pe_call R.ok r1 rfl R.m R.k R.b .nil pass0 (pa_cons (pv 6) pa_nil)))) (pw_or1 (pt_not (pt_val (pe_callB (cr_all rfl) (by rfl) T.all (by decide +kernel) (pa_cons (pe_lc (own := [("word", 19)]) (g := gName 19) (tt := tYes) (te := fun _ _ _ => False) rfl scParI.nd (pi_tup (pv 6)) (blkOk_by (N := nParI) (sc := defScope sParI) (by decide +kernel)) (fun _ _ _ _ _ => pg_name (i := 19) scParI.nd rfl (Or.inl rfl)) (fun _ _ _ _ _ => pts_nil)
        (fun _ _ _ _ _ => by exact pe_never)) pa_nil))))))) pss_never pss_nil)
      (pss_cons (ps_if (PW.pt (pw_or (pt_not (pt_val (pe_call I.ok r1 rfl I.m I.k I.b .nil pass0 (pa_cons (pv 7) pa_nil)))) (pw_or1 (pt_cmpR op_lt (pv 7) pe_int (nomark _))))) pss_never pss_nil)
      (pss_cons (ps_if (PW.pt (pw_or (pt_not (pt_val (pe_call G.ok r1 rfl G.m G.k G.b .nil pass0 (pa_cons (pv 8) pa_nil)))) (pw_or1 (pt_cmpR op_eq (pv 8) pe_str (nomark _))))) pss_never pss_nil)
      (pss_cons (ps_if (pt_not (pt_val (pe_call G.ok r1 rfl G.m G.k G.b .nil pass0 (pa_cons (pv 9) pa_nil)))) pss_never pss_nil)
      (pss_cons (ps_if (PW.pt (pw_or (pt_not (pt_val (pe_callB call_isi (by rfl) T.isinstance (by decide +kernel) (pa_cons (pv 12) (pa_cons (pe_bltn (v := .ty "str") (by rfl) zStr (by decide +kernel) rfl) pa_nil))))) (pw_or1 (pt_cmpR op_notIn_seq (pv 12) (pe_tup (pa_cons pe_str (pa_cons pe_str pa_nil))) (by rfl))))) pss_never pss_nil)
      (pss_mid (ps_asg (pe_tup (pa_cons (pv 1) (pa_cons (pv 2) (pa_cons (pv 3) (pa_cons (pv 4) pa_nil))))) (pg_tup rfl (pgs_cons (pg_fld (pv 0)) (pgs_cons (pg_fld (pv 0)) (pgs_cons (pg_fld (pv 0)) (pgs_cons (pg_fld (pv 0)) pgs_nil))))))
      (pss_mid (ps_asg (pe_tup (pa_cons (pe_callTy call_tuple_of (by rfl) T.tuple (by decide +kernel) (pa_cons (pv 6) pa_nil)) (pa_cons (pv 7) (pa_cons (pv 8) pa_nil)))) (pg_tup rfl (pgs_cons (pg_fld (pv 0)) (pgs_cons (pg_fld (pv 0)) (pgs_cons (pg_fld (pv 0)) pgs_nil)))))
      (pss_mid (ps_asg (pe_tup (pa_cons (pv 9) (pa_cons (pe_ifExp (pt_cmp (pc_isN (pv 10))) pe_dnewK pe_never) pa_nil))) (pg_tup rfl (pgs_cons (pg_fld (pv 0)) (pgs_cons (pg_fld (pv 0)) pgs_nil))))
      (pss_mid (ps_asg (pe_tup (pa_cons (pe_call Cp.ok hr rfl Cp.m Cp.k Cp.b .nil pass0 (pa_cons (pv 11) pa_nil)) (pa_cons (pv 12) pa_nil))) (pg_tup rfl (pgs_cons (pg_fld (pv 0)) (pgs_cons (pg_fld (pv 0)) pgs_nil))))
      (pss_mid (ps_asg (pe_tup (pa_cons (pv 14) (pa_cons (pv 15) pa_nil))) (pg_tup rfl (pgs_cons (pg_fld (pv 0)) (pgs_cons (pg_fld (pv 0)) pgs_nil))))
      (pss_mid (ps_asg (pe_tup (pa_cons (pe_lst pa_nil) (pa_cons pe_dnewK (pa_cons (pe_lst pa_nil) (pa_cons pe_dnewK pa_nil))))) (pg_tup rfl (pgs_cons (pg_fld (pv 0)) (pgs_cons (pg_fld (pv 0)) (pgs_cons (pg_fld (pv 0)) (pgs_cons (pg_fld (pv 0)) pgs_nil))))))
      (pss_mid (ps_fld (pv 0) pe_non rfl)
      (pss_mid (ps_fld (pv 0) (pe_lst (pa_cons (pe_make MS GS r2 rfl mS bS .nil pass0 (pa_cons (pv 0) (pa_cons pe_str (pa_cons pe_non pa_nil)))) (pa_cons (pe_make MS GS r2 rfl mS bS .nil pass0 (pa_cons (pv 0) (pa_cons pe_str (pa_cons pe_non pa_nil)))) pa_nil))) rfl)
      (pss_cons (ps_if (pt_val (pv 13)) pss_never pss_nil)
      (pss_one (ps_for PassesOwn.never rfl (pi_tup (pv 5)) (pg_name (i := 18) scParI.nd rfl (Or.inl rfl)) pss_never)))))))))))))))), ?_⟩
    -- layout
    refine ⟨_, rfl, .ref aL, "tuple", true, rfl, tL H, by decide +kernel, fun H1 e1 => ⟨_, rfl, iteF ?_⟩⟩
    refine ⟨_, rfl, aL, rfl, ⟨[], hL _⟩, fun D hD => ?_⟩
    refine lc_tup (K := K) (a := aL) (xs := []) (g := gName 19) (tt := tYes) (te := fun _ _ _ => False) (vs := [19]) (fun _ H' => Same H1 H' ∧ H' D = some (.lst [])) ⟨same_upd hD, upd_same⟩ (fun i H' _ _ => hL _) (fun i x H' hx h => by simp at hx) (fun H2 h => ?_)
    obtain ⟨e2, hl⟩ := h
    refine ⟨D, [], rfl, SqL.of hl, ⟨_, rfl, iteF ?_⟩⟩
    have e12 := e1.trans e2
    -- width
    refine ⟨_, rfl, .int wd, "int", true, false, rfl, .base (.int wd), by decide +kernel, by decide +kernel, ⟨_, rfl, iteF ?_⟩⟩
    refine ⟨_, rfl, _, _, rfl, rfl, false, congrArg V.bl (decide_eq_false (by omega)), iteF ?_⟩
    -- signs
    refine ⟨_, rfl, pf, rfl, hsg, fun H3 e3 => ⟨_, rfl, iteF ?_⟩⟩
    refine ⟨_, rfl, rfl, false, congrArg V.bl (decide_eq_false fun q => hpn (V.str.inj q)), iteF ?_⟩
    refine ⟨_, rfl, "", rfl, sg_none, fun H4 e4 => ⟨_, rfl, iteF ?_⟩⟩
    -- handler
    refine ⟨_, rfl, _, .ty "str", _, _, true, rfl, .ty _, .base (.str cf), kit_ty (by decide +kernel), _, rfl, iteF ?_⟩
    refine ⟨_, rfl, (by show 2 ≤ sizeLine; decide), fun p hp => ⟨p, _, rfl, .inr (SqT.of upd_same), rfl, by decide +kernel, false, ?_, iteF ?_⟩⟩
    · rcases hcf with rfl | rfl <;> rfl
    have e5 := (e12.trans (e3.trans e4)).trans (same_upd (o := .tup [.str "error", .str "resolve"]) hp)
    generalize upd H4 p (.tup [.str "error", .str "resolve"]) = H5 at e5
    have B5 : Bld CP H H5 x dx [] := ⟨fun b o e _ => e5 _ _ e, e5 _ _ hx⟩
    generalize hσ : (start nParI [.ref x, .str pr, us, ds, ep, .ref aP, .ref aL, .int wd, .str pf, .str "", .non, .non, .str cf, .bl false, .bl ab, .bl ee] : L2.St) = σ5
    have s0 : σ5[0]? = some (some (.ref x)) := by rw [← hσ]; rfl
    have s1 : σ5[1]? = some (some (.str pr)) := by rw [← hσ]; rfl
    have s2 : σ5[2]? = some (some us) := by rw [← hσ]; rfl
    have s3 : σ5[3]? = some (some ds) := by rw [← hσ]; rfl
    have s4 : σ5[4]? = some (some ep) := by rw [← hσ]; rfl
    have s5 : σ5[5]? = some (some (.ref aP)) := by rw [← hσ]; rfl
    have s6 : σ5[6]? = some (some (.ref aL)) := by rw [← hσ]; rfl
    have s7 : σ5[7]? = some (some (.int wd)) := by rw [← hσ]; rfl
    have s8 : σ5[8]? = some (some (.str pf)) := by rw [← hσ]; rfl
    have s9 : σ5[9]? = some (some (.str "")) := by rw [← hσ]; rfl
    have s10 : σ5[10]? = some (some (.non)) := by rw [← hσ]; rfl
    have s11 : σ5[11]? = some (some (.non)) := by rw [← hσ]; rfl
    have s12 : σ5[12]? = some (some (.str cf)) := by rw [← hσ]; rfl
    have s13 : σ5[13]? = some (some (.bl false)) := by rw [← hσ]; rfl
    have s14 : σ5[14]? = some (some (.bl ab)) := by rw [← hσ]; rfl
    have s15 : σ5[15]? = some (some (.bl ee)) := by rw [← hσ]; rfl
    -- prog ..
    refine ⟨fun σ' H' => σ5 = σ' ∧ Bld CP H H' x dx ([("prog", .str pr), ("usage", us), ("description", ds), ("epilog", ep)]), ?_, ?_⟩
    · refine ⟨_, s1, _, s2, _, s3, _, s4, (by show 4 ≤ sizeLine; decide), fun W hW => ?_⟩
      have M := B5.keep (same_upd (o := .tup [.str pr, us, ds, ep]) hW)
      exact ⟨W, _, rfl, SqT.of upd_same, rfl, _, _, rfl, M.put cP (by decide +kernel) (by show 0 < 1000; decide) s0 fun H' M1 => ⟨_, _, rfl, M1.put cP (by decide +kernel) (by show 1 < 1000; decide) s0 fun H' M2 => ⟨_, _, rfl, M2.put cP (by decide +kernel) (by show 2 < 1000; decide) s0 fun H' M3 => ⟨_, _, rfl, M3.put cP (by decide +kernel) (by show 3 < 1000; decide) s0 fun H' M4 => ⟨rfl, rfl, M4⟩⟩⟩⟩⟩
    rintro _ H6 ⟨rfl, B6⟩
    -- layout ..
    refine ⟨fun σ' H' => σ5 = σ' ∧ Bld CP H H' x dx ([("prog", .str pr), ("usage", us), ("description", ds), ("epilog", ep), ("layout", .ref aL), ("width", .int wd), ("prefix_chars", .str pf)]), ?_, ?_⟩
    · refine ⟨_, s6, aL, _, rfl, .inr ⟨hL _, _, s7, _, s8, (by show 3 ≤ sizeLine; decide), fun W hW => ?_⟩⟩
      have M := B6.keep (same_upd (o := .tup [.ref aL, .int wd, .str pf]) hW)
      exact ⟨W, _, rfl, SqT.of upd_same, rfl, _, _, rfl, M.put cP (by decide +kernel) (by show 4 < 1000; decide) s0 fun H' M5 => ⟨_, _, rfl, M5.put cP (by decide +kernel) (by show 5 < 1000; decide) s0 fun H' M6 => ⟨_, _, rfl, M6.put cP (by decide +kernel) (by show 6 < 1000; decide) s0 fun H' M7 => ⟨rfl, rfl, M7⟩⟩⟩⟩
    rintro _ H7 ⟨rfl, B7⟩
    -- files
    refine ⟨fun σ' H' => σ5 = σ' ∧ ∃ fi, Bld CP H H' x dx ([("prog", .str pr), ("usage", us), ("description", ds), ("epilog", ep), ("layout", .ref aL), ("width", .int wd), ("prefix_chars", .str pf), ("file_signs", .str ""), ("files", .ref fi)]), ?_, ?_⟩
    · refine ⟨_, s9, _, s10, true, rfl, iteT fun fi hfi => ⟨(by show 2 ≤ sizeLine; decide), fun W hW => ?_⟩⟩
      have M := (B7.keep (same_upd (o := .dK []) hfi)).keep (same_upd (o := .tup [.str "", .ref fi]) hW)
      exact ⟨W, _, rfl, SqT.of upd_same, rfl, _, _, rfl, M.put cP (by decide +kernel) (by show 7 < 1000; decide) s0 fun H' M8 => ⟨_, _, rfl, M8.put cP (by decide +kernel) (by show 8 < 1000; decide) s0 fun H' M9 => ⟨rfl, rfl, fi, M9⟩⟩⟩
    rintro _ H8 ⟨rfl, fi, B8⟩
    -- argument_default
    refine ⟨fun σ' H' => σ5 = σ' ∧ Bld CP H H' x dx ([("prog", .str pr), ("usage", us), ("description", ds), ("epilog", ep), ("layout", .ref aL), ("width", .int wd), ("prefix_chars", .str pf), ("file_signs", .str ""), ("files", .ref fi), ("argument_default", .non), ("conflict_handler", .str cf)]), ?_, ?_⟩
    · refine ⟨_, s11, .non, .none, rfl, .non, Nat.zero_le _, rfl, fun v' N H' e F t => ?_⟩
      cases t
      refine ⟨_, s12, (by show 2 ≤ sizeLine; decide), fun W hW => ?_⟩
      have M := (B8.keep e).keep (same_upd (o := .tup [.non, .str cf]) hW)
      exact ⟨W, _, rfl, SqT.of upd_same, rfl, _, _, rfl, M.put cP (by decide +kernel) (by show 9 < 1000; decide) s0 fun H' M10 => ⟨_, _, rfl, M10.put cP (by decide +kernel) (by show 10 < 1000; decide) s0 fun H' M11 => ⟨rfl, rfl, M11⟩⟩⟩
    rintro _ H9 ⟨rfl, B9⟩
    -- allow_abbrev
    refine ⟨fun σ' H' => σ5 = σ' ∧ Bld CP H H' x dx ([("prog", .str pr), ("usage", us), ("description", ds), ("epilog", ep), ("layout", .ref aL), ("width", .int wd), ("prefix_chars", .str pf), ("file_signs", .str ""), ("files", .ref fi), ("argument_default", .non), ("conflict_handler", .str cf), ("allow_abbrev", .bl ab), ("exit_on_error", .bl ee)]), ?_, ?_⟩
    · refine ⟨_, s14, _, s15, (by show 2 ≤ sizeLine; decide), fun W hW => ?_⟩
      have M := B9.keep (same_upd (o := .tup [.bl ab, .bl ee]) hW)
      exact ⟨W, _, rfl, SqT.of upd_same, rfl, _, _, rfl, M.put cP (by decide +kernel) (by show 11 < 1000; decide) s0 fun H' M12 => ⟨_, _, rfl, M12.put cP (by decide +kernel) (by show 12 < 1000; decide) s0 fun H' M13 => ⟨rfl, rfl, M13⟩⟩⟩
    rintro _ H10 ⟨rfl, B10⟩
    -- the lists
    refine ⟨fun σ' H' => σ5 = σ' ∧ ∃ G la lf le dd, Bld CP H G x dx ([("prog", .str pr), ("usage", us), ("description", ds), ("epilog", ep), ("layout", .ref aL), ("width", .int wd), ("prefix_chars", .str pf), ("file_signs", .str ""), ("files", .ref fi), ("argument_default", .non), ("conflict_handler", .str cf), ("allow_abbrev", .bl ab), ("exit_on_error", .bl ee)]) ∧ Bld CP G H' x dx ([("prog", .str pr), ("usage", us), ("description", ds), ("epilog", ep), ("layout", .ref aL), ("width", .int wd), ("prefix_chars", .str pf), ("file_signs", .str ""), ("files", .ref fi), ("argument_default", .non), ("conflict_handler", .str cf), ("allow_abbrev", .bl ab), ("exit_on_error", .bl ee), ("arguments", .ref la), ("flags", .ref lf), ("exclusives", .ref le), ("defaults", .ref dd)]) ∧ G la = some (.lst []) ∧ G lf = some (.dK []) ∧ G le = some (.lst []) ∧ G dd = some (.dK []) ∧ Nw H G [dd, le, lf, la], ?_, ?_⟩
    · refine ⟨(by show 0 ≤ sizeLine; decide), fun la hla lf hlf => ⟨(by show 0 ≤ sizeLine; decide), fun le hle dd hdd => ⟨(by show 4 ≤ sizeLine; decide), fun W hW => ?_⟩⟩⟩
      have N0 : Nw H H10 [] := ⟨(fun b hb => nomatch hb), List.nodup_nil⟩
      have M1 := B10.keep (same_upd (o := .lst []) hla)
      have N1 := N0.add (o := .lst []) hla (B10.free hla)
      have t1 : upd H10 la (.lst []) la = _ := upd_same
      generalize upd H10 la (.lst []) = G1 at *
      have M2 := M1.keep (same_upd (o := .dK []) hlf)
      have N2 := N1.add (o := .dK []) hlf (M1.free hlf)
      have t2 := same_upd (o := .dK []) hlf _ _ t1
      have t3 : upd G1 lf (.dK []) lf = _ := upd_same
      generalize upd G1 lf (.dK []) = G2 at *
      have M3 := M2.keep (same_upd (o := .lst []) hle)
      have N3 := N2.add (o := .lst []) hle (M2.free hle)
      have e3 := same_upd (o := .lst []) hle
      have t4 : upd G2 le (.lst []) le = _ := upd_same
      generalize upd G2 le (.lst []) = G3 at *
      have M4 := M3.keep (same_upd (o := .dK []) hdd)
      have N4 := N3.add (o := .dK []) hdd (M3.free hdd)
      have e4 := same_upd (o := .dK []) hdd
      have t5 : upd G3 dd (.dK []) dd = _ := upd_same
      generalize upd G3 dd (.dK []) = G4 at *
      have e5 := same_upd (o := .tup [.ref la, .ref lf, .ref le, .ref dd]) hW
      have eG := (e3.trans e4).trans e5
      have M5 := M4.keep e5
      refine ⟨W, _, rfl, SqT.of upd_same, rfl, _, _, rfl, ?_⟩
      have N5 := N4.same e5
      have M : Bld CP _ _ x dx _ := ⟨fun b o e _ => e, M5.at_⟩
      exact M.put cP (by decide +kernel) (by show 13 < 1000; decide) s0 fun H' M14 => ⟨_, _, rfl, M14.put cP (by decide +kernel) (by show 14 < 1000; decide) s0 fun H' M15 => ⟨_, _, rfl, M15.put cP (by decide +kernel) (by show 15 < 1000; decide) s0 fun H' M16 => ⟨_, _, rfl, M16.put cP (by decide +kernel) (by show 16 < 1000; decide) s0 fun H' M17 => ⟨rfl, rfl, _, la, lf, le, dd, M5, M17, eG _ _ t2, eG _ _ t3, (e4.trans e5) _ _ t4, e5 _ _ t5, N5⟩⟩⟩⟩
    rintro _ H11 ⟨rfl, G, la, lf, le, dd, BG, B11, g1, g2, g3, g4, N⟩
    -- commands_argument
    refine ⟨fun σ' H' => σ5 = σ' ∧ Bld CP G H' x dx ([("prog", .str pr), ("usage", us), ("description", ds), ("epilog", ep), ("layout", .ref aL), ("width", .int wd), ("prefix_chars", .str pf), ("file_signs", .str ""), ("files", .ref fi), ("argument_default", .non), ("conflict_handler", .str cf), ("allow_abbrev", .bl ab), ("exit_on_error", .bl ee), ("arguments", .ref la), ("flags", .ref lf), ("exclusives", .ref le), ("defaults", .ref dd), ("commands_argument", .non)]), ?_, ?_⟩
    · exact B11.put cP (by decide +kernel) (by show 17 < 1000; decide) s0 fun H' M => ⟨rfl, M⟩
    rintro _ H12 ⟨rfl, B12⟩
    have N12 : Nw H H12 [dd, le, lf, la] := N.keep fun b o e => by
      by_cases nb : b = x
      · exact ⟨_, by rw [nb]; exact B12.at_⟩
      · exact ⟨_, B12.kp b o e nb⟩
    have fr : ∀ {p}, H12 p = none → H p = none := fun e => BG.free (B12.free e)
    -- sections
    refine ⟨fun σ' H' => σ5 = σ' ∧ ∃ ls s0 s1 m0 m1, ParNew CP CS H H' x dx pr pf cf us ds ep wd ab ee aL la lf le dd ls s0 s1 m0 m1, ?_, ?_⟩
    · refine ⟨_, s0, fun a0 d0 ha0 hd0 ne0 => ⟨a0, d0, _, _, _, rfl, upd_same, fun m0 K1 kp1 nm0 hm0 hs0 => ⟨rfl, ?_⟩⟩⟩
      have q1 : Same H12 (upd (upd H12 d0 (.own a0)) a0 (.ins CS d0 [])) := same_upd2 (same_upd hd0) (by rw [upd_ne ne0.symm]; exact ha0)
      have N13 := N12.grow (p := a0) (fun b o e => ⟨o, q1 _ _ e⟩) (fr ha0) ha0 ⟨_, upd_same⟩
      have N14 := N13.grow (p := m0) (H2 := K1) (fun b o e => by
        by_cases nb : b = a0
        · exact ⟨_, by rw [nb]; exact hs0⟩
        · exact ⟨_, kp1 b o e nb⟩) (fr (Same.free q1 nm0)) nm0 ⟨_, hm0⟩
      have q2 : Same H12 K1 := fun b o e => kp1 _ _ (q1 _ _ e) (ne_of_none e ha0)
      have fr2 : ∀ {p}, K1 p = none → H p = none := fun e => fr (Same.free q2 e)
      clear kp1 q1 N13
      refine ⟨_, s0, fun a1 d1 ha1 hd1 ne1 => ⟨a1, d1, _, _, _, rfl, upd_same, fun m1 K2 kp2 nm1 hm1 hs1 => ⟨rfl, ?_⟩⟩⟩
      have q3 : Same K1 (upd (upd K1 d1 (.own a1)) a1 (.ins CS d1 [])) := same_upd2 (same_upd hd1) (by rw [upd_ne ne1.symm]; exact ha1)
      have N15 := N14.grow (p := a1) (fun b o e => ⟨o, q3 _ _ e⟩) (fr2 ha1) ha1 ⟨_, upd_same⟩
      have N16 := N15.grow (p := m1) (H2 := K2) (fun b o e => by
        by_cases nb : b = a1
        · exact ⟨_, by rw [nb]; exact hs1⟩
        · exact ⟨_, kp2 b o e nb⟩) (fr2 (Same.free q3 nm1)) nm1 ⟨_, hm1⟩
      have q4 : Same K1 K2 := fun b o e => kp2 _ _ (q3 _ _ e) (ne_of_none e ha1)
      clear kp2 q3 N15
      refine ⟨(by show 2 ≤ sizeLine; decide), fun ls hls => ?_⟩
      have N17 := N16.add (o := .lst [.ref a0, .ref a1]) hls (fr2 (Same.free q4 hls))
      have q5 := same_upd (o := .lst [.ref a0, .ref a1]) hls
      have tl : upd K2 ls (.lst [.ref a0, .ref a1]) ls = _ := upd_same
      generalize upd K2 ls (.lst [.ref a0, .ref a1]) = K3 at *
      have q6 := q4.trans q5
      have q7 := q2.trans q6
      have M := B12.keep q7
      have M0 : Bld CP K3 K3 x dx _ := ⟨fun b o e _ => e, M.at_⟩
      have nx : ∀ {b}, b ∈ [ls, m1, a1, m0, a0, dd, le, lf, la] → b ≠ x := fun hb z => by
        have := (N17.new _ hb).1
        rw [z, hx] at this
        cases this
      refine M0.put cP (by decide +kernel) (by show 18 < 1000; decide) s0 fun K4 M4 => ⟨rfl, ls, a0, a1, m0, m1, ?_⟩
      have gg : ∀ {b o}, b ∈ [ls, m1, a1, m0, a0, dd, le, lf, la] → G b = some o → K4 b = some o := fun hb e => M4.kp _ _ (q7 _ _ (B12.kp _ _ e (nx hb))) (nx hb)
      exact ⟨fun b o e nb => M4.kp _ _ (q7 _ _ (B12.kp _ _ (BG.kp _ _ e nb) nb)) nb, ⟨fi, M4.at_⟩, gg (by simp) g1, gg (by simp) g2, gg (by simp) g3, gg (by simp) g4, M4.kp _ _ tl (nx (by simp)), ⟨d0, _, M4.kp _ _ (q6 _ _ hs0) (nx (by simp))⟩, ⟨d1, _, M4.kp _ _ (q5 _ _ hs1) (nx (by simp))⟩, M4.kp _ _ (q6 _ _ hm0) (nx (by simp)), M4.kp _ _ (q5 _ _ hm1) (nx (by simp)), N17.keep fun b o e => by
        by_cases nb : b = x
        · exact ⟨_, by rw [nb]; exact M4.at_⟩
        · exact ⟨_, M4.kp b o e nb⟩⟩
    rintro _ H13 ⟨rfl, ls, sa, sb, m0, m1, PN⟩
    refine ⟨_, s13, _, rfl, iteF ⟨_, s5, aP, rfl, ⟨[], hP _⟩, ?_⟩⟩
    exact for_tup (K := K) (a := aP) (xs := []) (g := gName 18) (tb := fun _ _ _ => False) (D := { nx := fun _ H' => Q .non H', rt := Q }) (fun _ _ H' => H' = H13) rfl (fun _ _ _ _ _ => hP _) (fun i y _ _ hy _ => by simp at hy) (fun _ H' e => by subst e; exact k la lf le dd ls sa sb m0 m1 _ PN)
end
end K45

namespace K45
open PySem L2 PyProof PyProof.Rows
/-! ### words laid out in lines -/
theorem len_tl (x : Str) : x.cps.toList.length = x.length := by simp [Str.length]
theorem cutS_from (w : Str) (z : Nat) : (cutS w (some (z : Int)) none).cps.toList = w.cps.toList.drop z := by
  unfold cutS
  have q : HT.sIx w.length 0 (some (z : Int)) = min z w.length := HT.sIx_nat w.length 0 z
  have q2 : HT.sIx w.length w.length none = w.length := rfl
  rw [q, q2]
  show (w.cps.toList.drop (min z w.length)).take (w.length - min z w.length) = _
  have hl := len_tl w
  by_cases h : z ≤ w.length
  · rw [Nat.min_eq_left h, List.take_of_length_le (by rw [List.length_drop, hl]; exact Nat.le_refl _)]
  · rw [Nat.min_eq_right (by omega), Nat.sub_self, List.take_zero, List.drop_eq_nil_of_le (by omega)]
theorem cutS_to (w : Str) (z : Nat) : (cutS w none (some (z : Int))).cps.toList = w.cps.toList.take z := by
  unfold cutS
  have q : HT.sIx w.length w.length (some (z : Int)) = min z w.length := HT.sIx_nat w.length w.length z
  have q2 : HT.sIx w.length 0 none = 0 := rfl
  rw [q, q2]
  show (w.cps.toList.drop 0).take (min z w.length - 0) = _
  have hl := len_tl w
  rw [List.drop_zero, Nat.sub_zero]
  by_cases h : z ≤ w.length
  · rw [Nat.min_eq_left h]
  · rw [Nat.min_eq_right (by omega), List.take_of_length_le (by omega), List.take_of_length_le (by omega)]
theorem cutS_from_len (w : Str) (z : Nat) : (cutS w (some (z : Int)) none).length = w.length - z := by rw [← len_tl, cutS_from, List.length_drop, len_tl]
theorem cutS_to_len (w : Str) (z : Nat) : (cutS w none (some (z : Int))).length ≤ z := by
  rw [← len_tl, cutS_to, List.length_take]
  omega
def chop (z : Nat) : Nat → Str → List Str × Str
  | 0, w => ([], w)
  | n + 1, w => if z < w.length then (cutS w none (some (z : Int)) :: (chop z n (cutS w (some (z : Int)) none)).1, (chop z n (cutS w (some (z : Int)) none)).2) else ([], w)
def roomOf (z : Nat) (line : Str) : Nat := z - line.length - 1
def filledL (z : Nat) (line w : Str) : Str := line ++ (if 0 < roomOf z line then " " ++ cutS w none (some (roomOf z line : Int)) else "")
def layStep (z : Nat) (st : List Str × Str) (w : Str) : List Str × Str :=
  if st.2 ≠ "" ∧ st.2.length + 1 + w.length ≤ z then (st.1, st.2 ++ " " ++ w) else
  if st.2 ≠ "" ∧ z < w.length then
    ((if filledL z st.2 w ≠ "" then st.1 ++ [filledL z st.2 w] else st.1) ++ (chop z w.length (cutS w (some (roomOf z st.2 : Int)) none)).1, (chop z w.length (cutS w (some (roomOf z st.2 : Int)) none)).2)
  else ((if st.2 ≠ "" then st.1 ++ [st.2] else st.1) ++ (chop z w.length w).1, (chop z w.length w).2)
def laidF (z : Nat) (ws : List Str) : List Str := if (ws.foldl (layStep z) ([], "")).2 ≠ "" then (ws.foldl (layStep z) ([], "")).1 ++ [(ws.foldl (layStep z) ([], "")).2] else (ws.foldl (layStep z) ([], "")).1
theorem chop_zero {z : Nat} {w : Str} (h : ¬ z < w.length) : ∀ n, chop z n w = ([], w)
  | 0 => rfl
  | n + 1 => by unfold chop; rw [if_neg h]
theorem chop_more {z : Nat} (hz : 1 ≤ z) : ∀ (n m : Nat) (w : Str), w.length ≤ n → w.length ≤ m → chop z n w = chop z m w
  | 0, m, w, h1, h2 => by rw [chop_zero (by omega), chop_zero (by omega)]
  | n + 1, 0, w, h1, h2 => by rw [chop_zero (by omega), chop_zero (by omega)]
  | n + 1, m + 1, w, h1, h2 => by
    unfold chop
    by_cases h : z < w.length
    · rw [if_pos h, if_pos h]
      have l := cutS_from_len w z
      rw [chop_more hz n m (cutS w (some (z : Int)) none) (by omega) (by omega)]
    · rw [if_neg h, if_neg h]
theorem chop_step {z : Nat} (hz : 1 ≤ z) {n : Nat} {w : Str} (h : z < w.length) (hn : w.length ≤ n) : chop z n w = (cutS w none (some (z : Int)) :: (chop z n (cutS w (some (z : Int)) none)).1, (chop z n (cutS w (some (z : Int)) none)).2) := by
  have l := cutS_from_len w z
  cases n with
  | zero => omega
  | succ n =>
    rw [chop_more hz (n + 1) n (cutS w (some (z : Int)) none) (by omega) (by omega)]
    show (if z < w.length then _ else _) = _
    rw [if_pos h]
def wsm (ws : List Str) : Nat := (ws.map (·.length)).sum + ws.length
theorem wsm_snoc (ws : List Str) (w : Str) : wsm (ws ++ [w]) = wsm ws + w.length + 1 := by
  unfold wsm
  rw [List.map_append, List.sum_append, List.length_append]
  simp
  omega
theorem wsm_take (ws : List Str) (i : Nat) : wsm (ws.take i) ≤ wsm ws := by
  have h : ∀ (a b : List Str), wsm (a ++ b) = wsm a + wsm b := fun a b => by
    unfold wsm
    rw [List.map_append, List.sum_append, List.length_append]
    omega
  have := h (ws.take i) (ws.drop i)
  rw [List.take_append_drop] at this
  omega
theorem chop_len {z : Nat} (hz : 1 ≤ z) : ∀ (n : Nat) (w : Str), w.length ≤ n → (chop z n w).1.length ≤ w.length ∧ (chop z n w).2.length ≤ w.length
  | 0, w, h => ⟨Nat.zero_le _, Nat.le_refl _⟩
  | n + 1, w, h => by
    unfold chop
    by_cases q : z < w.length
    · rw [if_pos q]
      have l := cutS_from_len w z
      obtain ⟨a, b⟩ := chop_len hz n (cutS w (some (z : Int)) none) (by omega)
      exact ⟨by show (chop z n _).1.length + 1 ≤ _; omega, by show (chop z n _).2.length ≤ _; omega⟩
    · rw [if_neg q]
      exact ⟨Nat.zero_le _, Nat.le_refl _⟩
theorem filled_len (z : Nat) (line w : Str) : (filledL z line w).length ≤ line.length + 1 + w.length := by
  unfold filledL
  rw [Str.length_append]
  split
  · rw [Str.length_append]
    have h1 : (" " : Str).length = 1 := rfl
    have h2 : (cutS w none (some (roomOf z line : Int))).length ≤ w.length := by
      rw [← len_tl, cutS_to, List.length_take, len_tl]
      omega
    omega
  · show line.length + 0 ≤ _
    omega
theorem lay_len {z : Nat} (hz : 1 ≤ z) {st : List Str × Str} {w : Str} {n : Nat} (h1 : st.1.length ≤ n) (h2 : st.2.length ≤ n) : (layStep z st w).1.length ≤ n + w.length + 1 ∧ (layStep z st w).2.length ≤ n + w.length + 1 := by
  unfold layStep
  split
  · refine ⟨by show st.1.length ≤ _; omega, ?_⟩
    show (st.2 ++ " " ++ w).length ≤ _
    rw [Str.length_append, Str.length_append]
    have : (" " : Str).length = 1 := rfl
    omega
  · split
    · have l := cutS_from_len w (roomOf z st.2)
      obtain ⟨a, b⟩ := chop_len hz w.length (cutS w (some (roomOf z st.2 : Int)) none) (by omega)
      refine ⟨?_, by show (chop z _ _).2.length ≤ _; omega⟩
      show (_ ++ (chop z _ _).1).length ≤ _
      rw [List.length_append]
      split
      · rw [List.length_append]
        show st.1.length + 1 + _ ≤ _
        omega
      · omega
    · obtain ⟨a, b⟩ := chop_len hz w.length w (Nat.le_refl _)
      refine ⟨?_, by show (chop z _ _).2.length ≤ _; omega⟩
      show (_ ++ (chop z _ _).1).length ≤ _
      rw [List.length_append]
      split
      · rw [List.length_append]
        show st.1.length + 1 + _ ≤ _
        omega
      · omega
theorem while_n {c : TT} {tb : TS} {D : Ends} {σ : L2.St} {H : Hp} (Pv : Nat → L2.St → Hp → Prop) (n0 : Nat) (h0 : Pv n0 σ H)
    (hs : ∀ n σ H, Pv n σ H → ∀ Y : Bool → Hp → Prop, (∀ H1, tb { D with nx := fun σ' H' => ∃ m, m < n ∧ Pv m σ' H', ct := fun σ' H' => ∃ m, m < n ∧ Pv m σ' H', bk := D.nx } σ H1 → Y true H1) → (∀ H1, D.nx σ H1 → Y false H1) → c σ H Y) : tWhile c tb D σ H :=
  ⟨Pv, ⟨n0, h0⟩, fun m σ H p => hs m σ H p _ (fun H1 q => by
    rw [if_pos rfl]
    exact ⟨_, fun _ _ h => h, q⟩) (fun H1 q => by
    rw [if_neg Bool.false_ne_true]
    exact q)⟩
/-- all but L is kept -/
def Kb (L : Addr) (H H' : Hp) : Prop := ∀ b u, H b = some u → b ≠ L → H' b = some u
theorem Kb.refl (L : Addr) (H : Hp) : Kb L H H := fun _ _ e _ => e
theorem Kb.trans {L : Addr} {H H1 H2 : Hp} (a : Kb L H H1) (b : Kb L H1 H2) : Kb L H H2 := fun c u e n => b c u (a c u e n) n
theorem Kb.upd {L : Addr} {H H1 : Hp} {o : HO} (a : Kb L H H1) : Kb L H (upd H1 L o) := fun c u e n => by
  rw [upd_ne n]
  exact a c u e n
theorem Kb.same {L : Addr} {H H1 H2 : Hp} (a : Kb L H H1) (e : Same H1 H2) : Kb L H H2 := fun c u h n => e _ _ (a c u h n)
theorem Kb.new {L : Addr} {H H' : Hp} (a : Kb L H H') (h : H L = none) : Same H H' := fun c u e => a c u e (ne_of_none e h)
theorem neS (a : Str) : (!decide (V.str a = V.str "")) = decide (a ≠ "") := by
  by_cases h : a = ""
  · subst h
    rfl
  · have h2 : ¬ V.str a = V.str "" := fun z => h (V.str.inj z)
    rw [decide_eq_false h2, decide_eq_true h]
    rfl
theorem skip {a R : Prop} (hR : R) (h : R → a) : a := h hR
def spLaid : Sp := fun vs H Q _ => ∃ (x : Str) (z : Nat), vs = [.str x, .int z] ∧ 1 ≤ z ∧ z ≤ 100000 ∧ x.length ≤ 100000 ∧ ∀ (D : Addr) (H' : Hp), Same H H' → H D = none → H' D = some (.lst ((laidF z (Txt.words x)).map V.str)) → Q (.ref D) H'
section
variable {P : Program} {w : World} {K : PySem.W.Frag} {mg : Str → Option Value} {base : Heap}
abbrev nLaid : List Str := ["text", "size", "found", "line", "word", "room"]
theorem scLaid : FnScope nLaid ["text", "size"] (defScope sLaidOut) := ⟨rfl, rfl, rfl, by decide +kernel, rfl, by decide +kernel, by decide +kernel⟩
theorem ok_laid {f : Addr} {fd : FuncData} (F : Fun K "laid_out" "laid_out" sLaidOut f fd) (T : TxtB mg) (zMax : mg "max" = none) : FnOk P w K mg base CX0 1 f fd ["text", "size"] spLaid := by
  refine F.ok scLaid (fun vs H Q E h => ?_) (fun cdv A outer s H vs Q E hr h => ?_)
  · obtain ⟨x, z, rfl, _⟩ := h
    rfl
  · obtain ⟨x, z, rfl, hz, hz2, hx, k⟩ := h
    refine ⟨_, pss_mid (ps_par (i := 2) (j := 3) (by rfl) scLaid.nd rfl rfl (by decide) rfl rfl (pa_cons (pe_lst pa_nil) (pa_cons pe_str pa_nil)) (by rfl))
      (pss_mid (ps_for PassesOwn.never rfl (pi_list (pe_bm0 PySem.F.plainAttrs_str PySem.F.slot_str_split PySem.F.type_str_split mt_words (pv 0))) (pg_name (i := 4) scLaid.nd rfl (Or.inl rfl))
        (pss_cons (ps_if (PW.pt (pw_and (pt_cmpR op_ne (pv 3) pe_str (nomark _)) (pw_and1 (pt_cmpR op_le (pe_op op_add (pe_op op_add (pe_callB call_len_str (by rfl) T.len PySem.boot_len (pa_cons (pv 3) pa_nil)) pe_int) (pe_callB call_len_str (by rfl) T.len PySem.boot_len (pa_cons (pv 4) pa_nil))) (pv 1) (nomark _)))))
            (pss_cons (ps_set (i := 3) scLaid.nd rfl (Or.inl rfl) (pe_op op_add_str (pe_op op_add_str (pv 3) pe_str) (pv 4))) (pss_one ps_continue)) pss_nil)
        (pss_mid (ps_if (PW.pt (pw_and (pt_cmpR op_ne (pv 3) pe_str (nomark _)) (pw_and1 (pt_cmpR op_gt (pe_callB call_len_str (by rfl) T.len PySem.boot_len (pa_cons (pv 4) pa_nil)) (pv 1) (nomark _)))))
            (pss_cons (ps_set (i := 5) scLaid.nd rfl (Or.inl rfl) (pe_callB (call_max2 rfl) (by rfl) zMax (by decide +kernel) (pa_cons pe_int (pa_cons (pe_op op_sub (pe_op op_sub (pv 1) (pe_callB call_len_str (by rfl) T.len PySem.boot_len (pa_cons (pv 3) pa_nil))) pe_int) pa_nil))))
            (pss_cons (ps_set (i := 3) scLaid.nd rfl (Or.inl rfl) (pe_op op_add_str (pv 3) (pe_ifExp (pt_cmpR op_gt (pv 5) pe_int (nomark _)) (pe_op op_add_str pe_str (pe_slice sl_str (pv 4) po_none (po_some (pv 5)))) pe_str)))
            (pss_one (ps_set (i := 4) scLaid.nd rfl (Or.inl rfl) (pe_slice sl_str (pv 4) (po_some (pv 5)) po_none))))) pss_nil)
        (pss_mid (ps_if (pt_cmpR op_ne (pv 3) pe_str (nomark _)) (pss_one (ps_expr (pe_bm PySem.F.plainAttrs_list PySem.F.slot_list_append PySem.F.type_list_append mt_append (pv 2) (pa_cons (pv 3) pa_nil)))) pss_nil)
        (pss_mid (ps_while PassesOwn.never (pt_cmpR op_gt (pe_callB call_len_str (by rfl) T.len PySem.boot_len (pa_cons (pv 4) pa_nil)) (pv 1) (nomark _))
            (pss_cons (ps_expr (pe_bm PySem.F.plainAttrs_list PySem.F.slot_list_append PySem.F.type_list_append mt_append (pv 2) (pa_cons (pe_slice sl_str (pv 4) po_none (po_some (pv 1))) pa_nil)))
            (pss_one (ps_set (i := 4) scLaid.nd rfl (Or.inl rfl) (pe_slice sl_str (pv 4) (po_some (pv 1)) po_none)))))
        (pss_one (ps_set (i := 3) scLaid.nd rfl (Or.inl rfl) (pv 4))))))))
      (pss_one (ps_ret (pe_ifExp (pt_cmpR op_ne (pv 3) pe_str (nomark _)) (pe_op op_cat (pv 2) (pe_lst (pa_cons (pv 3) pa_nil))) (pv 2))))), ?_⟩
    have hz6 : PySem.sizeLine = 16777216 := PySem.sizeLine_eq
    have hwt : wsm (Txt.words x) ≤ x.length + 1 := StrLaws.words_weight x
    refine ⟨fun σ' H' => ∃ L, H L = none ∧ σ' = [some (.str x), some (.int z), some (.ref L), some (.str ""), none, none] ∧ Same H H' ∧ H' L = some (.lst []), ?_, ?_⟩
    · exact ⟨(by show 0 ≤ sizeLine; decide), fun L hL => ⟨_, _, rfl, L, hL, rfl, same_upd hL, upd_same⟩⟩
    rintro _ H1 ⟨L, hL0, rfl, e1, hL⟩
    refine ⟨fun σ' H' => ∃ r4 r5, σ' = [some (.str x), some (.int z), some (.ref L), some (.str ((Txt.words x).foldl (layStep z) ([], "")).2), r4, r5] ∧ Kb L H H' ∧ H' L = some (.lst (((Txt.words x).foldl (layStep z) ([], "")).1.map V.str)) ∧ ((Txt.words x).foldl (layStep z) ([], "")).1.length ≤ 100001 ∧ ((Txt.words x).foldl (layStep z) ([], "")).2.length ≤ 100001, ?_, ?_⟩
    · refine ⟨_, rfl, rfl, x, rfl, rfl, (by omega), fun LW hLW => ⟨LW, rfl, ⟨_, SqL.of upd_same⟩, ?_⟩⟩
      have nLW : L ≠ LW := ne_of_none hL hLW
      have hLW2 : (upd H1 LW (.lst ((Txt.words x).map V.str))) LW = some (.lst ((Txt.words x).map V.str)) := upd_same
      have hL2 : (upd H1 LW (.lst ((Txt.words x).map V.str))) L = some (.lst []) := by rw [upd_ne nLW]; exact hL
      have kb2 : Kb L H (upd H1 LW (.lst ((Txt.words x).map V.str))) := fun b u e n => same_upd hLW _ _ (e1 _ _ e)
      generalize upd H1 LW (.lst ((Txt.words x).map V.str)) = G at hLW2 hL2 kb2
      refine for_list (K := K) (a := LW) (xs := (Txt.words x).map V.str) (fun i σ' H' => ∃ r4 r5, σ' = [some (.str x), some (.int z), some (.ref L), some (.str (((Txt.words x).take i).foldl (layStep z) ([], "")).2), r4, r5] ∧ Kb L H H' ∧ H' L = some (.lst ((((Txt.words x).take i).foldl (layStep z) ([], "")).1.map V.str)) ∧ (((Txt.words x).take i).foldl (layStep z) ([], "")).1.length ≤ wsm ((Txt.words x).take i) ∧ (((Txt.words x).take i).foldl (layStep z) ([], "")).2.length ≤ wsm ((Txt.words x).take i) ∧ H' LW = some (.lst ((Txt.words x).map V.str))) ⟨none, none, rfl, kb2, hL2, Nat.zero_le _, Nat.zero_le _, hLW2⟩ ?_ ?_ ?_
      · rintro i σ' H' _ ⟨_, _, _, _, _, _, _, h⟩
        exact SqL.of h
      · rintro i xv σ' H' hx' ⟨r4, r5, rfl, kb, hLh, b1, b2, hLWh⟩
        obtain ⟨y, hy, rfl⟩ := str_at hx'
        have hyl : y.length ≤ 100001 := by
          have hm := List.mem_of_getElem? hy
          have h1 := wsm_take (Txt.words x) (i + 1)
          rw [take_more' hy, wsm_snoc] at h1
          omega
        have htk : (Txt.words x).take (i + 1) = (Txt.words x).take i ++ [y] := take_more' hy
        have hw1 : wsm ((Txt.words x).take i) ≤ x.length + 1 := Nat.le_trans (wsm_take _ _) hwt
        have fin : ∀ (r4 r5 : Option V) (H2 : Hp) (st : List Str × Str), st = layStep z (((Txt.words x).take i).foldl (layStep z) ([], "")) y → Kb L H H2 → H2 L = some (.lst (st.1.map V.str)) → H2 LW = some (.lst ((Txt.words x).map V.str)) → ∃ r4' r5', ([some (.str x), some (.int z), some (.ref L), some (.str st.2), r4, r5] : L2.St) = [some (.str x), some (.int z), some (.ref L), some (.str (((Txt.words x).take (i + 1)).foldl (layStep z) ([], "")).2), r4', r5'] ∧ Kb L H H2 ∧ H2 L = some (.lst ((((Txt.words x).take (i + 1)).foldl (layStep z) ([], "")).1.map V.str)) ∧ (((Txt.words x).take (i + 1)).foldl (layStep z) ([], "")).1.length ≤ wsm ((Txt.words x).take (i + 1)) ∧ (((Txt.words x).take (i + 1)).foldl (layStep z) ([], "")).2.length ≤ wsm ((Txt.words x).take (i + 1)) ∧ H2 LW = some (.lst ((Txt.words x).map V.str)) := fun r4 r5 H2 st hst k1 k2 k3 => by
          have hf : ((Txt.words x).take (i + 1)).foldl (layStep z) ([], "") = st := by rw [htk, List.foldl_append, hst]; rfl
          rw [hf]
          have hln := lay_len hz (w := y) b1 b2
          rw [← hst] at hln
          have hws : wsm ((Txt.words x).take (i + 1)) = wsm ((Txt.words x).take i) + y.length + 1 := by rw [htk, wsm_snoc]
          exact ⟨r4, r5, rfl, k1, k2, by omega, by omega, k3⟩
        generalize hst0 : ((Txt.words x).take i).foldl (layStep z) ([], "") = st0 at fin b1 b2 hLh
        obtain ⟨fo, li⟩ := st0
        have b1' : fo.length ≤ 100001 := by have : fo.length ≤ _ := b1; omega
        have b2' : li.length ≤ 100001 := by have : li.length ≤ _ := b2; omega
        have hLh' : H' L = some (.lst (fo.map V.str)) := hLh
        clear hst0 hLh
        have hsp : (" " : Str).length = 1 := rfl
        refine ⟨_, rfl, rfl, _, rfl, ?_⟩
        rw [neS]
        by_cases h0 : li ≠ "" ∧ li.length + 1 + y.length ≤ z
        · refine ite2 (fun _ => ?_) (fun zz => absurd (decide_eq_true h0.1) zz)
          refine ⟨_, rfl, li, rfl, (by omega), _, _, rfl, rfl, _, rfl, y, rfl, (by omega), _, _, rfl, rfl, _, rfl, _, _, rfl, rfl, _, rfl, ?_⟩
          refine ite2 (fun _ => ?_) (fun zz => absurd (decide_eq_true (by have := h0.2; omega)) zz)
          refine ⟨_, rfl, _, _, rfl, rfl, (by rw [hsp]; omega), _, rfl, _, _, rfl, rfl, (by rw [Str.length_append, hsp]; omega), ?_⟩
          refine fin _ _ H' (fo, li ++ " " ++ y) ?_ kb hLh' hLWh
          unfold layStep
          rw [if_pos h0]
        refine skip ?rest (fun rest => ite2 (fun hne => ⟨_, rfl, li, rfl, (by omega), _, _, rfl, rfl, _, rfl, y, rfl, (by omega), _, _, rfl, rfl, _, rfl, _, _, rfl, rfl, _, rfl, ite2 (fun hle => absurd ⟨of_decide_eq_true hne, (by have := of_decide_eq_true hle; omega)⟩ h0) (fun _ => rest)⟩) (fun hne => iteF rest))
        have hz6' : z < 16777216 := by omega
        generalize hl2 : (if li ≠ "" ∧ z < y.length then filledL z li y else li) = li2
        generalize hw2 : (if li ≠ "" ∧ z < y.length then cutS y (some (roomOf z li : Int)) none else y) = w2
        have hli2 : li2.length ≤ 300000 := by
          rw [← hl2]
          split
          · have := filled_len z li y
            omega
          · omega
        have hw2l : w2.length ≤ y.length := by
          rw [← hw2]
          split
          · have := cutS_from_len y (roomOf z li)
            omega
          · exact Nat.le_refl _
        have hst : layStep z (fo, li) y = ((if li2 ≠ "" then fo ++ [li2] else fo) ++ (chop z y.length w2).1, (chop z y.length w2).2) := by
          unfold layStep
          rw [if_neg h0]
          by_cases hc : li ≠ "" ∧ z < y.length
          · rw [if_pos hc, ← hl2, ← hw2, if_pos hc, if_pos hc]
          · rw [if_neg hc, ← hl2, ← hw2, if_neg hc, if_neg hc]
        -- a word that is cut
        refine ⟨fun σ' H2 => ∃ r5, σ' = [some (.str x), some (.int z), some (.ref L), some (.str li2), some (.str w2), r5] ∧ H' = H2, ?_, ?_⟩
        · by_cases hc : li ≠ "" ∧ z < y.length
          · rw [if_pos hc] at hl2 hw2
            refine ⟨_, rfl, rfl, _, rfl, ?_⟩
            rw [neS]
            refine ite2 (fun _ => ?_) (fun zz => absurd (decide_eq_true hc.1) zz)
            refine ⟨_, rfl, y, rfl, (by omega), _, rfl, _, _, rfl, rfl, _, rfl, ?_⟩
            refine ite2 (fun _ => ?_) (fun zz => absurd (decide_eq_true (by have := hc.2; omega)) zz)
            have hroom : (if (z : Int) - (li.length : Int) - 1 > 0 then (z : Int) - (li.length : Int) - 1 else 0) = (roomOf z li : Int) := by
              unfold roomOf
              split <;> omega
            refine ⟨_, rfl, _, rfl, li, rfl, (by omega), _, _, rfl, rfl, _, _, rfl, rfl, _, _, rfl, ?_⟩
            rw [hroom]
            refine ⟨_, rfl, _, rfl, _, _, rfl, rfl, _, rfl, ?_⟩
            subst hl2 hw2
            have hct := cutS_to_len y (roomOf z li)
            have hrl : roomOf z li ≤ 100000 := by
              unfold roomOf
              omega
            refine ite2 (fun hr => ?_) (fun hr => ?_)
            · have e : filledL z li y = li ++ (" " ++ cutS y none (some (roomOf z li : Int))) := by
                unfold filledL
                rw [if_pos (by have := of_decide_eq_true hr; omega)]
              rw [e]
              refine ⟨_, rfl, _, rfl, _, rfl, y, rfl, (by omega), _, _, rfl, rfl, (by rw [hsp]; omega), _, _, rfl, rfl, (by rw [Str.length_append, hsp]; show li.length + _ ≤ _; omega), ?_⟩
              exact ⟨_, rfl, _, rfl, _, rfl, y, rfl, (by omega), _, rfl, rfl⟩
            · have e : filledL z li y = li ++ "" := by
                unfold filledL
                rw [if_neg (fun zz => hr (decide_eq_true (by omega)))]
              rw [e]
              refine ⟨_, _, rfl, rfl, (by show li.length + 0 ≤ _; omega), ?_⟩
              exact ⟨_, rfl, _, rfl, _, rfl, y, rfl, (by omega), _, rfl, rfl⟩
          · rw [if_neg hc] at hl2 hw2
            subst hl2 hw2
            refine ⟨_, rfl, rfl, _, rfl, ?_⟩
            rw [neS]
            refine ite2 (fun hne => ⟨_, rfl, y, rfl, (by omega), _, rfl, _, _, rfl, rfl, _, rfl, ite2 (fun hq => absurd ⟨of_decide_eq_true hne, (by have := of_decide_eq_true hq; omega)⟩ hc) (fun _ => ⟨_, rfl, rfl⟩)⟩) (fun hne => iteF ⟨_, rfl, rfl⟩)
        rintro _ _ ⟨q5, rfl, rfl⟩
        -- the line is closed
        refine ⟨fun σ' H2 => σ' = [some (.str x), some (.int z), some (.ref L), some (.str li2), some (.str w2), q5] ∧ Kb L H H2 ∧ H2 L = some (.lst ((if li2 ≠ "" then fo ++ [li2] else fo).map V.str)) ∧ H2 LW = some (.lst ((Txt.words x).map V.str)), ?_, ?_⟩
        · refine ⟨_, rfl, rfl, _, rfl, ?_⟩
          rw [neS]
          refine ite2 (fun hne => ?_) (fun hne => ?_)
          · refine ⟨_, rfl, .inl ⟨rfl, _, SqL.of hLh'⟩, _, rfl, L, _, _, rfl, rfl, hLh', (by rw [List.length_map]; omega), rfl, kb.upd, ?_, ?_⟩
            · rw [upd_same, if_pos (of_decide_eq_true hne), List.map_append]
              rfl
            · rw [upd_ne nLW.symm]
              exact hLWh
          · rw [if_neg (fun q => hne (decide_eq_true q))]
            exact ⟨rfl, kb, hLh', hLWh⟩
        rintro _ H2 ⟨rfl, kb2, hL2, hLW2⟩
        generalize hfo2 : (if li2 ≠ "" then fo ++ [li2] else fo) = fo2 at hst hL2
        have hfo2l : fo2.length ≤ 100002 := by
          rw [← hfo2]
          split
          · rw [List.length_append]
            show fo.length + 1 ≤ _
            omega
          · omega
        -- pieces of a long word
        refine ⟨fun σ' H3 => ∃ w3 cs, σ' = [some (.str x), some (.int z), some (.ref L), some (.str li2), some (.str w3), q5] ∧ Kb L H H3 ∧ H3 L = some (.lst ((fo2 ++ cs).map V.str)) ∧ H3 LW = some (.lst ((Txt.words x).map V.str)) ∧ chop z y.length w2 = (cs, w3), ?_, ?_⟩
        · refine while_n (fun n σ' H3 => ∃ w3 cs, σ' = [some (.str x), some (.int z), some (.ref L), some (.str li2), some (.str w3), q5] ∧ n = w3.length ∧ w3.length + cs.length ≤ y.length ∧ Kb L H H3 ∧ H3 L = some (.lst ((fo2 ++ cs).map V.str)) ∧ H3 LW = some (.lst ((Txt.words x).map V.str)) ∧ chop z y.length w2 = (cs ++ (chop z y.length w3).1, (chop z y.length w3).2)) w2.length ⟨w2, [], rfl, rfl, by simpa using hw2l, kb2, by rw [List.append_nil]; exact hL2, hLW2, rfl⟩ ?_
          rintro n σ' H3 ⟨w3, cs, rfl, rfl, hlen, kb3, hL3, hLW3, hch⟩ Y hY1 hY0
          refine ⟨_, rfl, w3, rfl, (by omega), _, rfl, _, _, rfl, rfl, _, rfl, ?_⟩
          by_cases hlt : z < w3.length
          · have hd : decide ((z : Int) < (w3.length : Int)) = true := decide_eq_true (by omega)
            show Y (decide ((z : Int) < (w3.length : Int))) H3
            rw [hd]
            refine hY1 H3 ?_
            have hc1 := cutS_from_len w3 z
            have hc2 := cutS_to_len w3 z
            refine ⟨_, rfl, .inl ⟨rfl, _, SqL.of hL3⟩, _, rfl, _, rfl, _, rfl, w3, rfl, (by omega), L, _, _, rfl, rfl, hL3, (by rw [List.length_map, List.length_append]; omega), ?_⟩
            refine ⟨_, rfl, _, rfl, _, rfl, w3, rfl, (by omega), ?_⟩
            refine ⟨_, ?_, cutS w3 (some (z : Int)) none, cs ++ [cutS w3 none (some (z : Int))], rfl, rfl, ?_, kb3.upd, ?_, ?_, ?_⟩
            · show (cutS w3 (some (z : Int)) none).length < w3.length
              omega
            · rw [List.length_append]
              show _ + (cs.length + 1) ≤ _
              omega
            · rw [upd_same]
              show some (HO.lst ((fo2 ++ cs).map V.str ++ [cutS w3 none (some (z : Int))].map V.str)) = _
              rw [← List.map_append, List.append_assoc]
            · rw [upd_ne nLW.symm]
              exact hLW3
            · rw [hch, chop_step hz hlt (by omega)]
              show (cs ++ (_ :: _), _) = ((cs ++ [_]) ++ _, _)
              rw [List.append_assoc]
              first | done | rfl
          · have hd : decide ((z : Int) < (w3.length : Int)) = false := decide_eq_false (by omega)
            show Y (decide ((z : Int) < (w3.length : Int))) H3
            rw [hd]
            refine hY0 H3 ⟨w3, cs, rfl, kb3, hL3, hLW3, ?_⟩
            rw [hch, chop_zero hlt, List.append_nil]
        rintro _ H3 ⟨w3, cs, rfl, kb3, hL3, hLW3, hch⟩
        rw [hch] at hst
        exact ⟨_, rfl, fin _ _ H3 _ hst.symm kb3 hL3 hLW3⟩
      · rintro σ' H' ⟨r4, r5, rfl, kb, hLh, b1, b2, _⟩
        have ht : (Txt.words x).take ((Txt.words x).map V.str).length = Txt.words x := by rw [List.length_map, List.take_length]
        rw [ht] at hLh b1 b2
        exact ⟨r4, r5, by rw [ht], kb, hLh, by omega, by omega⟩
    rintro _ H2 ⟨r4, r5, rfl, kb, hL2, l1, l2⟩
    refine ⟨_, rfl, rfl, _, rfl, ?_⟩
    rw [neS]
    have sH := kb.new hL0
    refine ite2 (fun hc => ?_) (fun hc => ?_)
    · have hc' := of_decide_eq_true hc
      refine ⟨_, rfl, _, rfl, (by show 1 ≤ sizeLine; decide), fun D hD => ⟨L, D, _, _, rfl, rfl, same_upd hD _ _ hL2, upd_same, (by rw [List.length_map, hz6]; show _ + 1 ≤ _; omega), fun D2 hD2 => k D2 _ (sH.trans (same_upd2 (same_upd hD) hD2)) ?_ ?_⟩⟩
      · cases q : H D2 with
        | none => rfl
        | some o =>
          rw [same_upd hD _ _ (sH _ _ q)] at hD2
          cases hD2
      · rw [upd_same]
        unfold laidF
        rw [if_pos hc', List.map_append]
        rfl
    · have hc' : ¬ ((Txt.words x).foldl (layStep z) ([], "")).2 ≠ "" := fun q => hc (decide_eq_true q)
      refine ⟨_, rfl, k L H2 sH hL0 ?_⟩
      unfold laidF
      rw [if_neg hc']
      exact hL2
end
end K45

namespace K45
open PySem L2 PyProof PyProof.Rows
/-! ### values put in for their names in braces -/
theorem find_c (x : Str) (c a : Nat) (ha : a ≤ x.length) : Txt.find3 x ⟨#[c]⟩ ((a : Nat) : Int) = -1 ∨ ∃ k : Nat, Txt.find3 x ⟨#[c]⟩ ((a : Nat) : Int) = (k : Int) ∧ a ≤ k ∧ k < x.length ∧ x.cps.getD k 0 = c := by
  have hf : fromIndex x.length ((a : Nat) : Int) = a := by
    unfold fromIndex
    split <;> omega
  rcases StrLaws.find3_spec x c ((a : Nat) : Int) with ⟨h, _⟩ | ⟨k, h1, h2, h3, h4, _⟩
  · exact .inl h
  · rw [hf] at h2
    exact .inr ⟨k, h1, h2, h3, h4⟩
theorem cutS_mid (x : Str) (a b : Nat) (hb : b ≤ x.length) (hab : a ≤ b) : (cutS x (some (a : Int)) (some (b : Int))).cps.toList = (x.cps.toList.drop a).take (b - a) := by
  unfold cutS
  have q1 : HT.sIx x.length 0 (some (a : Int)) = min a x.length := HT.sIx_nat x.length 0 a
  have q2 : HT.sIx x.length x.length (some (b : Int)) = min b x.length := HT.sIx_nat x.length x.length b
  rw [q1, q2, Nat.min_eq_left hb, Nat.min_eq_left (Nat.le_trans hab hb)]
theorem cutS_mid_len (x : Str) (a b : Nat) (hb : b ≤ x.length) (hab : a ≤ b) : (cutS x (some (a : Int)) (some (b : Int))).length = b - a := by
  rw [← len_tl, cutS_mid x a b hb hab, List.length_take, List.length_drop, len_tl]
  omega
def fillV (vl : List (Str × Str)) (k : Str) : Option Str := (vl.find? fun p => decide (p.1 = k)).map (·.2)
def kvF (vl : List (Str × Str)) : List (Key × V) := vl.map fun p => (Sum.inr p.1, .str p.2)
theorem val_kvF (k : Str) : ∀ vl : List (Str × Str), valV (kvF vl) (Sum.inr k : Key) = (fillV vl k).map V.str
  | [] => rfl
  | p :: r => by
    unfold fillV valV kvF
    rw [List.map_cons, List.find?_cons, List.find?_cons]
    by_cases h : p.1 = k
    · rw [decide_eq_true h, decide_eq_true (congrArg Sum.inr h)]
      rfl
    · rw [decide_eq_false h, decide_eq_false (fun z => h (Sum.inr.inj z))]
      exact val_kvF k r
def fillG (vl : List (Str × Str)) (x : Str) : Nat → Nat → Str → Str
  | 0, _, found => found
  | n + 1, a, found =>
    if a < x.length then
      if Txt.find3 x "{" (a : Int) < 0 ∨ Txt.find3 x "}" (Txt.find3 x "{" (a : Int)) < 0 then found ++ cutS x (some (a : Int)) none
      else match fillV vl (cutS x (some (Txt.find3 x "{" (a : Int) + 1)) (some (Txt.find3 x "}" (Txt.find3 x "{" (a : Int))))) with
        | some v => fillG vl x n (Txt.find3 x "}" (Txt.find3 x "{" (a : Int)) + 1).toNat (found ++ cutS x (some (a : Int)) (some (Txt.find3 x "{" (a : Int))) ++ v)
        | none => fillG vl x n (Txt.find3 x "{" (a : Int) + 1).toNat (found ++ cutS x (some (a : Int)) (some (Txt.find3 x "{" (a : Int) + 1)))
    else found
def fillF (vl : List (Str × Str)) (x : Str) : Str := fillG vl x (x.length + 1) 0 ""
theorem pair_find (x : Str) (a : Nat) (ha : a ≤ x.length) (h : ¬ (Txt.find3 x "{" (a : Int) < 0 ∨ Txt.find3 x "}" (Txt.find3 x "{" (a : Int)) < 0)) : ∃ s e : Nat, Txt.find3 x "{" (a : Int) = s ∧ Txt.find3 x "}" (s : Int) = e ∧ a ≤ s ∧ s < e ∧ e < x.length := by
  rcases find_c x 123 a ha with q | ⟨s, q1, q2, q3, q4⟩
  · exact absurd (.inl (by show Txt.find3 x ⟨#[123]⟩ (a : Int) < 0; rw [q]; decide)) h
  · have q1' : Txt.find3 x "{" (a : Int) = s := q1
    rcases find_c x 125 s (Nat.le_of_lt q3) with r | ⟨e, r1, r2, r3, r4⟩
    · exact absurd (.inr (by rw [q1']; show Txt.find3 x ⟨#[125]⟩ (s : Int) < 0; rw [r]; decide)) h
    · refine ⟨s, e, q1', r1, q2, ?_, r3⟩
      rcases Nat.lt_or_ge s e with z | z
      · exact z
      · have : e = s := by omega
        subst this
        rw [q4] at r4
        cases r4
def spFill : Sp := fun vs H Q _ => ∃ (x : Str) (d : Addr) (vl : List (Str × Str)), vs = [.str x, .ref d] ∧ H d = some (.dK (kvF vl)) ∧ x.length ≤ 100000 ∧ (∀ p ∈ vl, p.2.length ≤ 100) ∧ ∀ H', Same H H' → (fillF vl x).length ≤ 101 * x.length → Q (.str (fillF vl x)) H'
theorem fillV_mem {vl : List (Str × Str)} {k v : Str} (h : fillV vl k = some v) : ∃ p ∈ vl, p.2 = v := by
  unfold fillV at h
  obtain ⟨p, hp, e⟩ := Option.map_eq_some_iff.mp h
  exact ⟨p, List.mem_of_find?_eq_some hp, e⟩
section
variable {P : Program} {w : World} {K : PySem.W.Frag} {mg : Str → Option Value} {base : Heap}
abbrev nFill : List Str := ["text", "values", "found", "at", "start", "end", "name"]
theorem scFill : FnScope nFill ["text", "values"] (defScope sFilled) := ⟨rfl, rfl, rfl, by decide +kernel, rfl, by decide +kernel, by decide +kernel⟩
theorem ok_fill {f : Addr} {fd : FuncData} (F : Fun K "filled_in" "filled_in" sFilled f fd) (T : TxtB mg) : FnOk P w K mg base CX0 2 f fd ["text", "values"] spFill := by
  refine F.ok scFill (fun vs H Q E h => ?_) (fun cdv A outer s H vs Q E hr h => ?_)
  · obtain ⟨x, d, vl, rfl, _⟩ := h
    rfl
  · obtain ⟨x, d, vl, rfl, hd, hx, hv, k⟩ := h
    have hu1 := hu_of hr
    have hz6 : PySem.sizeLine = 16777216 := PySem.sizeLine_eq
    refine ⟨_, pss_mid (ps_asg (pe_tup (pa_cons pe_str (pa_cons pe_int pa_nil))) (pg_tup rfl (pgs_cons (pg_name (i := 2) scFill.nd rfl (Or.inl rfl)) (pgs_cons (pg_name (i := 3) scFill.nd rfl (Or.inl rfl)) pgs_nil))))
      (pss_mid (ps_while PassesOwn.never (pt_cmpR op_lt (pv 3) (pe_callB call_len_str (by rfl) T.len PySem.boot_len (pa_cons (pv 0) pa_nil)) (nomark _))
        (pss_mid (ps_set (i := 4) scFill.nd rfl (Or.inl rfl) (pe_bm PySem.F.plainAttrs_str PySem.F.slot_str_find PySem.F.type_str_find mt_find3 (pv 0) (pa_cons pe_str (pa_cons (pv 3) pa_nil))))
        (pss_mid (ps_set (i := 5) scFill.nd rfl (Or.inl rfl) (pe_bm PySem.F.plainAttrs_str PySem.F.slot_str_find PySem.F.type_str_find mt_find3 (pv 0) (pa_cons pe_str (pa_cons (pv 4) pa_nil))))
        (pss_mid (ps_if (PW.pt (pw_or (pt_cmpR op_lt (pv 4) pe_int (nomark _)) (pw_or1 (pt_cmpR op_lt (pv 5) pe_int (nomark _))))) (pss_one (ps_ret (pe_op op_add_str (pv 2) (pe_slice sl_str (pv 0) (po_some (pv 3)) po_none)))) pss_nil)
        (pss_mid (ps_set (i := 6) scFill.nd rfl (Or.inl rfl) (pe_slice sl_str (pv 0) (po_some (pe_op op_add (pv 4) pe_int)) (po_some (pv 5))))
        (pss_one (ps_if (pt_cmp (pc_din hu1 (pv 6) (pv 1)) (by rfl))
          (pss_one (ps_par (i := 2) (j := 3) (by rfl) scFill.nd rfl rfl (by decide) rfl rfl (pa_cons (pe_op op_add_str (pe_op op_add_str (pv 2) (pe_slice sl_str (pv 0) (po_some (pv 3)) (po_some (pv 4)))) (pe_dget hu1 (pv 1) (pv 6) (fun _ _ => rfl))) (pa_cons (pe_op op_add (pv 5) pe_int) pa_nil)) (by rfl)))
          (pss_one (ps_par (i := 2) (j := 3) (by rfl) scFill.nd rfl rfl (by decide) rfl rfl (pa_cons (pe_op op_add_str (pv 2) (pe_slice sl_str (pv 0) (po_some (pv 3)) (po_some (pe_op op_add (pv 4) pe_int)))) (pa_cons (pe_op op_add (pv 4) pe_int) pa_nil)) (by rfl))))))))))
      (pss_one (ps_ret (pv 2)))), ?_⟩
    refine ⟨fun σ' H' => σ' = [some (.str x), some (.ref d), some (.str ""), some (.int 0), none, none, none] ∧ Same H H', ?_, ?_⟩
    · exact ⟨(by show 2 ≤ sizeLine; decide), fun t ht => ⟨t, _, rfl, SqT.of upd_same, rfl, _, _, rfl, _, _, rfl, rfl, rfl, same_upd ht⟩⟩
    rintro _ H1 ⟨rfl, e1⟩
    have hd := e1 _ _ hd
    have k := k H1 e1
    refine ⟨fun σ' H' => ∃ r3 r4 r5 r6, σ' = [some (.str x), some (.ref d), some (.str (fillF vl x)), r3, r4, r5, r6] ∧ H1 = H' ∧ (fillF vl x).length ≤ 101 * x.length, ?_, ?_⟩
    · refine while_n (fun n σ' H' => ∃ (a : Nat) (fo : Str) (r4 r5 r6 : Option V), σ' = [some (.str x), some (.ref d), some (.str fo), some (.int a), r4, r5, r6] ∧ H1 = H' ∧ a ≤ x.length ∧ x.length < n + a ∧ fillG vl x n a fo = fillF vl x ∧ fo.length ≤ 101 * a) (x.length + 1) ⟨0, "", none, none, none, rfl, rfl, Nat.zero_le _, by omega, rfl, Nat.zero_le _⟩ ?_
      rintro n σ' H' ⟨a, fo, r4, r5, r6, rfl, rfl, ha, hn, hF, hlen⟩ Y hY1 hY0
      cases n with
      | zero => omega
      | succ n =>
      refine ⟨_, rfl, _, rfl, x, rfl, (by omega), _, _, rfl, rfl, _, rfl, ?_⟩
      by_cases hlt : a < x.length
      · have hdd : decide ((a : Int) < (x.length : Int)) = true := decide_eq_true (by omega)
        show Y (decide ((a : Int) < (x.length : Int))) H1
        rw [hdd]
        refine hY1 H1 ?_
        have hF' : (if Txt.find3 x "{" (a : Int) < 0 ∨ Txt.find3 x "}" (Txt.find3 x "{" (a : Int)) < 0 then fo ++ cutS x (some (a : Int)) none
      else match fillV vl (cutS x (some (Txt.find3 x "{" (a : Int) + 1)) (some (Txt.find3 x "}" (Txt.find3 x "{" (a : Int))))) with
        | some v => fillG vl x n (Txt.find3 x "}" (Txt.find3 x "{" (a : Int)) + 1).toNat (fo ++ cutS x (some (a : Int)) (some (Txt.find3 x "{" (a : Int))) ++ v)
        | none => fillG vl x n (Txt.find3 x "{" (a : Int) + 1).toNat (fo ++ cutS x (some (a : Int)) (some (Txt.find3 x "{" (a : Int) + 1)))) = fillF vl x := by
          rw [← hF]
          show _ = (if a < x.length then _ else fo)
          rw [if_pos hlt]
        refine ⟨fun σ' H' => σ' = [some (.str x), some (.ref d), some (.str fo), some (.int a), some (.int (Txt.find3 x "{" (a : Int))), r5, r6] ∧ H1 = H', ⟨_, rfl, rfl, _, rfl, x, "{", _, rfl, rfl, rfl, rfl⟩, ?_⟩
        rintro _ _ ⟨rfl, rfl⟩
        refine ⟨fun σ' H' => σ' = [some (.str x), some (.ref d), some (.str fo), some (.int a), some (.int (Txt.find3 x "{" (a : Int))), some (.int (Txt.find3 x "}" (Txt.find3 x "{" (a : Int)))), r6] ∧ H1 = H', ⟨_, rfl, rfl, _, rfl, x, "}", _, rfl, rfl, rfl, rfl⟩, ?_⟩
        rintro _ _ ⟨rfl, rfl⟩
        refine ⟨fun σ' H' => σ' = [some (.str x), some (.ref d), some (.str fo), some (.int a), some (.int (Txt.find3 x "{" (a : Int))), some (.int (Txt.find3 x "}" (Txt.find3 x "{" (a : Int)))), r6] ∧ H1 = H' ∧ ¬ (Txt.find3 x "{" (a : Int) < 0 ∨ Txt.find3 x "}" (Txt.find3 x "{" (a : Int)) < 0), ?_, ?_⟩
        · have ret : (Txt.find3 x "{" (a : Int) < 0 ∨ Txt.find3 x "}" (Txt.find3 x "{" (a : Int)) < 0) → Q (.str (fo ++ cutS x (some (a : Int)) none)) H1 ∧ fo.length + (cutS x (some (a : Int)) none).length ≤ PySem.sizeLine := fun hc => by
            rw [if_pos hc] at hF'
            have hl := cutS_from_len x a
            rw [hF']
            refine ⟨k ?_, by omega⟩
            rw [← hF', Str.length_append]
            omega
          refine ⟨_, rfl, _, _, rfl, rfl, _, rfl, ite2 (fun h1 => iteT ?_) (fun h1 => ⟨_, rfl, _, _, rfl, rfl, _, rfl, ite2 (fun h2 => ?_) (fun h2 => ⟨rfl, rfl, fun z => z.elim (fun q => h1 (decide_eq_true q)) (fun q => h2 (decide_eq_true q))⟩)⟩)⟩
          · obtain ⟨q1, q2⟩ := ret (.inl (of_decide_eq_true h1))
            exact ⟨_, rfl, _, rfl, _, rfl, _, rfl, x, rfl, (by omega), _, _, rfl, rfl, q2, q1⟩
          · obtain ⟨q1, q2⟩ := ret (.inr (of_decide_eq_true h2))
            exact ⟨_, rfl, _, rfl, _, rfl, _, rfl, x, rfl, (by omega), _, _, rfl, rfl, q2, q1⟩
        rintro _ _ ⟨rfl, rfl, hno⟩
        rw [if_neg hno] at hF'
        obtain ⟨st, en, e1, e2, c1, c2, c3⟩ := pair_find x a ha hno
        rw [e1] at hF' ⊢
        rw [e2] at hF' ⊢
        have ei : (st : Int) + 1 = ((st + 1 : Nat) : Int) := by omega
        have ej : (en : Int) + 1 = ((en + 1 : Nat) : Int) := by omega
        refine ⟨fun σ' H' => σ' = [some (.str x), some (.ref d), some (.str fo), some (.int a), some (.int st), some (.int en), some (.str (cutS x (some ((st : Int) + 1)) (some (en : Int))))] ∧ H1 = H', ?_, ?_⟩
        · exact ⟨_, rfl, _, rfl, _, _, rfl, rfl, _, rfl, _, rfl, _, rfl, x, rfl, (by omega), rfl, rfl⟩
        rintro _ _ ⟨rfl, rfl⟩
        have hg : DGet H1 d (.str (cutS x (some ((st : Int) + 1)) (some (en : Int)))) ((fillV vl (cutS x (some ((st : Int) + 1)) (some (en : Int)))).map V.str) := by
          rw [← val_kvF]
          exact DGet.k (k := (Sum.inr _ : Key)) hd
        refine ⟨_, rfl, _, rfl, d, _, rfl, hg, _, rfl, ?_⟩
        cases hfv : fillV vl (cutS x (some ((st : Int) + 1)) (some (en : Int))) with
        | some v =>
          rw [hfv] at hF' hg
          have hF2 : fillG vl x n ((en : Int) + 1).toNat (fo ++ cutS x (some (a : Int)) (some (st : Int)) ++ v) = fillF vl x := hF'
          have hc := cutS_mid_len x a st (by omega) c1
          obtain ⟨pv, hpv, ev⟩ := fillV_mem hfv
          have hvl := hv pv hpv
          rw [ev] at hvl
          refine iteT ?_
          refine ⟨_, rfl, _, rfl, _, rfl, _, rfl, _, rfl, _, rfl, x, rfl, (by omega), _, _, rfl, rfl, (by omega), _, rfl, _, rfl, d, _, rfl, hg, _, _, rfl, rfl, (by rw [Str.length_append]; omega), _, rfl, _, _, rfl, rfl, _, _, rfl, ?_⟩
          refine ⟨n, Nat.lt_succ_self n, en + 1, fo ++ cutS x (some (a : Int)) (some (st : Int)) ++ v, some (.int st), some (.int en), some (.str (cutS x (some ((st : Int) + 1)) (some (en : Int)))), ?_, rfl, by omega, by omega, ?_, ?_⟩
          · rw [← ej]
            rfl
          · rw [← hF2]
            have : ((en : Int) + 1).toNat = en + 1 := by omega
            rw [this]
          · rw [Str.length_append, Str.length_append]
            omega
        | none =>
          rw [hfv] at hF' hg
          have hF2 : fillG vl x n ((st : Int) + 1).toNat (fo ++ cutS x (some (a : Int)) (some ((st : Int) + 1))) = fillF vl x := hF'
          have hc := cutS_mid_len x a (st + 1) (by omega) (by omega)
          rw [← ei] at hc
          refine iteF ?_
          refine ⟨_, rfl, _, rfl, _, rfl, _, rfl, _, rfl, _, _, rfl, rfl, _, rfl, x, rfl, (by omega), _, _, rfl, rfl, (by omega), _, rfl, _, _, rfl, rfl, _, _, rfl, ?_⟩
          refine ⟨n, Nat.lt_succ_self n, st + 1, fo ++ cutS x (some (a : Int)) (some ((st : Int) + 1)), some (.int st), some (.int en), some (.str (cutS x (some ((st : Int) + 1)) (some (en : Int)))), ?_, rfl, by omega, by omega, ?_, ?_⟩
          · rw [← ei]
            rfl
          · rw [← hF2]
            have : ((st : Int) + 1).toNat = st + 1 := by omega
            rw [this]
          · rw [Str.length_append]
            omega
      · have hdd : decide ((a : Int) < (x.length : Int)) = false := decide_eq_false (by omega)
        show Y (decide ((a : Int) < (x.length : Int))) H1
        rw [hdd]
        have e : fillF vl x = fo := by
          rw [← hF]
          show (if a < x.length then _ else fo) = fo
          rw [if_neg hlt]
        refine hY0 H1 ⟨_, _, _, _, by rw [e], rfl, by rw [e]; omega⟩
    rintro _ _ ⟨_, _, _, _, rfl, rfl, hl⟩
    exact ⟨_, rfl, k hl⟩
end
end K45

/-! xs[::-1] of a list; a text in place -/
namespace XR
open PySem PySem.Spec PyProof.Rows L2
def tRevL (K : PySem.W.Frag) (te : TE) (tk : TO) : TE := fun σ H Q => te σ H fun x H1 => tk σ H1 fun o H2 => o = some (-1) ∧ ∃ a xs, x = .ref a ∧ SqL K H2 a xs ∧ ∀ p, H2 p = none → Q (.ref p) (upd H2 p (.lst xs.reverse))
theorem vals_reverse : ∀ {xs : List V} {us : List Value}, Vals xs us → Vals xs.reverse us.reverse
  | _, _, .nil => .nil
  | _, _, .cons r t => by
    rw [List.reverse_cons, List.reverse_cons]
    exact (vals_reverse t).append (.cons r .nil)
theorem pe_revL {X : Cx} {e : Expr} {te : TE} {st : Expr} {tk : TO} {pos p2 : Pos} (he : PE X e te) (hk : PO X (some st) tk) (hsub : ∀ a sl : Addr, subscripted (.Slice none none (some st) p2) false (.ref a) (.ref sl) = operate [.ref sl, .ref a] (getItem (.ref a) (.ref sl)) := by intros; with_unfolding_all rfl) : PE X (.Subscript e (.Slice none none (some st) p2) pos) (tRevL X.K te tk) := by
  refine ⟨fun pins s σ H Q I h => ?_⟩
  refine Subscript_ (thn (he.run pins s σ H _ I h) fun v s1 ⟨x, H1, I1, r1, q1⟩ => ?_)
  refine wpAny_Slice ?_
  rw [evalPart_none]
  refine wpAny_pure ?_
  refine wpAny_pure ?_
  refine thn (hk.run pins s1 σ H1 _ I1 q1) fun vk s3 ⟨o, H3, I3, pk, q3⟩ => ?_
  obtain ⟨rfl, a, xs, rfl, hx, q⟩ := q3
  cases r1
  have I4 : Inv X pins σ H3 { s3 with heap := s3.heap.push { cls := .type "slice", data := .fields #[.none, .none, vk] } } := I3.kept (t' := s3.toks) fun b ob q => Heap.get?_push_of_some _ q
  obtain ⟨its, r, ht, hz⟩ := I4.list hx
  have hlen := r.length
  show wpAny (model X.prog X.w) X.A (subscriptTail e (.Slice none none (some st) p2) (.ref a) (.ref s3.heap.objs.size)) (EP X pins σ Q) X.xe { s3 with heap := s3.heap.push { cls := .type "slice", data := .fields #[.none, .none, vk] } }
  refine tail_any (ops := [.ref s3.heap.objs.size, .ref a]) ht.isList.typeIs slot_list_getitem.lookup ?_ (hsub _ _)
  refine wpAny_getItem_list_slice ht.isList (Heap.IsSliceOf.new ..) .none .none pk (by decide) ?_ (by rw [List.size_toArray] <;> omega)
  rw [PySem.W.krv_pick]
  refine ⟨.ref _, _, I4.laid (t' := s3.toks) (o := .lst xs.reverse) (fun b ob q => Heap.get?_push_of_some _ q) (Nat.le_refl _) ?_, rfl, q _ (I4.hok.fresh (Nat.le_refl _))⟩
  exact ⟨by rw [List.length_reverse]; exact hz, _, 0, vals_reverse r, Heap.get?_push_size _ rfl⟩
theorem ip_addS {X : Cx} : PIp X .Add (fun x y H Q => ∃ i j, x = .str i ∧ y = .str j ∧ i.length + j.length ≤ sizeLine ∧ Q (.str (i ++ j)) H) := fun pins s σ H x y v u Q I r1 r2 h => iop_add_str pins s σ H x y v u Q I r1 r2 h
end XR
namespace XR
open PySem PySem.Spec PyProof PyProof.Rows L2
theorem op_mulS {X : Cx} : OpR X (binaryOp .Mult) (fun x y H Q => ∃ a n, x = .str a ∧ y = .int n ∧ MulOk a n ∧ Q (.str (Txt.mul a n)) H) := by
  intro pins s σ H x y v u Q I rx ry h
  obtain ⟨a, n, rfl, rfl, hok, q⟩ := h
  obtain ⟨t, rfl⟩ := rx
  obtain ⟨t', rfl⟩ := ry
  exact SB.mul hok fun t' k => ⟨.str _, H, I.tok _, ⟨_, rfl⟩, q⟩
end XR

/-! while 'text' in x: .. ; in the body a token is out -/
namespace XWhT
open PySem PySem.Spec PyProof.Rows L2 CwR
section
variable {X : Cx} {pos : Pos}
theorem ps_whInT {j : Nat} {c : Str} {o : Expr} {body : List Stmt} {te : TE} {r : R2} {tb : TS} {cpos bpos : Pos} (hp : PassesOwn (model X.prog X.w) X.A X.env X.xe) (ho : OpR X (compareOp .In) r) (he : PE X o te) (hb : PSsT X body tb) (h1 : behindInMarks .In o = false) :
    PS X (.While (.Compare (.Constant (.str c) j cpos) [.In] [o] bpos) body [] pos) (tWhile (tTest (tOp r (tC (.str c)) te)) tb) := by
  refine ⟨fun pins s σ H D I h => ?_⟩
  obtain ⟨W, ⟨m0, w0⟩, turn⟩ := h
  refine wpAny_While (codeAny_whileLoop (fun n s' => ∃ σ' H', Inv X pins σ' H' s' ∧ W n σ' H') ?_ m0 ⟨σ, H, I, w0⟩)
  rintro n s1 ⟨σ1, H1, I1, w1⟩
  have t1 := turn n σ1 H1 w1
  refine wpAny_passesOwn hp (wpAny_isTrue_Compare1 (Calls.Constant_str ?_) h1)
  refine wpAny_mono (PySem.wpAny_toks_of (n := 1) (by show 1 ≤ s1.toks + 1; omega) (he.run pins _ σ1 H1 _ (I1.tok (s1.toks + 1)) t1)) (fun w s2 q => ?_) fun _ _ z => z.2
  obtain ⟨hk, y, H2, I2, r2, q2⟩ := q
  refine wpAny_mono (PySem.wpAny_toks_of hk (ho pins s2 σ1 H2 (.str c) y (.str c s1.toks) w _ I2 ⟨s1.toks, rfl⟩ r2 q2)) (fun v s3 q => ?_) fun _ _ z => z.2
  obtain ⟨hk3, x3, H3, I3, r3, b, eb, q3⟩ := q
  subst eb
  obtain rfl : v = Value.bool b := r3
  refine wpAny_truthy_bool ?_
  cases b with
  | true =>
    obtain ⟨N, hN, q2⟩ := q3
    rw [if_pos rfl]
    refine wpAny_passesOwn hp (thn (hb pins s3 σ1 H3 _ hk3 I3 q2) fun f s3 q3 => ?_)
    cases f with
    | next =>
      obtain ⟨σ3, H3, I3, n3⟩ := q3
      obtain ⟨m', hm, w3⟩ := hN σ3 H3 n3
      exact ⟨m', hm, σ3, H3, I3, w3⟩
    | cont =>
      obtain ⟨σ3, H3, I3, n3⟩ := q3
      obtain ⟨m', hm, w3⟩ := hN σ3 H3 n3
      exact ⟨m', hm, σ3, H3, I3, w3⟩
    | brk => exact q3
    | ret v => exact q3
  | false =>
    rw [if_neg Bool.false_ne_true]
    exact wpAny_execs_nil ⟨σ1, H3, I3, q3⟩
end
end XWhT

namespace K45
open PySem L2 PyProof PyProof.Rows
/-! ### how long lines are -/
def sumL (ls : List Str) : Nat := (ls.map (·.length)).sum
theorem sumL_app (a b : List Str) : sumL (a ++ b) = sumL a + sumL b := by
  unfold sumL
  rw [List.map_append, List.sum_append]
theorem sumL_one (a : Str) : sumL [a] = a.length := by
  unfold sumL
  simp
theorem chop_sum {z : Nat} : ∀ (n : Nat) (w : Str), sumL (chop z n w).1 + (chop z n w).2.length = w.length
  | 0, w => by show 0 + w.length = _; omega
  | n + 1, w => by
    unfold chop
    by_cases h : z < w.length
    · rw [if_pos h]
      have ih := chop_sum (z := z) n (cutS w (some (z : Int)) none)
      have l := cutS_from_len w z
      have l2 : (cutS w none (some (z : Int))).length = z := by
        rw [← len_tl, cutS_to, List.length_take, len_tl]
        omega
      show sumL (_ :: _) + _ = _
      have e : ∀ (x : Str) (xs : List Str), sumL (x :: xs) = x.length + sumL xs := fun x xs => by
        unfold sumL
        rw [List.map_cons, List.sum_cons]
      rw [e, l2]
      show z + sumL (chop z n _).1 + (chop z n _).2.length = _
      omega
    · rw [if_neg h]
      show 0 + w.length = _
      omega
theorem closed_sum (fo : List Str) (li : Str) : sumL (if li ≠ "" then fo ++ [li] else fo) = sumL fo + li.length := by
  by_cases h : li ≠ ""
  · rw [if_pos h, sumL_app, sumL_one]
  · rw [if_neg h]
    have : li = "" := Classical.not_not.mp h
    subst this
    rfl
theorem lay_sum {z : Nat} (st : List Str × Str) (w : Str) : sumL (layStep z st w).1 + (layStep z st w).2.length ≤ sumL st.1 + st.2.length + w.length + 1 := by
  have hsp : (" " : Str).length = 1 := rfl
  unfold layStep
  split
  · show sumL st.1 + (st.2 ++ " " ++ w).length ≤ _
    rw [Str.length_append, Str.length_append, hsp]
    omega
  · split
    · show sumL (_ ++ (chop z _ _).1) + (chop z _ _).2.length ≤ _
      rw [sumL_app, closed_sum]
      have h1 := chop_sum (z := z) w.length (cutS w (some (roomOf z st.2 : Int)) none)
      have h2 := cutS_from_len w (roomOf z st.2)
      have h3 : (filledL z st.2 w).length ≤ st.2.length + 1 + (w.length - (w.length - roomOf z st.2)) := by
        unfold filledL
        rw [Str.length_append]
        split
        · rw [Str.length_append, hsp]
          have h4 : (cutS w none (some (roomOf z st.2 : Int))).length = min (roomOf z st.2) w.length := by
            rw [← len_tl, cutS_to, List.length_take, len_tl]
          omega
        · show st.2.length + 0 ≤ _
          omega
      omega
    · show sumL (_ ++ (chop z _ _).1) + (chop z _ _).2.length ≤ _
      rw [sumL_app, closed_sum]
      have h1 := chop_sum (z := z) w.length w
      omega
theorem fold_sum {z : Nat} : ∀ (ws : List Str) (st : List Str × Str), sumL (ws.foldl (layStep z) st).1 + (ws.foldl (layStep z) st).2.length ≤ sumL st.1 + st.2.length + wsm ws
  | [], st => by
    show _ ≤ _ + 0
    exact Nat.le_refl _
  | w :: ws, st => by
    have ih := fold_sum (z := z) ws (layStep z st w)
    have h := lay_sum (z := z) st w
    have e : wsm (w :: ws) = w.length + 1 + wsm ws := by
      unfold wsm
      rw [List.map_cons, List.sum_cons, List.length_cons]
      omega
    rw [List.foldl_cons, e]
    omega
theorem laid_sum (z : Nat) (ws : List Str) : sumL (laidF z ws) ≤ wsm ws := by
  have h := fold_sum (z := z) ws ([], "")
  have e : sumL ([] : List Str) + ("" : Str).length = 0 := rfl
  unfold laidF
  rw [closed_sum]
  show _ ≤ _
  have h' : sumL (ws.foldl (layStep z) ([], "")).1 + (ws.foldl (layStep z) ([], "")).2.length ≤ (sumL ([] : List Str) + ("" : Str).length) + wsm ws := h
  rw [e] at h'
  omega
theorem fold_len {z : Nat} (hz : 1 ≤ z) : ∀ (ws : List Str) (st : List Str × Str) (n : Nat), st.1.length ≤ n → st.2.length ≤ n → (ws.foldl (layStep z) st).1.length ≤ n + wsm ws
  | [], st, n, h, _ => h
  | w :: ws, st, n, h1, h2 => by
    obtain ⟨a, b⟩ := lay_len hz (w := w) h1 h2
    have ih := fold_len hz ws (layStep z st w) (n + w.length + 1) a b
    have e : wsm (w :: ws) = w.length + 1 + wsm ws := by
      unfold wsm
      rw [List.map_cons, List.sum_cons, List.length_cons]
      omega
    rw [List.foldl_cons, e]
    omega
theorem laid_count {z : Nat} (hz : 1 ≤ z) (ws : List Str) : (laidF z ws).length ≤ wsm ws + 1 := by
  have h := fold_len hz ws ([], "") 0 (Nat.le_refl _) (Nat.le_refl _)
  unfold laidF
  split
  · rw [List.length_append]
    show _ + 1 ≤ _
    omega
  · omega
/-! ### texts described -/
def spcs (ind : Int) : Str := Txt.mul " " ind
def sizeOf (wd ind : Int) : Nat := ((if 11 > wd - ind then 11 else wd - ind) - ind).toNat
def rowsF (x pr : Str) (wd ind : Int) : List Str := laidF (sizeOf wd ind) (Txt.words (fillF [("prog", pr)] x))
def descF (x pr : Str) (wd ind : Int) : Str := Txt.join "\n" ((rowsF x pr wd ind).map fun l => spcs ind ++ l) ++ "\n\n"
structure PrT (CP : Addr) (H : Hp) (p : Addr) (pr : Str) (us ds ep : V) (wd : Int) (aL la le ls : Addr) : Prop where
  ex : ∃ (dx : Addr) (pf cf : Str) (ab ee : Bool) (fi lf dd : Addr), H p = some (.ins CP dx (pFs pr pf cf us ds ep wd ab ee aL fi la lf le dd ls))
theorem PrT.keep {CP : Addr} {H H' : Hp} {p : Addr} {pr : Str} {us ds ep : V} {wd : Int} {aL la le ls : Addr} (h : PrT CP H p pr us ds ep wd aL la le ls) (e : Same H H') : PrT CP H' p pr us ds ep wd aL la le ls := by
  obtain ⟨dx, pf, cf, ab, ee, fi, lf, dd, q⟩ := h.ex
  exact ⟨dx, pf, cf, ab, ee, fi, lf, dd, e _ _ q⟩
def spDesc (K : PySem.W.Frag) (CP : Addr) : Sp := fun vs H Q _ => ∃ (x pr : Str) (p aL la le ls : Addr) (us ds ep : V) (wd ind : Int), vs = [.str x, .ref p, .int ind] ∧ PrT CP H p pr us ds ep wd aL la le ls ∧ (ind = 0 ∨ ind = 2) ∧ 1 ≤ wd ∧ wd ≤ 10000 ∧ x.length ≤ 900 ∧ pr.length ≤ 100 ∧ (∀ H', SqT K H' aL []) ∧ ∀ H', Same H H' → (descF x pr wd ind).length ≤ 401000 → Q (.str (descF x pr wd ind)) H'
theorem str_mul : MulOk " " 0 ∧ MulOk " " 2 ∧ (Txt.mul " " 0).length = 0 ∧ (Txt.mul " " 2).length = 2 := by
  unfold MulOk
  decide +kernel
theorem spcs_len {ind : Int} (h : ind = 0 ∨ ind = 2) : (spcs ind).length ≤ 2 ∧ MulOk " " ind := by
  rcases h with rfl | rfl
  · exact ⟨by show (Txt.mul " " 0).length ≤ 2; rw [str_mul.2.2.1]; decide, str_mul.1⟩
  · exact ⟨by show (Txt.mul " " 2).length ≤ 2; rw [str_mul.2.2.2]; decide, str_mul.2.1⟩
theorem sum_pre (ind : Int) (h : ind = 0 ∨ ind = 2) : ∀ ls : List Str, ((ls.map fun l => spcs ind ++ l).map (·.length)).sum ≤ sumL ls + 2 * ls.length
  | [] => Nat.zero_le _
  | l :: ls => by
    have ih := sum_pre ind h ls
    have := (spcs_len h).1
    have e : sumL (l :: ls) = l.length + sumL ls := by
      unfold sumL
      rw [List.map_cons, List.sum_cons]
    rw [List.map_cons, List.map_cons, List.sum_cons, Str.length_append, e, List.length_cons]
    omega
theorem join_len (a : Str) (ys : List Str) : (Txt.join a ys).length ≤ (ys.map (·.length)).sum + ys.length * a.length := by
  show (Builtin.Str.glued a ys).length ≤ _
  rw [StrLaws.glued_eq_join]
  exact StrLaws.join_length_le a ys
section
variable {P : Program} {w : World} {K : PySem.W.Frag} {mg : Str → Option Value} {base : Heap}
abbrev nDesc : List Str := ["text", "parser", "indent", "lines", "line"]
theorem scDesc : FnScope nDesc ["text", "parser", "indent"] (defScope sDescribed) := ⟨rfl, rfl, rfl, by decide +kernel, rfl, by decide +kernel, by decide +kernel⟩
theorem ok_desc {f fF fL CP : Addr} {fd fdF fdL : FuncData} (F : Fun K "described" "described" sDescribed f fd) (T : TxtB mg) (zMax : mg "max" = none) (cP : ClsN K CP parF) (Fi : At P w K mg base "filled_in" 2 ["text", "values"] spFill fF fdF) (La : At P w K mg base "laid_out" 1 ["text", "size"] spLaid fL fdL) :
    FnOk P w K mg base CX0 3 f fd ["text", "parser", "indent"] (spDesc K CP) := by
  refine F.ok scDesc (fun vs H Q E h => ?_) (fun cdv A outer s H vs Q E hr h => ?_)
  · obtain ⟨x, pr, p, aL, la, le, ls, us, ds, ep, wd, ind, rfl, _⟩ := h
    rfl
  · obtain ⟨x, pr, p, aL, la, le, ls, us, ds, ep, wd, ind, rfl, hp, hind, hw1, hw2, hx, hpr, hL, k⟩ := h
    have hz6 : PySem.sizeLine = 16777216 := PySem.sizeLine_eq
    have r1 : Room 1 (A.deeper (PyProof.Rows.envOfC "described" (defScope sDescribed) s.heap.objs.size f cdv)) := hr.mono (by decide)
    obtain ⟨dx, pf, cf, ab, ee, fi, lf, dd, hP⟩ := hp.ex
    refine ⟨_, pss_mid (ps_set (i := 0) scDesc.nd rfl (Or.inl rfl) (pe_call Fi.ok hr rfl Fi.m Fi.k Fi.b .nil pass0 (pa_cons (pv 0) (pa_cons (pe_disp (pps_cons pe_str (pe_fld (pv 1) rfl) pps_nil) (by rfl) (by rfl) (fun z => by cases z) (by decide)) pa_nil))))
      (pss_mid (ps_if (PW.pt (pw_or (pt_cmpR op_in_seq pe_str (pe_fld (pv 1) rfl) (by rfl)) (pw_or1 (pt_cmpR op_in_seq pe_str (pe_fld (pv 1) rfl) (by rfl))))) pss_never
        (pss_one (ps_set (i := 3) scDesc.nd rfl (Or.inl rfl) (pe_call La.ok r1 rfl La.m La.k La.b .nil pass0 (pa_cons (pv 0) (pa_cons (pe_op op_sub (pe_callB (call_max2 rfl) (by rfl) zMax (by decide +kernel) (pa_cons (pe_op op_sub (pe_fld (pv 1) rfl) (pv 2)) (pa_cons pe_int pa_nil))) (pv 2)) pa_nil))))))
      (pss_one (ps_ret (pe_op op_add_str (pe_bm PySem.F.plainAttrs_str PySem.F.slot_str_join PySem.F.type_str_join mt_join pe_str (pa_cons (pe_lc (own := [("line", 4)]) (g := gName 4) (tt := tYes) (te := tOp _ (tOp _ (tC (.str " ")) (tVar 2)) (tVar 4)) rfl scDesc.nd (pi_list (pv 3)) (blkOk_by (N := nDesc) (sc := defScope sDescribed) (by decide +kernel)) (fun _ _ _ _ _ => pg_name (i := 4) scDesc.nd rfl (Or.inl rfl)) (fun _ _ _ _ _ => pts_nil) (fun _ _ _ _ _ => pe_op op_add_str (pe_op XR.op_mulS pe_str (pv 2)) (pv 4))) pa_nil)) pe_str)))), ?_⟩
    refine ⟨fun σ' H' => σ' = [some (.str (fillF [("prog", pr)] x)), some (.ref p), some (.int ind), none, none] ∧ Same H H' ∧ (fillF [("prog", pr)] x).length ≤ 101 * x.length, ?_, ?_⟩
    · refine ⟨_, rfl, fun q hq => ?_⟩
      have eq := same_upd (o := .dK []) hq
      refine ⟨_, rfl, p, CP, dx, _, _, rfl, eq _ _ hP, cP.cl, cP.no _ (by decide +kernel), rfl, upd_same, [(Sum.inr "prog", .str pr)], rfl, (by show 1 ≤ 15; decide), ?_⟩
      have e2 : Same H (upd (upd H q (.dK [])) q (.dK (mergeK [] [((Sum.inr ("prog" : Str) : Key), .str pr)]))) := same_mut eq hq
      exact ⟨x, q, [("prog", pr)], rfl, upd_same, (by omega), (fun y hy => by rw [List.mem_singleton.mp hy]; exact hpr), fun H' e hl => ⟨rfl, e2.trans e, hl⟩⟩
    rintro _ H1 ⟨rfl, e1, hl1⟩
    have hP1 := e1 _ _ hP
    have hsz : 1 ≤ sizeOf wd ind ∧ sizeOf wd ind ≤ 100000 ∧ ((if 11 > wd - ind then 11 else wd - ind) - ind : Int) = (sizeOf wd ind : Nat) := by
      unfold sizeOf
      rcases hind with rfl | rfl
      · split <;> omega
      · split <;> omega
    have hwt : wsm (Txt.words (fillF [("prog", pr)] x)) ≤ (fillF [("prog", pr)] x).length + 1 := StrLaws.words_weight _
    have hsum := laid_sum (sizeOf wd ind) (Txt.words (fillF [("prog", pr)] x))
    have hcnt := laid_count hsz.1 (Txt.words (fillF [("prog", pr)] x))
    refine ⟨fun σ' H' => ∃ D, H1 D = none ∧ σ' = [some (.str (fillF [("prog", pr)] x)), some (.ref p), some (.int ind), some (.ref D), none] ∧ Same H1 H' ∧ H' D = some (.lst ((rowsF x pr wd ind).map V.str)), ?_, ?_⟩
    · refine ⟨_, rfl, p, CP, dx, _, _, rfl, hP1, cP.cl, cP.no _ (by decide +kernel), rfl, aL, [], rfl, .inr (hL _), rfl, rfl, _, rfl, iteF ?_⟩
      refine ⟨_, rfl, p, CP, dx, _, _, rfl, hP1, cP.cl, cP.no _ (by decide +kernel), rfl, aL, [], rfl, .inr (hL _), rfl, rfl, _, rfl, iteF ?_⟩
      refine ⟨_, rfl, _, rfl, p, CP, dx, _, _, rfl, hP1, cP.cl, cP.no _ (by decide +kernel), rfl, _, rfl, _, _, rfl, rfl, _, _, rfl, _, rfl, _, _, rfl, rfl, ?_⟩
      exact ⟨_, sizeOf wd ind, congrArg (fun i => [V.str (fillF [("prog", pr)] x), V.int i]) hsz.2.2, hsz.1, hsz.2.1, (by omega), fun D H' e hD h => ⟨D, hD, rfl, e, h⟩⟩
    rintro _ H2 ⟨D, hD0, rfl, e2, hD⟩
    have hsp := spcs_len hind
    have hrl : (rowsF x pr wd ind).length ≤ 100002 := by
      unfold rowsF
      omega
    refine ⟨rfl, _, rfl, D, rfl, ⟨_, SqL.of hD⟩, fun D2 hD2 => ?_⟩
    refine lc_list (K := K) (a := D) (xs := (rowsF x pr wd ind).map V.str) (fun i H' => Same H2 H' ∧ H' D2 = some (.lst ((((rowsF x pr wd ind).take i).map fun l => spcs ind ++ l).map V.str))) ⟨same_upd hD2, upd_same⟩ (fun i H' _ h => SqL.of (h.1 _ _ hD)) (fun i y H' hy h => ?_) (fun H' h => ?_)
    · obtain ⟨l, hl, rfl⟩ := str_at hy
      obtain ⟨h1, h2⟩ := h
      have hi : i < (rowsF x pr wd ind).length := (List.getElem?_eq_some_iff.mp hl).1
      have hll : l.length ≤ 100002 := by
        have h4 : ∀ (ls : List Str) (i : Nat) (l : Str), ls[i]? = some l → l.length ≤ sumL ls := fun ls => by
          induction ls with
          | nil => intro i l e; simp at e
          | cons a ls ih =>
            intro i l e
            have ec : sumL (a :: ls) = a.length + sumL ls := by
              unfold sumL
              rw [List.map_cons, List.sum_cons]
            cases i with
            | zero =>
              simp at e
              subst e
              omega
            | succ i =>
              have := ih i l (by simpa using e)
              omega
        have := h4 _ _ _ hl
        unfold rowsF at this
        omega
      refine ⟨rfl, _, rfl, _, _, rfl, rfl, hsp.2, _, rfl, _, _, rfl, rfl, (by have := hsp.1; unfold spcs at this; omega), _, h2, (by rw [List.length_map, List.length_map, List.length_take]; omega), same_mut h1 hD2, ?_⟩
      rw [upd_same, take_more' hl, List.map_append, List.map_append]
      rfl
    · obtain ⟨h1, h2⟩ := h
      rw [List.length_map, List.take_length] at h2
      have hs2 := sum_pre ind hind (rowsF x pr wd ind)
      have hs3 : sumL (rowsF x pr wd ind) ≤ 100002 := by
        unfold rowsF
        omega
      have hjl : ("\n" : Str).length = 1 := rfl
      have hj := join_len "\n" ((rowsF x pr wd ind).map fun l => spcs ind ++ l)
      rw [List.length_map, hjl] at hj
      refine ⟨"\n", D2, (rowsF x pr wd ind).map (fun l => spcs ind ++ l), rfl, rfl, .inl (SqL.of h2), (by rw [List.length_map, hjl]; omega), ?_⟩
      have hn2 : ("\n\n" : Str).length = 2 := rfl
      refine ⟨_, _, rfl, rfl, (by rw [hn2]; omega), k H' (e1.trans (e2.trans h1)) ?_⟩
      unfold descF
      rw [Str.length_append, hn2]
      omega
/-! ### line feeds squeezed -/
def SqTo : Nat → Str → Str → Prop
  | 0, x, y => (!(Builtin.Str.occurrences x "\n\n\n" 0 x.length 1).isEmpty) = false ∧ y = x
  | n + 1, x, y => (!(Builtin.Str.occurrences x "\n\n\n" 0 x.length 1).isEmpty) = true ∧ (Txt.replace x "\n\n\n" "\n\n").length ≤ 5000000 ∧ SqTo n (Txt.replace x "\n\n\n" "\n\n") y
def spSq : Sp := fun vs H Q _ => ∃ (x y : Str) (n : Nat), vs = [.str x] ∧ SqTo n x y ∧ x.length ≤ 5000000 ∧ Q (.str (Txt.stripChars y "\n" ++ "\n")) H
theorem sq_end : ∀ {n : Nat} {x y : Str}, SqTo n x y → x.length ≤ 5000000 → y.length ≤ 5000000
  | 0, x, y, h, hx => by
    rw [h.2]
    exact hx
  | n + 1, x, y, h, _ => sq_end h.2.2 h.2.1
theorem scSq : FnScope ["text"] ["text"] (defScope sSqueezed) := ⟨rfl, rfl, rfl, by decide +kernel, rfl, by decide +kernel, by decide +kernel⟩
theorem ok_sq {f : Addr} {fd : FuncData} (F : Fun K "squeezed" "squeezed" sSqueezed f fd) : FnOk P w K mg base CX0 1 f fd ["text"] spSq := by
  refine F.ok scSq (fun vs H Q E h => ?_) (fun cdv A outer s H vs Q E hr h => ?_)
  · obtain ⟨x, y, n, rfl, _⟩ := h
    rfl
  · obtain ⟨x, y, n, rfl, hs, hx, k⟩ := h
    have hz6 : PySem.sizeLine = 16777216 := PySem.sizeLine_eq
    refine ⟨_, pss_mid (XWhT.ps_whInT PassesOwn.never op_in_str (pv 0) (CwR.psst_one (XTok.pst_set (i := 0) scSq.nd rfl (Or.inl rfl) (CwR.pet_replC (pv 0)))) (by rfl))
      (pss_one (ps_ret (pe_op op_add_str (pe_bm PySem.F.plainAttrs_str PySem.F.slot_str_strip PySem.F.type_str_strip mt_stripChars (pv 0) (pa_cons pe_str pa_nil)) pe_str))), ?_⟩
    refine ⟨fun σ' H' => σ' = [some (.str y)] ∧ H = H', ?_, ?_⟩
    · refine while_n (fun m σ' H' => ∃ x', σ' = [some (.str x')] ∧ H = H' ∧ SqTo m x' y ∧ x'.length ≤ 5000000) n ⟨x, rfl, rfl, hs, hx⟩ ?_
      rintro m σ' H' ⟨x', rfl, rfl, hs', hx'⟩ Y hY1 hY0
      refine ⟨_, rfl, _, _, rfl, rfl, _, rfl, ?_⟩
      cases m with
      | zero =>
        obtain ⟨h1, h2⟩ := hs'
        show Y (!(Builtin.Str.occurrences x' "\n\n\n" 0 x'.length 1).isEmpty) H
        rw [h1]
        exact hY0 H ⟨by rw [h2], rfl⟩
      | succ m =>
        obtain ⟨h1, h2, h3⟩ := hs'
        show Y (!(Builtin.Str.occurrences x' "\n\n\n" 0 x'.length 1).isEmpty) H
        rw [h1]
        have hn2 : ("\n\n" : Str).length = 2 := rfl
        exact hY1 H ⟨_, rfl, x', rfl, (by rw [hn2]; omega), m, Nat.lt_succ_self m, _, rfl, rfl, h3, h2⟩
    rintro _ _ ⟨rfl, rfl⟩
    have hy := sq_end hs hx
    have hst : (Txt.stripChars y "\n").length ≤ y.length := by
      unfold Txt.stripChars Txt.stripBy
      split
      · exact Nat.le_refl _
      · unfold stripped
        rw [← len_tl, StrLaws.strSub_toList, List.length_take, List.length_drop, len_tl]
        omega
    have hn1 : ("\n" : Str).length = 1 := rfl
    exact ⟨_, rfl, rfl, y, "\n", rfl, rfl, (by omega), _, _, rfl, rfl, (by rw [hn1]; omega), k⟩
end
end K45

namespace K45
open PySem L2 PyProof PyProof.Rows
/-! ### the usage of a parser without arguments -/
theorem pts_never {X : Cx} {cs : List Expr} : PTs X cs (fun _ _ _ => False) := ⟨fun _ _ _ _ _ _ h => h.elim⟩
theorem pg_never {X : Cx} {e : Expr} : PG X e (fun _ _ _ _ => False) := ⟨fun _ _ _ _ _ _ _ _ _ h => h.elim⟩
theorem lc0 {K : PySem.W.Frag} {a : Addr} {g : TG} {tt : TT} {te : TE} {vs : List Nat} {σ : L2.St} {H1 : Hp} {D : Addr} {Qd : Hp → Prop} (ha : H1 a = some (.lst [])) (hD : H1 D = none) (hq : ∀ H', Same H1 H' → H' D = some (.lst []) → Qd H') :
    ∃ W : Nat → Nat → Hp → Prop, (∃ m, W 0 m (upd H1 D (.lst []))) ∧ ∀ i m H, W i m H →
      ((Itl K a).stop i H ∧ Qd H) ∨ ((Itl K a).go i H ∧ ∃ Nx : Hp → Prop, (∀ H', Nx H' → ∃ m', m' < m ∧ W (i + 1) m' H') ∧ ∀ x H', (Itl K a).yld i H x H' → g x (wipe σ vs) H' fun σ2 H2 => wipe σ2 vs = wipe σ vs ∧ tt σ2 H2 fun b H3 =>
        if b = true then te σ2 H3 fun y H4 => ∃ acc, H4 D = some (.lst acc) ∧ acc.length < sizeLine ∧ Nx (upd H4 D (.lst (acc ++ [y]))) else Nx H3) :=
  lc_list (K := K) (a := a) (xs := []) (fun _ H' => Same H1 H' ∧ H' D = some (.lst [])) ⟨same_upd hD, upd_same⟩ (fun _ H' _ h => SqL.of (h.1 _ _ ha)) (fun i x H' hx h => by simp at hx) (fun H' h => hq H' h.1 h.2)
def spTaken0 : Sp := fun vs H Q _ => ∃ (x : Str) (a : Addr) (ind sz : Int), vs = [.str x, .ref a, .int ind, .int sz] ∧ H a = some (.lst []) ∧ ∀ (D : Addr) (H' : Hp), Same H H' → H' D = some (.lst (if x ≠ "" then [.str x] else [])) → Q (.ref D) H'
def spLines0 : Sp := fun vs H Q _ => ∃ (x : Str) (a b : Addr) (sz : Nat), vs = [.str x, .ref a, .ref b, .int sz] ∧ x ≠ "" ∧ x.length ≤ 1000 ∧ H a = some (.lst []) ∧ H b = some (.lst []) ∧ ∀ (D : Addr) (H' : Hp), Same H H' → H' D = some (.lst [.str x]) → Q (.ref D) H'
def spParts0 : Sp := fun vs H Q _ => ∃ (a b : Addr) (v : V), vs = [.ref a, .ref b, v] ∧ H a = some (.lst []) ∧ H b = some (.lst []) ∧ ∀ (D : Addr) (H' : Hp), Same H H' → H' D = some (.lst []) → Q (.ref D) H'
def spUsage0 (K : PySem.W.Frag) (CP : Addr) : Sp := fun vs H Q _ => ∃ (p aL la le ls : Addr) (pr : Str) (ds ep : V) (wd : Nat), vs = [.ref p] ∧ PrT CP H p pr .non ds ep wd aL la le ls ∧ H la = some (.lst []) ∧ H le = some (.lst []) ∧ pr.length ≤ 100 ∧ wd ≤ 10000 ∧ ∀ H', Same H H' → Q (.str ("usage: " ++ pr)) H'
section
variable {P : Program} {w : World} {K : PySem.W.Frag} {mg : Str → Option Value} {base : Heap}
abbrev nTak : List Str := ["first", "parts", "indent", "size", "found", "line", "part"]
theorem scTak : FnScope nTak ["first", "parts", "indent", "size"] (defScope sTaken) := ⟨rfl, rfl, rfl, by decide +kernel, rfl, by decide +kernel, by decide +kernel⟩
theorem ok_taken0 {f : Addr} {fd : FuncData} (F : Fun K "taken" "taken" sTaken f fd) : FnOk P w K mg base CX0 1 f fd ["first", "parts", "indent", "size"] spTaken0 := by
  refine F.ok scTak (fun vs H Q E h => ?_) (fun cdv A outer s H vs Q E hr h => ?_)
  · obtain ⟨x, a, ind, sz, rfl, _⟩ := h
    rfl
  · obtain ⟨x, a, ind, sz, rfl, ha, k⟩ := h
    refine ⟨_, pss_mid (ps_par (i := 4) (j := 5) (by rfl) scTak.nd rfl rfl (by decide) rfl rfl (pa_cons (pe_lst pa_nil) (pa_cons (pv 0) pa_nil)) (by rfl))
      (pss_mid (ps_for PassesOwn.never rfl (pi_list (pv 1)) (pg_name (i := 6) scTak.nd rfl (Or.inl rfl)) pss_never)
      (pss_one (ps_ret (pe_ifExp (pt_cmpR op_ne (pv 5) pe_str (nomark _)) (pe_op op_cat (pv 4) (pe_lst (pa_cons (pv 5) pa_nil))) (pv 4))))), ?_⟩
    refine ⟨fun σ' H' => ∃ D, σ' = [some (.str x), some (.ref a), some (.int ind), some (.int sz), some (.ref D), some (.str x), none] ∧ Same H H' ∧ H' D = some (.lst []), ?_, ?_⟩
    · exact ⟨(by show 0 ≤ sizeLine; decide), fun D hD => ⟨_, rfl, _, _, rfl, D, rfl, same_upd hD, upd_same⟩⟩
    rintro _ H1 ⟨D, rfl, e1, hD⟩
    refine ⟨fun σ' H' => σ' = [some (.str x), some (.ref a), some (.int ind), some (.int sz), some (.ref D), some (.str x), none] ∧ H1 = H', ?_, ?_⟩
    · refine ⟨_, rfl, a, rfl, ⟨_, SqL.of (e1 _ _ ha)⟩, ?_⟩
      refine for_list (K := K) (a := a) (xs := []) (g := gName 6) (tb := fun _ _ _ => False) (D := { nx := fun σ' H' => σ' = [some (.str x), some (.ref a), some (.int ind), some (.int sz), some (.ref D), some (.str x), none] ∧ H1 = H', rt := Q }) (fun _ σ' H' => σ' = [some (.str x), some (.ref a), some (.int ind), some (.int sz), some (.ref D), some (.str x), none] ∧ H1 = H') ⟨rfl, rfl⟩ ?_ ?_ ?_
      · exact fun i σ' H' _ h => by
          rw [← h.2]
          exact SqL.of (e1 _ _ ha)
      · exact fun i y σ' H' hy h => by simp at hy
      · exact fun σ' H' h => h
    rintro _ _ ⟨rfl, rfl⟩
    refine ⟨_, rfl, rfl, _, rfl, ?_⟩
    rw [neS]
    refine ite2 (fun hc => ?_) (fun hc => ?_)
    · refine ⟨_, rfl, _, rfl, (by show 1 ≤ sizeLine; decide), fun D2 hD2 => ⟨D, D2, _, _, rfl, rfl, same_upd hD2 _ _ hD, upd_same, (by show 0 + 1 ≤ sizeLine; decide), fun D3 hD3 => k D3 _ (e1.trans (same_upd2 (same_upd hD2) hD3)) ?_⟩⟩
      rw [upd_same, if_pos (of_decide_eq_true hc)]
      rfl
    · refine ⟨_, rfl, k D H1 e1 ?_⟩
      rw [hD, if_neg (fun q => hc (decide_eq_true q))]
abbrev nUL : List Str := ["start", "options", "positionals", "size", "indent", "lines"]
theorem scUL : FnScope nUL ["start", "options", "positionals", "size"] (defScope sUsageLines) := ⟨rfl, rfl, rfl, by decide +kernel, rfl, by decide +kernel, by decide +kernel⟩
theorem ok_lines0 {f fT : Addr} {fd fdT : FuncData} {tn : Tok} (F : Fun K "usage_lines" "usage_lines" sUsageLines f fd) (T : TxtB mg) (hS : mg "START" = some (.str "usage: " tn)) (Tk : At P w K mg base "taken" 1 ["first", "parts", "indent", "size"] spTaken0 fT fdT) : FnOk P w K mg base CX0 2 f fd ["start", "options", "positionals", "size"] spLines0 := by
  refine F.ok scUL (fun vs H Q E h => ?_) (fun cdv A outer s H vs Q E hr h => ?_)
  · obtain ⟨x, a, b, sz, rfl, _⟩ := h
    rfl
  · obtain ⟨x, a, b, sz, rfl, hx, hxl, ha, hb, k⟩ := h
    have hz6 : PySem.sizeLine = 16777216 := PySem.sizeLine_eq
    refine ⟨_, pss_cons (ps_if (pt_cmpR op_le (pe_op op_mulN pe_int (pe_callB call_len_str (by rfl) T.len PySem.boot_len (pa_cons (pv 0) pa_nil))) (pe_op op_mulN pe_int (pv 3)) (nomark _))
        (pss_cons (ps_set (i := 4) scUL.nd rfl (Or.inl rfl) (pe_op op_add (pe_callB call_len_str (by rfl) T.len PySem.boot_len (pa_cons (pv 0) pa_nil)) pe_int))
        (pss_cons (ps_if (pt_cmpR op_eq (pe_callB call_len_seq (by rfl) T.len PySem.boot_len (pa_cons (pv 1) pa_nil)) pe_int (nomark _)) (pss_one (ps_ret (pe_call Tk.ok hr rfl Tk.m Tk.k Tk.b .nil pass0 (pa_cons (pv 0) (pa_cons (pv 2) (pa_cons (pv 4) (pa_cons (pv 3) pa_nil))))))) pss_nil)
        (pss_one (ps_ret pe_never)))) pss_nil)
      (pss_mid (ps_set (i := 5) scUL.nd rfl (Or.inl rfl) (pe_call Tk.ok hr rfl Tk.m Tk.k Tk.b .nil pass0 (pa_cons pe_str (pa_cons (pe_op op_cat (pv 1) (pv 2)) (pa_cons (pe_callB call_len_str (by rfl) T.len PySem.boot_len (pa_cons (pe_glob (v := .str "usage: ") rfl hS ⟨tn, rfl⟩) pa_nil)) (pa_cons (pv 3) pa_nil))))))
      (pss_cons (ps_if (pt_cmpR op_gt (pe_callB call_len_seq (by rfl) T.len PySem.boot_len (pa_cons (pv 5) pa_nil)) pe_int (nomark _)) pss_never pss_nil)
      (pss_one (ps_ret (pe_op op_cat (pe_lst (pa_cons (pv 0) pa_nil)) (pv 5)))))), ?_⟩
    refine ⟨_, rfl, x, rfl, (by omega), 4, x.length, rfl, rfl, (by decide), _, rfl, 3, sz, rfl, rfl, (by decide), _, _, rfl, rfl, _, rfl, ?_⟩
    refine ite2 (fun _ => ?_) (fun _ => ?_)
    · refine ⟨_, rfl, x, rfl, (by omega), _, _, rfl, rfl, ?_⟩
      refine ⟨_, rfl, a, [], rfl, .inl (SqL.of ha), rfl, _, rfl, ite2 (fun _ => ?_) (fun zz => absurd rfl zz)⟩
      refine ⟨_, rfl, _, rfl, _, rfl, _, rfl, x, b, _, _, rfl, hb, fun D H' e h => k D H' e ?_⟩
      rw [h, if_pos hx]
    · refine ⟨fun σ' H' => ∃ D, σ' = [some (.str x), some (.ref a), some (.ref b), some (.int sz), none, some (.ref D)] ∧ Same H H' ∧ H' D = some (.lst []), ?_, ?_⟩
      · refine ⟨_, rfl, _, rfl, a, b, _, _, rfl, rfl, ha, hb, (by show 0 + 0 ≤ sizeLine; decide), fun D2 hD2 => ?_⟩
        refine ⟨_, rfl, (by rw [hz6]; decide), _, rfl, "", D2, _, _, rfl, upd_same, fun D H' e h => ⟨D, rfl, (same_upd hD2).trans e, ?_⟩⟩
        rw [h, if_neg (fun q => q rfl)]
      rintro _ H1 ⟨D, rfl, e1, hD⟩
      refine ⟨_, rfl, D, [], rfl, .inl (SqL.of hD), _, _, rfl, rfl, _, rfl, iteF ?_⟩
      exact ⟨_, rfl, (by show 1 ≤ sizeLine; decide), fun D2 hD2 => ⟨_, rfl, D2, D, _, _, rfl, rfl, upd_same, same_upd hD2 _ _ hD, (by show 1 + 0 ≤ sizeLine; decide), fun D3 hD3 => k D3 _ (e1.trans (same_upd2 (same_upd hD2) hD3)) (by rw [upd_same]; rfl)⟩⟩
end
end K45

namespace K45
open PySem L2 PyProof PyProof.Rows
section
variable {P : Program} {w : World} {K : PySem.W.Frag} {mg : Str → Option Value} {base : Heap}
abbrev nPO : List Str := ["arguments", "exclusives", "layout", "parts", "group", "places", "at", "signs", "argument", "part"]
theorem scPO : FnScope nPO ["arguments", "exclusives", "layout"] (defScope sPartsOf) := ⟨rfl, rfl, rfl, by decide +kernel, rfl, by decide +kernel, by decide +kernel⟩
theorem ok_parts0 {f : Addr} {fd : FuncData} (F : Fun K "parts_of" "parts_of" sPartsOf f fd) (T : TxtB mg) : FnOk P w K mg base CX0 1 f fd ["arguments", "exclusives", "layout"] spParts0 := by
  refine F.ok scPO (fun vs H Q E h => ?_) (fun cdv A outer s H vs Q E hr h => ?_)
  · obtain ⟨a, b, v, rfl, _⟩ := h
    rfl
  · obtain ⟨a, b, v, rfl, ha, hb, k⟩ := h
    refine ⟨_, pss_mid (ps_setLc (i := 3) (own := [("argument", 8)]) (g := gName 8) (tt := tYes) (te := fun _ _ _ => False) rfl scPO.nd rfl rfl (sw_true rfl rfl rfl (by decide +kernel)) (pi_list (pv 0)) (blkOk_by (N := nPO) (sc := defScope sPartsOf) (by decide +kernel)) (fun _ _ _ _ _ => pg_name (i := 8) scPO.nd rfl (Or.inl rfl)) (fun _ _ _ _ _ => pts_nil) (fun _ _ _ _ _ => by exact pe_never))
      (pss_mid (ps_for PassesOwn.never rfl (pi_list (pv 1)) (pg_name (i := 4) scPO.nd rfl (Or.inl rfl)) pss_never)
      (pss_one (ps_ret (pe_lc (own := [("argument", 8), ("part", 9)]) (g := gTup K 2 (gCons (gName 8) (gCons (gName 9) gNil))) (tt := fun _ _ _ => False) (te := fun _ _ _ => False) rfl scPO.nd (RZ.pi_zipA (by rfl) T.zip (pa_cons (pv 0) (pa_cons (pv 3) pa_nil))) (blkOk_by (N := nPO) (sc := defScope sPartsOf) (by decide +kernel)) (fun _ _ _ _ _ => pg_tup rfl (pgs_cons (pg_name (i := 8) scPO.nd rfl (Or.inl rfl)) (pgs_cons (pg_name (i := 9) scPO.nd rfl (Or.inl rfl)) pgs_nil))) (fun _ _ _ _ _ => pts_never) (fun _ _ _ _ _ => by exact pe_never))))), ?_⟩
    refine ⟨fun σ' H' => ∃ D, σ' = [some (.ref a), some (.ref b), some v, some (.ref D), none, none, none, none, none, none] ∧ Same H H' ∧ H' D = some (.lst []), ?_, ?_⟩
    · refine ⟨_, rfl, a, rfl, ⟨_, SqL.of ha⟩, fun D hD => ?_⟩
      exact lc0 (K := K) (a := a) (g := gName 8) (tt := tYes) (te := fun _ _ _ => False) (vs := [8]) ha hD fun H' e h => ⟨D, rfl, e, h⟩
    rintro _ H1 ⟨D, rfl, e1, hD⟩
    refine ⟨fun σ' H' => σ' = [some (.ref a), some (.ref b), some v, some (.ref D), none, none, none, none, none, none] ∧ H1 = H', ?_, ?_⟩
    · refine ⟨_, rfl, b, rfl, ⟨_, SqL.of (e1 _ _ hb)⟩, ?_⟩
      refine for_list (K := K) (a := b) (xs := []) (g := gName 4) (tb := fun _ _ _ => False) (D := { nx := fun σ' H' => σ' = [some (.ref a), some (.ref b), some v, some (.ref D), none, none, none, none, none, none] ∧ H1 = H', rt := Q }) (fun _ σ' H' => σ' = [some (.ref a), some (.ref b), some v, some (.ref D), none, none, none, none, none, none] ∧ H1 = H') ⟨rfl, rfl⟩ ?_ ?_ ?_
      · exact fun i σ' H' _ h => by
          rw [← h.2]
          exact SqL.of (e1 _ _ hb)
      · exact fun i y σ' H' hy h => by simp at hy
      · exact fun σ' H' h => h
    rintro _ _ ⟨rfl, rfl⟩
    refine ⟨_, rfl, _, rfl, a, D, [], [], rfl, .inl ⟨SqL.of (e1 _ _ ha), SqL.of hD, fun D2 hD2 => ?_⟩⟩
    refine lc_it (walk_zip (K := K) (a := a) (b := D) (xs := []) (ys := []) (n := 0) rfl) (g := gTup K 2 (gCons (gName 8) (gCons (gName 9) gNil))) (tt := fun _ _ _ => False) (te := fun _ _ _ => False) (vs := [8, 9]) (fun _ H' => Same H1 H' ∧ H' D2 = some (.lst [])) ⟨same_upd hD2, upd_same⟩ (fun i H' _ h => ⟨SqL.of (h.1 _ _ (e1 _ _ ha)), SqL.of (h.1 _ _ hD)⟩) (fun i y H' H'' hi h q => by omega) (fun H' h => k D2 H' (e1.trans h.1) h.2)
abbrev nUT : List Str := ["parser", "arguments", "pairs", "whole", "options", "positionals", "argument", "is_option", "part"]
theorem scUT : FnScope nUT ["parser"] (defScope sUsageText) := ⟨rfl, rfl, rfl, by decide +kernel, rfl, by decide +kernel, by decide +kernel⟩
theorem ok_usage0 {f fP fL CP : Addr} {fd fdP fdL : FuncData} {tn : Tok} (F : Fun K "usage_text" "usage_text" sUsageText f fd) (T : TxtB mg) (cP : ClsN K CP parF) (hS : mg "START" = some (.str "usage: " tn)) (Po : At P w K mg base "parts_of" 1 ["arguments", "exclusives", "layout"] spParts0 fP fdP) (Ul : At P w K mg base "usage_lines" 2 ["start", "options", "positionals", "size"] spLines0 fL fdL) :
    FnOk P w K mg base CX0 3 f fd ["parser"] (spUsage0 K CP) := by
  refine F.ok scUT (fun vs H Q E h => ?_) (fun cdv A outer s H vs Q E hr h => ?_)
  · obtain ⟨p, aL, la, le, ls, pr, ds, ep, wd, rfl, _⟩ := h
    rfl
  · obtain ⟨p, aL, la, le, ls, pr, ds, ep, wd, rfl, hp, hla, hle, hpr, hwd, k⟩ := h
    have hz6 : PySem.sizeLine = 16777216 := PySem.sizeLine_eq
    have r1 : Room 1 (A.deeper (PyProof.Rows.envOfC "usage_text" (defScope sUsageText) s.heap.objs.size f cdv)) := hr.mono (by decide)
    obtain ⟨dx, pf, cf, ab, ee, fi, lf, dd, hP⟩ := hp.ex
    have hsl : ("usage: " : Str).length = 7 := rfl
    refine ⟨_, pss_cons (ps_if (pt_cmp (pc_notN (pe_fld (pv 0) rfl))) pss_never pss_nil)
      (pss_mid (ps_setLc (i := 1) (own := [("argument", 6)]) (g := gName 6) (tt := fun _ _ _ => False) (te := tVar 6) rfl scUT.nd rfl rfl (sw_true rfl rfl rfl (by decide +kernel)) (pi_list (pe_fld (pv 0) rfl)) (blkOk_by (N := nUT) (sc := defScope sUsageText) (by decide +kernel)) (fun _ _ _ _ _ => pg_name (i := 6) scUT.nd rfl (Or.inl rfl)) (fun _ _ _ _ _ => pts_never) (fun _ _ _ _ _ => pv 6))
      (pss_mid (ps_set (i := 1) scUT.nd rfl (Or.inl rfl) (pe_op op_cat (pv 1) (pe_lc (own := [("argument", 6)]) (g := gName 6) (tt := fun _ _ _ => False) (te := tVar 6) rfl scUT.nd (pi_list (pe_fld (pv 0) rfl)) (blkOk_by (N := nUT) (sc := defScope sUsageText) (by decide +kernel)) (fun _ _ _ _ _ => pg_name (i := 6) scUT.nd rfl (Or.inl rfl)) (fun _ _ _ _ _ => pts_never) (fun _ _ _ _ _ => pv 6))))
      (pss_mid (ps_set (i := 2) scUT.nd rfl (Or.inl rfl) (pe_call Po.ok r1 rfl Po.m Po.k Po.b .nil pass0 (pa_cons (pv 1) (pa_cons (pe_fld (pv 0) rfl) (pa_cons (pe_fld (pv 0) rfl) pa_nil)))))
      (pss_mid (ps_set (i := 3) scUT.nd rfl (Or.inl rfl) (pe_bm PySem.F.plainAttrs_str PySem.F.slot_str_join PySem.F.type_str_join mt_join pe_str (pa_cons (pe_op op_cat (pe_lst (pa_cons (pe_op op_add_str (pe_glob (v := .str "usage: ") rfl hS ⟨tn, rfl⟩) (pe_fld (pv 0) rfl)) pa_nil)) (pe_lc (own := [("is_option", 7), ("part", 8)]) (g := gTup K 2 (gCons (gName 7) (gCons (gName 8) gNil))) (tt := tYes) (te := tVar 8) rfl scUT.nd (pi_list (pv 2)) (blkOk_by (N := nUT) (sc := defScope sUsageText) (by decide +kernel)) (fun _ _ _ _ _ => pg_tup rfl (pgs_cons (pg_name (i := 7) scUT.nd rfl (Or.inl rfl)) (pgs_cons (pg_name (i := 8) scUT.nd rfl (Or.inl rfl)) pgs_nil))) (fun _ _ _ _ _ => pts_nil) (fun _ _ _ _ _ => pv 8))) pa_nil)))
      (pss_cons (ps_if (pt_cmpR op_le (pe_callB call_len_str (by rfl) T.len PySem.boot_len (pa_cons (pv 3) pa_nil)) (pe_fld (pv 0) rfl) (nomark _)) (pss_one (ps_ret (pv 3))) pss_nil)
      (pss_mid (ps_setLc (i := 4) (own := [("is_option", 7), ("part", 8)]) (g := gTup K 2 (gCons (gName 7) (gCons (gName 8) gNil))) (tt := fun _ _ _ => False) (te := tVar 8) rfl scUT.nd rfl rfl (sw_true rfl rfl rfl (by decide +kernel)) (pi_list (pv 2)) (blkOk_by (N := nUT) (sc := defScope sUsageText) (by decide +kernel)) (fun _ _ _ _ _ => pg_tup rfl (pgs_cons (pg_name (i := 7) scUT.nd rfl (Or.inl rfl)) (pgs_cons (pg_name (i := 8) scUT.nd rfl (Or.inl rfl)) pgs_nil))) (fun _ _ _ _ _ => pts_never) (fun _ _ _ _ _ => pv 8))
      (pss_mid (ps_setLc (i := 5) (own := [("is_option", 7), ("part", 8)]) (g := gTup K 2 (gCons (gName 7) (gCons (gName 8) gNil))) (tt := fun _ _ _ => False) (te := tVar 8) rfl scUT.nd rfl rfl (sw_true rfl rfl rfl (by decide +kernel)) (pi_list (pv 2)) (blkOk_by (N := nUT) (sc := defScope sUsageText) (by decide +kernel)) (fun _ _ _ _ _ => pg_tup rfl (pgs_cons (pg_name (i := 7) scUT.nd rfl (Or.inl rfl)) (pgs_cons (pg_name (i := 8) scUT.nd rfl (Or.inl rfl)) pgs_nil))) (fun _ _ _ _ _ => pts_never) (fun _ _ _ _ _ => pv 8))
      (pss_one (ps_ret (pe_bm PySem.F.plainAttrs_str PySem.F.slot_str_join PySem.F.type_str_join mt_join pe_str (pa_cons (pe_call Ul.ok hr rfl Ul.m Ul.k Ul.b .nil pass0 (pa_cons (pe_op op_add_str (pe_glob (v := .str "usage: ") rfl hS ⟨tn, rfl⟩) (pe_fld (pv 0) rfl)) (pa_cons (pv 4) (pa_cons (pv 5) (pa_cons (pe_fld (pv 0) rfl) pa_nil))))) pa_nil))))))))))), ?_⟩
    refine ⟨_, rfl, p, CP, dx, _, _, rfl, hP, cP.cl, cP.no _ (by decide +kernel), rfl, _, rfl, iteF ?_⟩
    refine ⟨fun σ' H' => ∃ D, σ' = [some (.ref p), some (.ref D), none, none, none, none, none, none, none] ∧ Same H H' ∧ H' D = some (.lst []), ?_, ?_⟩
    · exact ⟨_, rfl, p, CP, dx, _, _, rfl, hP, cP.cl, cP.no _ (by decide +kernel), rfl, la, rfl, ⟨_, SqL.of hla⟩, fun D hD => lc0 (K := K) (a := la) (g := gName 6) (tt := fun _ _ _ => False) (te := tVar 6) (vs := [6]) hla hD fun H' e h => ⟨D, rfl, e, h⟩⟩
    rintro _ H1 ⟨D1, rfl, e1, hD1⟩
    have hP1 := e1 _ _ hP
    refine ⟨fun σ' H' => ∃ D, σ' = [some (.ref p), some (.ref D), none, none, none, none, none, none, none] ∧ Same H1 H' ∧ H' D = some (.lst []), ?_, ?_⟩
    · exact ⟨_, rfl, _, rfl, p, CP, dx, _, _, rfl, hP1, cP.cl, cP.no _ (by decide +kernel), rfl, la, rfl, ⟨_, SqL.of (e1 _ _ hla)⟩, fun D hD => lc0 (K := K) (a := la) (g := gName 6) (tt := fun _ _ _ => False) (te := tVar 6) (vs := [6]) (e1 _ _ hla) hD fun H' e h => ⟨D1, D, _, _, rfl, rfl, e _ _ hD1, h, (by show 0 + 0 ≤ sizeLine; decide), fun D3 hD3 => ⟨D3, rfl, e.trans (same_upd hD3), upd_same⟩⟩⟩
    rintro _ H2 ⟨D2, rfl, e2, hD2⟩
    have hP2 := e2 _ _ hP1
    refine ⟨fun σ' H' => ∃ D, σ' = [some (.ref p), some (.ref D2), some (.ref D), none, none, none, none, none, none] ∧ Same H2 H' ∧ H' D = some (.lst []), ?_, ?_⟩
    · exact ⟨_, rfl, _, rfl, p, CP, dx, _, _, rfl, hP2, cP.cl, cP.no _ (by decide +kernel), rfl, _, rfl, p, CP, dx, _, _, rfl, hP2, cP.cl, cP.no _ (by decide +kernel), rfl, D2, le, _, rfl, hD2, e2 _ _ (e1 _ _ hle), fun D H' e h => ⟨D, rfl, e, h⟩⟩
    rintro _ H3 ⟨D3, rfl, e3, hD3⟩
    have hP3 := e3 _ _ hP2
    refine ⟨fun σ' H' => σ' = [some (.ref p), some (.ref D2), some (.ref D3), some (.str ("usage: " ++ pr)), none, none, none, none, none] ∧ Same H3 H', ?_, ?_⟩
    · refine ⟨rfl, _, rfl, p, CP, dx, _, _, rfl, hP3, cP.cl, cP.no _ (by decide +kernel), rfl, _, _, rfl, rfl, (by rw [hsl]; omega), (by show 1 ≤ sizeLine; decide), fun D4 hD4 => ?_⟩
      have e4 := same_upd (o := .lst [.str ("usage: " ++ pr)]) hD4
      refine ⟨_, rfl, D3, rfl, ⟨_, SqL.of (e4 _ _ hD3)⟩, fun D5 hD5 => lc0 (K := K) (a := D3) (g := gTup K 2 (gCons (gName 7) (gCons (gName 8) gNil))) (tt := tYes) (te := tVar 8) (vs := [7, 8]) (e4 _ _ hD3) hD5 fun H' e h => ⟨D4, D5, _, _, rfl, rfl, e _ _ upd_same, h, (by show 1 + 0 ≤ sizeLine; decide), fun D6 hD6 => ⟨" ", D6, ["usage: " ++ pr], rfl, rfl, .inl (SqL.of (by rw [upd_same]; rfl)), ?_, rfl, (e4.trans e).trans (same_upd hD6)⟩⟩⟩
      have h1 : (["usage: " ++ pr].map (·.length)).sum = ("usage: " ++ pr).length := by simp
      have h2 : (" " : Str).length = 1 := rfl
      rw [h1, h2, Str.length_append, hsl]
      show 7 + pr.length + 1 * 1 ≤ _
      omega
    rintro _ H4 ⟨rfl, e4⟩
    have hP4 := e4 _ _ hP3
    have eH := (e1.trans e2).trans (e3.trans e4)
    refine ⟨_, rfl, _, rfl, (by rw [Str.length_append, hsl]; omega), _, rfl, p, CP, dx, _, _, rfl, hP4, cP.cl, cP.no _ (by decide +kernel), rfl, _, _, rfl, rfl, _, rfl, ?_⟩
    refine ite2 (fun _ => ⟨_, rfl, k H4 eH⟩) (fun _ => ?_)
    have hD34 := e4 _ _ hD3
    refine ⟨fun σ' H' => ∃ D, σ' = [some (.ref p), some (.ref D2), some (.ref D3), some (.str ("usage: " ++ pr)), some (.ref D), none, none, none, none] ∧ Same H4 H' ∧ H' D = some (.lst []), ?_, ?_⟩
    · exact ⟨_, rfl, D3, rfl, ⟨_, SqL.of hD34⟩, fun D hD => lc0 (K := K) (a := D3) (g := gTup K 2 (gCons (gName 7) (gCons (gName 8) gNil))) (tt := fun _ _ _ => False) (te := tVar 8) (vs := [7, 8]) hD34 hD fun H' e h => ⟨D, rfl, e, h⟩⟩
    rintro _ H5 ⟨D5, rfl, e5, hD5⟩
    refine ⟨fun σ' H' => ∃ D, σ' = [some (.ref p), some (.ref D2), some (.ref D3), some (.str ("usage: " ++ pr)), some (.ref D5), some (.ref D), none, none, none] ∧ Same H5 H' ∧ H' D = some (.lst []), ?_, ?_⟩
    · exact ⟨_, rfl, D3, rfl, ⟨_, SqL.of (e5 _ _ hD34)⟩, fun D hD => lc0 (K := K) (a := D3) (g := gTup K 2 (gCons (gName 7) (gCons (gName 8) gNil))) (tt := fun _ _ _ => False) (te := tVar 8) (vs := [7, 8]) (e5 _ _ hD34) hD fun H' e h => ⟨D, rfl, e, h⟩⟩
    rintro _ H6 ⟨D6, rfl, e6, hD6⟩
    have hP6 := e6 _ _ (e5 _ _ hP4)
    have hu : "usage: " ++ pr ≠ "" := fun z => by
      have := congrArg Str.length z
      rw [Str.length_append, hsl] at this
      have h0 : ("" : Str).length = 0 := rfl
      omega
    refine ⟨rfl, _, rfl, p, CP, dx, _, _, rfl, hP6, cP.cl, cP.no _ (by decide +kernel), rfl, _, _, rfl, rfl, (by rw [hsl]; omega), _, rfl, _, rfl, _, rfl, p, CP, dx, _, _, rfl, hP6, cP.cl, cP.no _ (by decide +kernel), rfl, "usage: " ++ pr, D5, D6, wd, rfl, hu, (by rw [Str.length_append, hsl]; omega), e6 _ _ hD5, hD6, fun D H' e h => ?_⟩
    refine ⟨"\n", D, ["usage: " ++ pr], rfl, rfl, .inl (SqL.of h), ?_, k H' ((eH.trans e5).trans (e6.trans e))⟩
    have h1 : (["usage: " ++ pr].map (·.length)).sum = ("usage: " ++ pr).length := by simp
    have h2 : ("\n" : Str).length = 1 := rfl
    rw [h1, h2, Str.length_append, hsl]
    show 7 + pr.length + 1 * 1 ≤ _
    omega
end
end K45

namespace K45
open PySem L2 PyProof PyProof.Rows
/-! ### groups without arguments -/
structure SeAt (CS : Addr) (H : Hp) (v : V) (o : Option Str) : Prop where
  ex : ∃ (x dx m : Addr) (h t : V), v = .ref x ∧ H x = some (.ins CS dx (sFs h t (match o with | some y => .str y | none => .non) m)) ∧ H m = some (.lst []) ∧ (∀ y, o = some y → t = .str "t")
theorem SeAt.keep {CS : Addr} {H H' : Hp} {v : V} {o : Option Str} (h : SeAt CS H v o) (e : Same H H') : SeAt CS H' v o := by
  obtain ⟨x, dx, m, a, t, h1, h2, h3, h4⟩ := h.ex
  exact ⟨x, dx, m, a, t, h1, e _ _ h2, e _ _ h3, h4⟩
def spRows0 (CS : Addr) : Sp := fun vs H Q _ => ∃ (v pv : V) (o : Option Str), vs = [v, pv] ∧ SeAt CS H v o ∧ ∀ (D : Addr) (H' : Hp), Same H H' → H D = none → H' D = some (.lst []) → Q (.ref D) H'
def secF1 (x pr : Str) (wd : Int) : Str := "\n" ++ "t" ++ ":\n" ++ descF x pr wd 2 ++ "" ++ "\n"
def spSecT (K : PySem.W.Frag) (CP CS : Addr) : Sp := fun vs H Q _ => ∃ (v : V) (x : Str) (r p aL la le ls : Addr) (col : Int) (pr : Str) (us ds ep : V) (wd : Int), vs = [v, .ref r, .int col, .ref p] ∧ SeAt CS H v (some x) ∧ H r = some (.lst []) ∧ PrT CP H p pr us ds ep wd aL la le ls ∧ 1 ≤ wd ∧ wd ≤ 10000 ∧ x.length ≤ 900 ∧ pr.length ≤ 100 ∧ (∀ H', SqT K H' aL []) ∧ ∀ H', Same H H' → (secF1 x pr wd).length ≤ 401010 → Q (.str (secF1 x pr wd)) H'
section
variable {P : Program} {w : World} {K : PySem.W.Frag} {mg : Str → Option Value} {base : Heap}
theorem scRw : FnScope ["section", "parser", "found", "argument"] ["section", "parser"] (defScope sSecRows) := ⟨rfl, rfl, rfl, by decide +kernel, rfl, by decide +kernel, by decide +kernel⟩
theorem ok_rows0 {f CS : Addr} {fd : FuncData} (F : Fun K "section_rows" "section_rows" sSecRows f fd) (cS : ClsN K CS secF) : FnOk P w K mg base CX0 1 f fd ["section", "parser"] (spRows0 CS) := by
  refine F.ok scRw (fun vs H Q E h => ?_) (fun cdv A outer s H vs Q E hr h => ?_)
  · obtain ⟨v, pv, o, rfl, _⟩ := h
    rfl
  · obtain ⟨v, pv', o, rfl, hS, k⟩ := h
    obtain ⟨x, dx, m, a, t, rfl, hx, hm, _⟩ := hS.ex
    refine ⟨_, pss_mid (ps_set (i := 2) scRw.nd rfl (Or.inl rfl) (pe_lst pa_nil))
      (pss_mid (ps_for PassesOwn.never rfl (pi_list (pe_fld (pv 0) rfl)) (pg_name (i := 3) scRw.nd rfl (Or.inl rfl)) pss_never)
      (pss_one (ps_ret (pv 2)))), ?_⟩
    refine ⟨fun σ' H' => ∃ D, H D = none ∧ σ' = [some (.ref x), some pv', some (.ref D), none] ∧ Same H H' ∧ H' D = some (.lst []), ?_, ?_⟩
    · exact ⟨(by show 0 ≤ sizeLine; decide), fun D hD => ⟨D, hD, rfl, same_upd hD, upd_same⟩⟩
    rintro _ H1 ⟨D, hD0, rfl, e1, hD⟩
    refine ⟨fun σ' H' => σ' = [some (.ref x), some pv', some (.ref D), none] ∧ H1 = H', ?_, ?_⟩
    · refine ⟨_, rfl, x, CS, dx, _, _, rfl, e1 _ _ hx, cS.cl, cS.no _ (by decide +kernel), rfl, m, rfl, ⟨_, SqL.of (e1 _ _ hm)⟩, ?_⟩
      refine for_list (K := K) (a := m) (xs := []) (g := gName 3) (tb := fun _ _ _ => False) (D := { nx := fun σ' H' => σ' = [some (.ref x), some pv', some (.ref D), none] ∧ H1 = H', rt := Q }) (fun _ σ' H' => σ' = [some (.ref x), some pv', some (.ref D), none] ∧ H1 = H') ⟨rfl, rfl⟩ ?_ ?_ ?_
      · exact fun i σ' H' _ h => by
          rw [← h.2]
          exact SqL.of (e1 _ _ hm)
      · exact fun i y σ' H' hy h => by simp at hy
      · exact fun σ' H' h => h
    rintro _ _ ⟨rfl, rfl⟩
    exact ⟨_, rfl, k D H1 e1 hD0 hD⟩
abbrev nST : List Str := ["section", "rows", "column", "parser", "found", "head", "text"]
theorem scST : FnScope nST ["section", "rows", "column", "parser"] (defScope sSecText) := ⟨rfl, rfl, rfl, by decide +kernel, rfl, by decide +kernel, by decide +kernel⟩
theorem ok_secT {f fD CP CS : Addr} {fd fdD : FuncData} (F : Fun K "section_text" "section_text" sSecText f fd) (cS : ClsN K CS secF) (De : At P w K mg base "described" 3 ["text", "parser", "indent"] (spDesc K CP) fD fdD) : FnOk P w K mg base CX0 4 f fd ["section", "rows", "column", "parser"] (spSecT K CP CS) := by
  refine F.ok scST (fun vs H Q E h => ?_) (fun cdv A outer s H vs Q E hr h => ?_)
  · obtain ⟨v, x, r, p, aL, la, le, ls, col, pr, us, ds, ep, wd, rfl, _⟩ := h
    rfl
  · obtain ⟨v, x, r, p, aL, la, le, ls, col, pr, us, ds, ep, wd, rfl, hS, hr0, hp, h1, h2, hx, hpr, hL, k⟩ := h
    have hz6 : PySem.sizeLine = 16777216 := PySem.sizeLine_eq
    obtain ⟨sx, dx, m, a, t, rfl, hsx, hm, ht⟩ := hS.ex
    obtain rfl := ht x rfl
    refine ⟨_, pss_mid (ps_set (i := 4) scST.nd rfl (Or.inl rfl) (pe_ifExp (pt_cmp (pc_isN (pe_fld (pv 0) rfl))) pe_str (pe_op op_add_str (pe_op op_add_str pe_str (pe_fld (pv 0) rfl)) pe_str)))
      (pss_mid (ps_if (pt_cmp (pc_notN (pe_fld (pv 0) rfl))) (pss_one (ps_set (i := 4) scST.nd rfl (Or.inl rfl) (pe_op op_add_str (pv 4) (pe_call De.ok hr rfl De.m De.k De.b .nil pass0 (pa_cons (pe_fld (pv 0) rfl) (pa_cons (pv 3) (pa_cons pe_int pa_nil))))))) pss_nil)
      (pss_one (ps_ret (pe_op op_add_str (pe_op op_add_str (pv 4) (pe_bm PySem.F.plainAttrs_str PySem.F.slot_str_join PySem.F.type_str_join mt_join pe_str (pa_cons (pe_lc (own := [("head", 5), ("text", 6)]) (g := gTup K 2 (gCons (gName 5) (gCons (gName 6) gNil))) (tt := tYes) (te := fun _ _ _ => False) rfl scST.nd (pi_list (pv 1)) (blkOk_by (N := nST) (sc := defScope sSecText) (by decide +kernel)) (fun _ _ _ _ _ => pg_tup rfl (pgs_cons (pg_name (i := 5) scST.nd rfl (Or.inl rfl)) (pgs_cons (pg_name (i := 6) scST.nd rfl (Or.inl rfl)) pgs_nil))) (fun _ _ _ _ _ => pts_nil) (fun _ _ _ _ _ => by exact pe_never)) pa_nil))) pe_str)))), ?_⟩
    refine ⟨fun σ' H' => σ' = [some (.ref sx), some (.ref r), some (.int col), some (.ref p), some (.str ("\n" ++ "t" ++ ":\n")), none, none] ∧ H = H', ?_, ?_⟩
    · exact ⟨_, rfl, sx, CS, dx, _, _, rfl, hsx, cS.cl, cS.no _ (by decide +kernel), rfl, _, rfl, iteF ⟨_, rfl, sx, CS, dx, _, _, rfl, hsx, cS.cl, cS.no _ (by decide +kernel), rfl, _, _, rfl, rfl, (by rw [hz6]; decide), _, _, rfl, rfl, (by rw [hz6]; decide), rfl, rfl⟩⟩
    rintro _ _ ⟨rfl, rfl⟩
    refine ⟨fun σ' H' => σ' = [some (.ref sx), some (.ref r), some (.int col), some (.ref p), some (.str ("\n" ++ "t" ++ ":\n" ++ descF x pr wd 2)), none, none] ∧ Same H H' ∧ (descF x pr wd 2).length ≤ 401000, ?_, ?_⟩
    · have h4 : ("\n" ++ "t" ++ ":\n" : Str).length = 4 := rfl
      exact ⟨_, rfl, sx, CS, dx, _, _, rfl, hsx, cS.cl, cS.no _ (by decide +kernel), rfl, _, rfl, iteT ⟨_, rfl, _, rfl, sx, CS, dx, _, _, rfl, hsx, cS.cl, cS.no _ (by decide +kernel), rfl, _, rfl, x, pr, p, aL, la, le, ls, us, ds, ep, wd, 2, rfl, hp, .inr rfl, h1, h2, hx, hpr, hL, fun H' e hl => ⟨_, _, rfl, rfl, (by rw [h4]; omega), rfl, e, hl⟩⟩⟩
    rintro _ H1 ⟨rfl, e1, hl⟩
    have hr1 := e1 _ _ hr0
    have h4 : ("\n" ++ "t" ++ ":\n" : Str).length = 4 := rfl
    have hfl : ("\n" ++ "t" ++ ":\n" ++ descF x pr wd 2).length = 4 + (descF x pr wd 2).length := by rw [Str.length_append, h4]
    refine ⟨_, rfl, rfl, _, rfl, r, rfl, ⟨_, SqL.of hr1⟩, fun D hD => lc0 (K := K) (a := r) (g := gTup K 2 (gCons (gName 5) (gCons (gName 6) gNil))) (tt := tYes) (te := fun _ _ _ => False) (vs := [5, 6]) hr1 hD fun H' e h => ?_⟩
    have h0 : ("" : Str).length = 0 := rfl
    have hn : ("\n" : Str).length = 1 := rfl
    have hj : Txt.join "" ([] : List Str) = "" := rfl
    refine ⟨"", D, [], rfl, rfl, .inl (SqL.of h), (by show 0 + 0 ≤ _; omega), ?_⟩
    rw [hj]
    refine ⟨_, _, rfl, rfl, (by rw [hfl, h0]; omega), _, _, rfl, rfl, (by rw [Str.length_append, hfl, h0, hn]; omega), k H' (e1.trans e) ?_⟩
    unfold secF1
    rw [Str.length_append, Str.length_append, hfl, h0, hn]
    omega
end
end K45

namespace K45
open PySem L2 PyProof PyProof.Rows
/-! ### the help of a parser without arguments -/
def optV : Option Str → V
  | some y => .str y
  | none => .non
def addO (g : Str → Str) (a : Str) : Option Str → Str
  | some x => a ++ g x
  | none => a
def helpF (pr : Str) (wd : Int) (ds : Option Str) (os : List (Option Str)) (ep : Option Str) : Str :=
  addO (fun x => descF x pr wd 0) (os.foldl (addO fun x => secF1 x pr wd) (addO (fun x => descF x pr wd 0) ("usage: " ++ pr ++ "\n\n") ds)) ep
def short (o : Option Str) : Prop := ∀ x, o = some x → x.length ≤ 900
def spFH (K : PySem.W.Frag) (CP CS : Addr) : Sp := fun vs H Q _ => ∃ (p aL la le ls : Addr) (pr y : Str) (ds ep : Option Str) (wd n : Nat) (vs' : List V) (os : List (Option Str)), vs = [.ref p] ∧ PrT CP H p pr .non (optV ds) (optV ep) wd aL la le ls ∧ H la = some (.lst []) ∧ H le = some (.lst []) ∧ H ls = some (.lst vs') ∧ PySem.Paired (SeAt CS H) vs' os ∧ os.length ≤ 6 ∧ 1 ≤ wd ∧ wd ≤ 10000 ∧ pr.length ≤ 100 ∧ short ds ∧ short ep ∧ (∀ o ∈ os, short o) ∧ (∀ H', SqT K H' aL []) ∧ SqTo n (helpF pr wd ds os ep) y ∧ ∀ H', Same H H' → Q (.str (Txt.stripChars y "\n" ++ "\n")) H'
theorem min3 (a b c : Int) : ∃ z : Int, nuMin3 (.int a) (.int b) (.int c) = some (.int z) := by
  have h2 : ∀ a b : Int, ∃ z : Int, nuMin2 (.int a) (.int b) = some (.int z) := fun a b => by
    refine ⟨if decide (b < a) = true then b else a, ?_⟩
    show some (if decide (b < a) = true then V.int b else V.int a) = _
    split <;> rfl
  obtain ⟨z, hz⟩ := h2 a b
  obtain ⟨y, hy⟩ := h2 z c
  refine ⟨y, ?_⟩
  unfold nuMin3
  rw [hz]
  exact hy
theorem paired_at {α β : Type} {R : α → β → Prop} : ∀ {xs : List α} {ys : List β} {i : Nat} {x : α}, PySem.Paired R xs ys → xs[i]? = some x → ∃ y, ys[i]? = some y ∧ R x y
  | _, _, i, x, .nil, h => by simp at h
  | _, _, 0, x, .cons h t, e => by
    simp at e
    subst e
    exact ⟨_, rfl, h⟩
  | _, _, i + 1, x, .cons h t, e => paired_at (i := i) t (by simpa using e)
section
variable {P : Program} {w : World} {K : PySem.W.Frag} {mg : Str → Option Value} {base : Heap}
abbrev nFH : List Str := ["parser", "tables", "longest", "column", "found", "section", "rows", "head", "text"]
theorem scFH : FnScope nFH ["parser"] (defScope sFormatHelp) := ⟨rfl, rfl, rfl, by decide +kernel, rfl, by decide +kernel, by decide +kernel⟩
theorem ok_fh {f fR fU fD fS fQ CP CS : Addr} {fd fdR fdU fdD fdS fdQ : FuncData} (F : Fun K "format_help" "format_help" sFormatHelp f fd) (T : TxtB mg) (zMax : mg "max" = none) (zMin : mg "min" = none) (cP : ClsN K CP parF) (cS : ClsN K CS secF)
    (Ro : At P w K mg base "section_rows" 1 ["section", "parser"] (spRows0 CS) fR fdR) (Ut : At P w K mg base "usage_text" 3 ["parser"] (spUsage0 K CP) fU fdU) (De : At P w K mg base "described" 3 ["text", "parser", "indent"] (spDesc K CP) fD fdD) (St : At P w K mg base "section_text" 4 ["section", "rows", "column", "parser"] (spSecT K CP CS) fS fdS) (Sq : At P w K mg base "squeezed" 1 ["text"] spSq fQ fdQ) :
    FnOk P w K mg base CX0 5 f fd ["parser"] (spFH K CP CS) := by
  refine F.ok scFH (fun vs H Q E h => ?_) (fun cdv A outer s H vs Q E hr h => ?_)
  · obtain ⟨p, aL, la, le, ls, pr, y, ds, ep, wd, n, vs', os, rfl, _⟩ := h
    rfl
  · obtain ⟨p, aL, la, le, ls, pr, y, ds, ep, wd, n, vs', os, rfl, hp, hla, hle, hls, hse, hol, hw1, hw2, hpr, hds, hep, hos, hL, hsq, k⟩ := h
    have hz6 : PySem.sizeLine = 16777216 := PySem.sizeLine_eq
    have r1 : Room 1 (A.deeper (PyProof.Rows.envOfC "format_help" (defScope sFormatHelp) s.heap.objs.size f cdv)) := hr.mono (by decide)
    have r3 : Room 3 (A.deeper (PyProof.Rows.envOfC "format_help" (defScope sFormatHelp) s.heap.objs.size f cdv)) := hr.mono (by decide)
    obtain ⟨dx, pf, cf, ab, ee, fi, lf, dd, hP⟩ := hp.ex
    have hvl : vs'.length = os.length := PySem.Paired.length hse
    refine ⟨_, pss_mid (ps_setLc (i := 1) (own := [("section", 5)]) (g := gName 5) (tt := tYes) rfl scFH.nd rfl rfl (sw_true rfl rfl rfl (by decide +kernel)) (pi_list (pe_fld (pv 0) rfl)) (blkOk_by (N := nFH) (sc := defScope sFormatHelp) (by decide +kernel)) (fun _ _ _ _ _ => pg_name (i := 5) scFH.nd rfl (Or.inl rfl)) (fun _ _ _ _ _ => pts_nil) (fun _ _ _ _ _ => pe_call Ro.ok r1 rfl Ro.m Ro.k Ro.b .nil pass0 (pa_cons (pv 5) (pa_cons (pv 0) pa_nil))))
      (pss_mid (ps_set (i := 2) scFH.nd rfl (Or.inl rfl) (pe_callB (cr_max rfl) (by rfl) zMax (by decide +kernel) (pa_cons (pe_op op_cat (pe_lst (pa_cons pe_int pa_nil)) (pe_lc2 (own := [("rows", 6), ("head", 7), ("text", 8)]) (vs1 := [7, 8]) (g := gName 6) (tt := tYes) (wi1 := iList K (tVar 6)) (g1 := gTup K 2 (gCons (gName 7) (gCons (gName 8) gNil))) (tt1 := tYes) (te := fun _ _ _ => False) rfl scFH.nd (pi_list (pv 1)) (blkOk_by (N := nFH) (sc := defScope sFormatHelp) (by decide +kernel)) (by decide) (fun _ _ _ _ _ => pg_name (i := 6) scFH.nd rfl (Or.inl rfl)) (fun _ _ _ _ _ => pts_nil) (fun _ _ _ _ _ => by exact pi_list (pv 6)) (fun _ _ _ _ _ => pg_tup rfl (pgs_cons (pg_name (i := 7) scFH.nd rfl (Or.inl rfl)) (pgs_cons (pg_name (i := 8) scFH.nd rfl (Or.inl rfl)) pgs_nil))) (fun _ _ _ _ _ => pts_nil) (fun _ _ _ _ _ => by exact pe_never))) pa_nil)))
      (pss_mid (ps_set (i := 3) scFH.nd rfl (Or.inl rfl) (pe_callB (call_min3Nu rfl) (by rfl) zMin (by decide +kernel) (pa_cons (pe_op op_add (pv 2) pe_int) (pa_cons pe_int (pa_cons (pe_callB (call_max2 rfl) (by rfl) zMax (by decide +kernel) (pa_cons (pe_op op_sub (pe_fld (pv 0) rfl) pe_int) (pa_cons pe_int pa_nil))) pa_nil)))))
      (pss_mid (ps_set (i := 4) scFH.nd rfl (Or.inl rfl) (pe_op op_add_str (pe_call Ut.ok r3 rfl Ut.m Ut.k Ut.b .nil pass0 (pa_cons (pv 0) pa_nil)) pe_str))
      (pss_mid (ps_if (pt_cmp (pc_notN (pe_fld (pv 0) rfl))) (pss_one (ps_set (i := 4) scFH.nd rfl (Or.inl rfl) (pe_op op_add_str (pv 4) (pe_call De.ok r3 rfl De.m De.k De.b .nil pass0 (pa_cons (pe_fld (pv 0) rfl) (pa_cons (pv 0) (pa_cons pe_int pa_nil))))))) pss_nil)
      (pss_mid (ps_for PassesOwn.never rfl (RZ.pi_zipA (by rfl) T.zip (pa_cons (pe_fld (pv 0) rfl) (pa_cons (pv 1) pa_nil))) (pg_tup rfl (pgs_cons (pg_name (i := 5) scFH.nd rfl (Or.inl rfl)) (pgs_cons (pg_name (i := 6) scFH.nd rfl (Or.inl rfl)) pgs_nil)))
        (pss_one (ps_if (PW.pt (pw_or (pt_cmp (pc_notN (pe_fld (pv 5) rfl))) (pw_or1 (pt_cmpR op_gt (pe_callB call_len_seq (by rfl) T.len PySem.boot_len (pa_cons (pv 6) pa_nil)) pe_int (nomark _))))) (pss_one (ps_set (i := 4) scFH.nd rfl (Or.inl rfl) (pe_op op_add_str (pv 4) (pe_call St.ok hr rfl St.m St.k St.b .nil pass0 (pa_cons (pv 5) (pa_cons (pv 6) (pa_cons (pv 3) (pa_cons (pv 0) pa_nil)))))))) pss_nil)))
      (pss_mid (ps_if (pt_cmp (pc_notN (pe_fld (pv 0) rfl))) (pss_one (ps_set (i := 4) scFH.nd rfl (Or.inl rfl) (pe_op op_add_str (pv 4) (pe_call De.ok r3 rfl De.m De.k De.b .nil pass0 (pa_cons (pe_fld (pv 0) rfl) (pa_cons (pv 0) (pa_cons pe_int pa_nil))))))) pss_nil)
      (pss_one (ps_ret (pe_call Sq.ok r1 rfl Sq.m Sq.k Sq.b .nil pass0 (pa_cons (pv 4) pa_nil)))))))))), ?_⟩
    -- tables
    refine ⟨fun σ' H' => ∃ (T : Addr) (ts : List V), σ' = [some (.ref p), some (.ref T), none, none, none, none, none, none, none] ∧ Same H H' ∧ H' T = some (.lst ts) ∧ ts.length = os.length ∧ ∀ t ∈ ts, ∃ D, t = .ref D ∧ D ≠ T ∧ H' D = some (.lst []), ?_, ?_⟩
    · refine ⟨_, rfl, p, CP, dx, _, _, rfl, hP, cP.cl, cP.no _ (by decide +kernel), rfl, ls, rfl, ⟨_, SqL.of hls⟩, fun T hT => ?_⟩
      refine lc_list (K := K) (a := ls) (xs := vs') (fun i H' => Same H H' ∧ ∃ ts : List V, H' T = some (.lst ts) ∧ ts.length = i ∧ ∀ t ∈ ts, ∃ D, t = .ref D ∧ D ≠ T ∧ H' D = some (.lst [])) ⟨same_upd hT, [], upd_same, rfl, fun _ z => nomatch z⟩ (fun i H' _ h => SqL.of (h.1 _ _ hls)) (fun i x H' hx h => ?_) (fun H' h => ?_)
      · obtain ⟨e, ts, h1, h2, h3⟩ := h
        obtain ⟨o, ho, hso⟩ := paired_at hse hx
        have hi : i < vs'.length := (List.getElem?_eq_some_iff.mp hx).1
        refine ⟨rfl, _, rfl, _, rfl, x, .ref p, o, rfl, hso.keep e, fun D H'' e' hD0 hD => ⟨ts, e' _ _ h1, (by omega), same_mut (e.trans e') hT, ts ++ [.ref D], upd_same, (by rw [List.length_append, h2]; rfl), fun t ht => ?_⟩⟩
        have nD : D ≠ T := (ne_of_none h1 hD0).symm
        rcases List.mem_append.mp ht with ht | ht
        · obtain ⟨D', a1, a2, a3⟩ := h3 t ht
          exact ⟨D', a1, a2, by rw [upd_ne a2]; exact e' _ _ a3⟩
        · rw [List.mem_singleton.mp ht]
          exact ⟨D, rfl, nD, by rw [upd_ne nD]; exact hD⟩
      · obtain ⟨e, ts, h1, h2, h3⟩ := h
        exact ⟨T, ts, rfl, e, h1, by rw [h2, hvl], h3⟩
    rintro _ H1 ⟨T, ts, rfl, e1, hT, htl, hts⟩
    -- longest
    refine ⟨fun σ' H' => ∃ lg : Int, σ' = [some (.ref p), some (.ref T), some (.int lg), none, none, none, none, none, none] ∧ Same H1 H', ?_, ?_⟩
    · refine ⟨(by show 1 ≤ sizeLine; decide), fun L1 hL1 => ?_⟩
      have eL := same_upd (o := .lst [.int 0]) hL1
      have gL : (upd H1 L1 (.lst [.int 0])) L1 = some (.lst [.int 0]) := upd_same
      generalize upd H1 L1 (.lst [.int 0]) = G at eL gL
      have hTG := eL _ _ hT
      refine ⟨_, rfl, T, rfl, ⟨_, SqL.of hTG⟩, fun D hD => ?_⟩
      refine ⟨fun i m H' => m = ts.length - i ∧ i ≤ ts.length ∧ Same G H' ∧ H' D = some (.lst []), ⟨ts.length, by omega, Nat.zero_le _, same_upd hD, upd_same⟩, ?_⟩
      rintro i m H' ⟨rfl, hi, e, hD'⟩
      have hT' := e _ _ hTG
      by_cases hlt : i < ts.length
      · refine .inr ⟨⟨ts, ts[i], SqL.of hT', by simp [hlt]⟩, fun H'' => Same G H'' ∧ H'' D = some (.lst []), fun H'' h => ⟨ts.length - (i + 1), by omega, rfl, hlt, h.1, h.2⟩, fun x H'' q => ?_⟩
        obtain ⟨ey, q⟩ := q
        subst ey
        obtain ⟨t, rfl, _, ht⟩ := hts x (List.mem_of_getElem? (q ts (SqL.of hT')))
        have ht' := e _ _ (eL _ _ ht)
        refine ⟨rfl, _, rfl, t, rfl, ⟨[], SqL.of ht'⟩, fun j k H3 => j = 0 ∧ H'' = H3, ⟨0, rfl, rfl⟩, ?_⟩
        rintro j k' H3 ⟨rfl, rfl⟩
        exact .inl ⟨⟨[], SqL.of ht', Nat.le_refl _⟩, e, hD'⟩
      · refine .inl ⟨⟨ts, SqL.of hT', by omega⟩, L1, D, _, _, rfl, rfl, e _ _ gL, hD', (by show 1 + 0 ≤ sizeLine; decide), fun D3 hD3 => ⟨D3, [0], rfl, SqL.of upd_same, (by decide), fun mx _ _ => ⟨mx, rfl, (eL.trans e).trans (same_upd hD3)⟩⟩⟩
    rintro _ H2 ⟨lg, rfl, e2⟩
    have hP2 := e2 _ _ (e1 _ _ hP)
    -- column
    refine ⟨fun σ' H' => ∃ col : Int, σ' = [some (.ref p), some (.ref T), some (.int lg), some (.int col), none, none, none, none, none] ∧ H2 = H', ?_, ?_⟩
    · obtain ⟨z, hz⟩ := min3 (lg + 2) 24 (if 4 > (wd : Int) - 20 then 4 else (wd : Int) - 20)
      exact ⟨_, rfl, _, _, rfl, rfl, _, rfl, p, CP, dx, _, _, rfl, hP2, cP.cl, cP.no _ (by decide +kernel), rfl, _, _, rfl, rfl, _, _, rfl, _, _, _, _, rfl, hz, z, rfl, rfl⟩
    rintro _ _ ⟨col, rfl, rfl⟩
    -- usage
    have eH2 := e1.trans e2
    refine ⟨fun σ' H' => σ' = [some (.ref p), some (.ref T), some (.int lg), some (.int col), some (.str ("usage: " ++ pr ++ "\n\n")), none, none, none, none] ∧ Same H2 H', ?_, ?_⟩
    · have hn2 : ("\n\n" : Str).length = 2 := rfl
      have hsl : ("usage: " : Str).length = 7 := rfl
      exact ⟨_, rfl, p, aL, la, le, ls, pr, _, _, wd, rfl, hp.keep eH2, eH2 _ _ hla, eH2 _ _ hle, hpr, hw2, fun H' e => ⟨_, _, rfl, rfl, (by rw [Str.length_append, hn2, hsl]; omega), rfl, e⟩⟩
    rintro _ H3 ⟨rfl, e3⟩
    have eH3 := eH2.trans e3
    have l0 : ("usage: " ++ pr ++ "\n\n").length ≤ 109 := by
      have hn2 : ("\n\n" : Str).length = 2 := rfl
      have hsl : ("usage: " : Str).length = 7 := rfl
      rw [Str.length_append, Str.length_append, hn2, hsl]
      omega
    generalize hF0 : "usage: " ++ pr ++ "\n\n" = F0 at l0
    have hw1' : (1 : Int) ≤ (wd : Int) := by omega
    have hw2' : (wd : Int) ≤ 10000 := by omega
    -- description
    refine ⟨fun σ' H' => σ' = [some (.ref p), some (.ref T), some (.int lg), some (.int col), some (.str (addO (fun x => descF x pr wd 0) F0 ds)), none, none, none, none] ∧ Same H3 H' ∧ (addO (fun x => descF x pr wd 0) F0 ds).length ≤ 402000, ?_, ?_⟩
    · refine ⟨_, rfl, p, CP, dx, _, _, rfl, eH3 _ _ hP, cP.cl, cP.no _ (by decide +kernel), rfl, _, rfl, ?_⟩
      cases ds with
      | none => exact iteF ⟨rfl, Same.refl _, by show F0.length ≤ _; omega⟩
      | some d => exact iteT ⟨_, rfl, _, rfl, p, CP, dx, _, _, rfl, eH3 _ _ hP, cP.cl, cP.no _ (by decide +kernel), rfl, _, rfl, d, pr, p, aL, la, le, ls, _, _, _, wd, 0, rfl, hp.keep eH3, .inl rfl, hw1', hw2', hds d rfl, hpr, hL, fun H' e hl => ⟨_, _, rfl, rfl, (by omega), rfl, e, (by show (F0 ++ descF d pr wd 0).length ≤ _; rw [Str.length_append]; omega)⟩⟩
    rintro _ H4 ⟨rfl, e4, l1⟩
    have eH4 := eH3.trans e4
    generalize hF1 : addO (fun x => descF x pr wd 0) F0 ds = F1 at l1
    have h14 := (e2.trans e3).trans e4
    -- groups
    refine ⟨fun σ' H' => ∃ r5 r6, σ' = [some (.ref p), some (.ref T), some (.int lg), some (.int col), some (.str (os.foldl (addO fun x => secF1 x pr wd) F1)), r5, r6, none, none] ∧ Same H4 H' ∧ (os.foldl (addO fun x => secF1 x pr wd) F1).length ≤ 402000 + 401010 * 6, ?_, ?_⟩
    · refine ⟨_, rfl, p, CP, dx, _, _, rfl, eH4 _ _ hP, cP.cl, cP.no _ (by decide +kernel), rfl, _, rfl, ls, T, vs', ts, rfl, .inl ⟨SqL.of (eH4 _ _ hls), SqL.of (h14 _ _ hT), ?_⟩⟩
      refine for_it (walk_zip (K := K) (a := ls) (b := T) (xs := vs') (ys := ts) (n := os.length) (by omega)) (fun i σ' H' => ∃ r5 r6, σ' = [some (.ref p), some (.ref T), some (.int lg), some (.int col), some (.str ((os.take i).foldl (addO fun x => secF1 x pr wd) F1)), r5, r6, none, none] ∧ Same H4 H' ∧ ((os.take i).foldl (addO fun x => secF1 x pr wd) F1).length ≤ 402000 + 401010 * i) ⟨none, none, rfl, Same.refl _, by show F1.length ≤ _; omega⟩ ?_ ?_ ?_
      · rintro i σ' H' _ ⟨_, _, _, e, _⟩
        exact ⟨SqL.of (e _ _ (eH4 _ _ hls)), SqL.of (e _ _ (h14 _ _ hT))⟩
      · rintro i v σ' H' H'' hi ⟨r5, r6, rfl, e, hl⟩ yp
        obtain ⟨TT, x, y, rfl, hTT, rfl, hx, hy⟩ := yp
        obtain ⟨o, ho, hso⟩ := paired_at hse hx
        obtain ⟨D, rfl, _, hD⟩ := hts y (List.mem_of_getElem? hy)
        have eT := same_upd (o := .tup [x, .ref D]) hTT
        have hgT : (upd H' TT (.tup [x, .ref D])) TT = some (.tup [x, .ref D]) := upd_same
        generalize upd H' TT (.tup [x, .ref D]) = G at eT hgT
        have eG := eH4.trans (e.trans eT)
        have hsG := hso.keep eG
        have hDG := (h14.trans (e.trans eT)) _ _ hD
        have htk : os.take (i + 1) = os.take i ++ [o] := take_more' ho
        obtain ⟨sx, sdx, sm, sa, st, rfl, hsx, hsm, hst⟩ := hsG.ex
        refine ⟨TT, _, rfl, SqT.of hgT, rfl, _, _, rfl, _, _, rfl, rfl, ?_⟩
        cases o with
        | none =>
          refine ⟨_, rfl, sx, CS, sdx, _, _, rfl, hsx, cS.cl, cS.no _ (by decide +kernel), rfl, _, rfl, iteF ⟨_, rfl, D, [], rfl, .inl (SqL.of hDG), _, _, rfl, rfl, _, rfl, iteF ?_⟩⟩
          refine ⟨some (.ref sx), some (.ref D), ?_, e.trans eT, ?_⟩
          · rw [htk, List.foldl_append]
            rfl
          · rw [htk, List.foldl_append]
            show (List.foldl (addO fun x => secF1 x pr wd) F1 (os.take i)).length ≤ _
            omega
        | some xt =>
          have hxt := hos (some xt) (List.mem_of_getElem? ho) xt rfl
          refine ⟨_, rfl, sx, CS, sdx, _, _, rfl, hsx, cS.cl, cS.no _ (by decide +kernel), rfl, _, rfl, iteT (iteT ?_)⟩
          refine ⟨_, rfl, _, rfl, _, rfl, _, rfl, _, rfl, .ref sx, xt, D, p, aL, la, le, ls, col, pr, _, _, _, wd, rfl, hsG, hDG, hp.keep eG, hw1', hw2', hxt, hpr, hL, fun H7 e7 hl7 => ⟨_, _, rfl, rfl, (by omega), some (.ref sx), some (.ref D), ?_, e.trans (eT.trans e7), ?_⟩⟩
          · rw [htk, List.foldl_append]
            rfl
          · rw [htk, List.foldl_append]
            show (List.foldl (addO fun x => secF1 x pr wd) F1 (os.take i) ++ secF1 xt pr wd).length ≤ _
            rw [Str.length_append]
            omega
      · rintro σ' H' ⟨r5, r6, rfl, e, hl⟩
        rw [List.take_length] at hl
        exact ⟨r5, r6, by rw [List.take_length], e, by omega⟩
    rintro _ H5 ⟨r5, r6, rfl, e5, l2⟩
    have eH5 := eH4.trans e5
    generalize hF2 : os.foldl (addO fun x => secF1 x pr wd) F1 = F2 at l2
    -- epilog
    refine ⟨fun σ' H' => σ' = [some (.ref p), some (.ref T), some (.int lg), some (.int col), some (.str (addO (fun x => descF x pr wd 0) F2 ep)), r5, r6, none, none] ∧ Same H5 H' ∧ (addO (fun x => descF x pr wd 0) F2 ep).length ≤ 4000000, ?_, ?_⟩
    · refine ⟨_, rfl, p, CP, dx, _, _, rfl, eH5 _ _ hP, cP.cl, cP.no _ (by decide +kernel), rfl, _, rfl, ?_⟩
      cases ep with
      | none => exact iteF ⟨rfl, Same.refl _, by show F2.length ≤ _; omega⟩
      | some d => exact iteT ⟨_, rfl, _, rfl, p, CP, dx, _, _, rfl, eH5 _ _ hP, cP.cl, cP.no _ (by decide +kernel), rfl, _, rfl, d, pr, p, aL, la, le, ls, _, _, _, wd, 0, rfl, hp.keep eH5, .inl rfl, hw1', hw2', hep d rfl, hpr, hL, fun H' e hl => ⟨_, _, rfl, rfl, (by omega), rfl, e, (by show (F2 ++ descF d pr wd 0).length ≤ _; rw [Str.length_append]; omega)⟩⟩
    rintro _ H6 ⟨rfl, e6, l3⟩
    have hF : addO (fun x => descF x pr wd 0) F2 ep = helpF pr wd ds os ep := by
      unfold helpF
      rw [hF0, hF1, hF2]
    rw [hF] at l3 ⊢
    exact ⟨_, rfl, _, y, n, rfl, hsq, (by omega), k H6 (eH5.trans e6)⟩
end
end K45

namespace K45
open PySem L2 PyProof PyProof.Rows
theorem none_of' {H H' : Hp} (e : Same H H') {b : Addr} (h : H' b = none) : H b = none := by
  cases q : H b with
  | none => rfl
  | some o =>
    rw [e _ _ q] at h
    cases h
def spAddG (CP CS : Addr) : Sp := fun vs H Q _ => ∃ (p aL la le ls : Addr) (pr x : Str) (us ds ep : V) (wd : Int) (vs' : List V), vs = [.ref p, .str "t", .str x] ∧ PrT CP H p pr us ds ep wd aL la le ls ∧ H ls = some (.lst vs') ∧ vs'.length ≤ 100 ∧ ∀ (g : Addr) (H' : Hp), Kb ls H H' → H' ls = some (.lst (vs' ++ [.ref g])) → SeAt CS H' (.ref g) (some x) → Q (.ref g) H'
section
variable {P : Program} {w : World} {K : PySem.W.Frag} {mg : Str → Option Value} {base : Heap}
theorem scAG : FnScope ["self", "title", "description", "made"] ["self", "title", "description"] (defScope sAddGroup) := ⟨rfl, rfl, rfl, by decide +kernel, rfl, by decide +kernel, by decide +kernel⟩
theorem ok_addG {dvs : List V} {kws : List (Str × V)} {f fS CP CS : Addr} {fd fdS : FuncData} (F : FunD K "add_argument_group" "Parser.add_argument_group" (defArgs sAddGroup) (defBody sAddGroup) (defScope sAddGroup) dvs kws f fd) (cP : ClsN K CP parF) (mS : mg "Section" = some (.ref CS)) (MS : Mk K CS fS) (GS : FnOk P w K mg base CX0 1 fS fdS ["self", "home", "title", "description"] (spSecI CS)) (bS : Binds K fdS ["self", "home", "title", "description"] []) :
    FnOk P w K mg base CX0 5 f fd ["self", "title", "description"] (spAddG CP CS) := by
  refine F.ok scAG (fun vs H Q E h => ?_) (fun cdv A0 outer s H vs Q E hr h => ?_)
  · obtain ⟨p, aL, la, le, ls, pr, x, us, ds, ep, wd, vs', rfl, _⟩ := h
    rfl
  · obtain ⟨p, aL, la, le, ls, pr, x, us, ds, ep, wd, vs', rfl, hp, hls, hvl, k⟩ := h
    have hz6 : PySem.sizeLine = 16777216 := PySem.sizeLine_eq
    have r2 : Room 2 (A0.deeper (PyProof.Rows.envOfC "Parser.add_argument_group" (defScope sAddGroup) s.heap.objs.size f cdv)) := hr.mono (by decide)
    obtain ⟨dx, pf, cf, ab, ee, fi, lf, dd, hP⟩ := hp.ex
    refine ⟨_, PSs.nox (pss_mid (ps_set (i := 3) scAG.nd rfl (Or.inl rfl) (pe_make MS GS r2 rfl mS bS .nil pass0 (pa_cons (pv 0) (pa_cons (pv 1) (pa_cons (pv 2) pa_nil)))))
      (pss_cons (ps_expr (pe_bm PySem.F.plainAttrs_list PySem.F.slot_list_append PySem.F.type_list_append mt_append (pe_fld (pv 0) rfl) (pa_cons (pv 3) pa_nil)))
      (pss_one (ps_ret (pv 3))))), ?_⟩
    refine ⟨fun σ' H' => ∃ (g d m : Addr), σ' = [some (.ref p), some (.str "t"), some (.str x), some (.ref g)] ∧ Same H H' ∧ H g = none ∧ H m = none ∧ H' g = some (.ins CS d (sFs (.ref p) (.str "t") (.str x) m)) ∧ H' m = some (.lst []), ?_, ?_⟩
    · refine ⟨_, rfl, _, rfl, _, rfl, fun a0 d0 ha0 hd0 ne0 => ⟨a0, d0, _, _, _, rfl, upd_same, fun m0 K1 kp1 nm0 hm0 hs0 => ⟨rfl, a0, d0, m0, rfl, ?_, ha0, ?_, hs0, hm0⟩⟩⟩
      · have q1 : Same H (upd (upd H d0 (.own a0)) a0 (.ins CS d0 [])) := same_upd2 (same_upd hd0) (by rw [upd_ne ne0.symm]; exact ha0)
        exact fun b o e => kp1 _ _ (q1 _ _ e) (ne_of_none e ha0)
      · have q1 : Same H (upd (upd H d0 (.own a0)) a0 (.ins CS d0 [])) := same_upd2 (same_upd hd0) (by rw [upd_ne ne0.symm]; exact ha0)
        exact none_of' q1 nm0
    rintro _ H1 ⟨g, d, m, rfl, e1, hg0, hm0, hg, hm⟩
    have hl1 := e1 _ _ hls
    refine ⟨_, rfl, p, CP, dx, _, _, rfl, e1 _ _ hP, cP.cl, cP.no _ (by decide +kernel), rfl, .inl ⟨rfl, _, SqL.of hl1⟩, _, rfl, ls, _, _, rfl, rfl, hl1, (by omega), ?_⟩
    have ng : g ≠ ls := (ne_of_none hls hg0).symm
    have nm : m ≠ ls := (ne_of_none hls hm0).symm
    exact ⟨_, rfl, k g _ (fun b u e n => by rw [upd_ne n]; exact e1 _ _ e) upd_same ⟨g, d, m, _, _, rfl, by rw [upd_ne ng]; exact hg, by rw [upd_ne nm]; exact hm, fun _ _ => rfl⟩⟩
theorem scPFH : FnScope ["self"] ["self"] (defScope sParFH) := ⟨rfl, rfl, rfl, by decide +kernel, rfl, by decide +kernel, by decide +kernel⟩
theorem ok_pfh {f fF CP CS : Addr} {fd fdF : FuncData} (F : Fun K "format_help" "Parser.format_help" sParFH f fd) (Fh : At P w K mg base "format_help_helping" 5 ["parser"] (spFH K CP CS) fF fdF) : FnOk P w K mg base CX0 6 f fd ["self"] (spFH K CP CS) := by
  refine F.ok scPFH (fun vs H Q E h => ?_) (fun cdv A outer s H vs Q E hr h => ?_)
  · obtain ⟨p, aL, la, le, ls, pr, y, ds, ep, wd, n, vs', os, rfl, _⟩ := h
    rfl
  · have hh := h
    obtain ⟨p, aL, la, le, ls, pr, y, ds, ep, wd, n, vs', os, rfl, _⟩ := hh
    refine ⟨_, pss_one (ps_ret (pe_call Fh.ok hr rfl Fh.m Fh.k Fh.b .nil pass0 (pa_cons (pv 0) pa_nil))), ?_⟩
    exact ⟨_, rfl, h⟩
end
end K45

/-! split and replace of a text whose parts are known -/
namespace XTight
open PySem PySem.StrLaws Builtin Builtin.Str
def jn (y : List Nat) : List (List Nat) → List Nat
  | [] => []
  | [p] => p
  | p :: q :: r => p ++ y ++ jn y (q :: r)
/-- y begins nowhere in l ahead of n -/
def NoAt (y l : List Nat) (n : Nat) : Prop := ∀ k, k < n → (l.drop k).take y.length ≠ y
def Tight (y : List Nat) : List (List Nat) → Prop
  | [] => False
  | [p] => NoAt y p (p.length + 1)
  | p :: q :: r => NoAt y (jn y (p :: q :: r)) p.length ∧ Tight y (q :: r)
theorem at_iff {s sub : Str} {i : Nat} : At s sub s.length i ↔ i + sub.length ≤ s.length ∧ (s.cps.toList.drop i).take sub.length = sub.cps.toList := by
  unfold At
  rw [subAt_eq]
  constructor
  · rintro ⟨h1, h2⟩
    exact ⟨h1, by simpa using h2⟩
  · rintro ⟨h1, h2⟩
    exact ⟨h1, by simpa using h2⟩
theorem len_toList (x : Str) : x.cps.toList.length = x.length := by simp [Str.length]
theorem take_eq_len {l y : List Nat} {k : Nat} (h : (l.drop k).take y.length = y) (hy : y ≠ []) : k + y.length ≤ l.length := by
  have := congrArg List.length h
  rw [List.length_take, List.length_drop] at this
  have hp : 0 < y.length := List.length_pos_iff.mpr hy
  omega
theorem cuts_of {x y : Str} (hy : y.cps.toList ≠ []) : ∀ (parts : List (List Nat)) (pre : List Nat) (cuts : List Nat) (f : Nat), x.cps.toList = pre ++ jn y.cps.toList parts → Tight y.cps.toList parts → ChainG x y x.length pre.length cuts f → (∀ k, f ≤ k → ¬ At x y x.length k) →
    (partsFrom x y.length pre.length cuts).map (·.cps.toList) = parts ∧ (parts.length = 1 → cuts = []) ∧ (cuts = [] → parts.length = 1)
  | [], pre, cuts, f, _, t, _, _ => t.elim
  | [p], pre, cuts, f, e, t, ch, no => by
    have e' : x.cps.toList = pre ++ p := e
    have xl : x.length = pre.length + p.length := by rw [← len_toList, e', List.length_append]
    have nat : ∀ c, pre.length ≤ c → ¬ At x y x.length c := fun c hc ha => by
      obtain ⟨h1, h2⟩ := at_iff.mp ha
      rw [e', List.drop_append] at h2
      have d0 : pre.drop c = [] := List.drop_eq_nil_of_le hc
      rw [d0, List.nil_append, ← len_toList y] at h2
      refine t (c - pre.length) ?_ h2
      omega
    have hc : cuts = [] := by
      cases cuts with
      | nil => rfl
      | cons c r => exact absurd ch.2.1 (nat c ch.1)
    subst hc
    refine ⟨?_, fun _ => rfl, fun _ => rfl⟩
    show [(strSub x pre.length x.length).cps.toList] = [p]
    rw [strSub_toList, e', List.drop_append, List.drop_eq_nil_of_le (Nat.le_refl _), Nat.sub_self, List.drop_zero, List.nil_append]
    rw [List.take_of_length_le (by omega)]
  | p :: q :: r, pre, cuts, f, e, t, ch, no => by
    have yl := len_toList y
    have hyp : 0 < y.cps.toList.length := List.length_pos_iff.mpr hy
    have e' : x.cps.toList = (pre ++ p ++ y.cps.toList) ++ jn y.cps.toList (q :: r) := by
      rw [e]
      show pre ++ (p ++ y.cps.toList ++ jn _ _) = _
      simp only [List.append_assoc]
    have xl : x.length = pre.length + p.length + y.length + (jn y.cps.toList (q :: r)).length := by
      rw [← len_toList x, e', List.length_append, List.length_append, List.length_append, yl]
    have hat : At x y x.length (pre.length + p.length) := by
      refine at_iff.mpr ⟨by omega, ?_⟩
      rw [e', List.append_assoc, ← List.length_append, List.drop_left, List.take_append_of_le_length (by omega), ← yl, List.take_length]
    have nat : ∀ c, pre.length ≤ c → c < pre.length + p.length → ¬ At x y x.length c := fun c h1 h2 ha => by
      obtain ⟨_, h3⟩ := at_iff.mp ha
      rw [e, List.drop_append] at h3
      have d0 : pre.drop c = [] := List.drop_eq_nil_of_le h1
      rw [d0, List.nil_append, ← yl] at h3
      exact t.1 (c - pre.length) (by omega) h3
    cases cuts with
    | nil =>
      have ef : f = pre.length := ch
      exact absurd hat (no _ (by omega))
    | cons c cs =>
      obtain ⟨c1, c2, c3, c4⟩ := ch
      have ec : c = pre.length + p.length := by
        rcases Nat.lt_trichotomy c (pre.length + p.length) with h | h | h
        · exact absurd c2 (nat c c1 h)
        · exact h
        · exact absurd hat (c3 _ (by omega) h)
      subst ec
      have el : (pre ++ p ++ y.cps.toList).length = pre.length + p.length + y.length := by rw [List.length_append, List.length_append, yl]
      rw [← el] at c4
      obtain ⟨i1, _⟩ := cuts_of hy (q :: r) (pre ++ p ++ y.cps.toList) cs f e' t.2 c4 no
      refine ⟨?_, fun h => by simp at h, fun h => by cases h⟩
      show (strSub x pre.length (pre.length + p.length)).cps.toList :: (partsFrom x y.length (pre.length + p.length + y.length) cs).map (·.cps.toList) = p :: q :: r
      rw [← el, i1, strSub_toList, e', List.append_assoc, List.append_assoc, List.drop_left, Nat.add_sub_cancel_left, List.take_left]
theorem toList_inj {a b : Str} (h : a.cps.toList = b.cps.toList) : a = b := by
  cases a
  cases b
  simp at h
  rw [h]
theorem map_inj : ∀ {a b : List Str}, a.map (·.cps.toList) = b.map (·.cps.toList) → a = b
  | [], [], _ => rfl
  | [], _ :: _, h => by cases h
  | _ :: _, [], h => by cases h
  | x :: a, y :: b, h => by
    rw [List.map_cons, List.map_cons, List.cons.injEq] at h
    rw [toList_inj h.1, map_inj h.2]
theorem jn_str (y : Str) : ∀ ps : List Str, (Str.join y ps).cps.toList = jn y.cps.toList (ps.map (·.cps.toList))
  | [] => rfl
  | [p] => rfl
  | p :: q :: r => by
    show (p ++ y ++ Str.join y (q :: r)).cps.toList = _
    rw [Str.cps_append, Str.cps_append, Array.toList_append, Array.toList_append, jn_str y (q :: r)]
    rfl
theorem parts_ne {y : Str} {parts : List Str} (t : Tight y.cps.toList (parts.map (·.cps.toList))) : parts ≠ [] := by
  rintro rfl
  exact t
/-- the parts of a text, told -/
theorem between_of {y : Str} {parts : List Str} (hy : y.cps.toList ≠ []) (t : Tight y.cps.toList (parts.map (·.cps.toList))) :
    partsBetween (Str.join y parts) (occurrences (Str.join y parts) y 0 (Str.join y parts).length ((Str.join y parts).length + 1)) y.length = parts ∧ ((occurrences (Str.join y parts) y 0 (Str.join y parts).length ((Str.join y parts).length + 1)).isEmpty = true ↔ parts.length = 1) := by
  have hl : 1 ≤ y.length := by
    rw [← len_toList]
    exact List.length_pos_iff.mpr hy
  obtain ⟨f, c, no⟩ := occ_tight (Str.join y parts) y hl
  obtain ⟨h1, h2, h3⟩ := cuts_of hy (parts.map (·.cps.toList)) [] _ f (by rw [List.nil_append]; exact jn_str y parts) t c no
  rw [List.length_map] at h2 h3
  rw [partsBetween_eq]
  refine ⟨map_inj h1, ⟨fun h => h3 (List.isEmpty_iff.mp h), fun h => List.isEmpty_iff.mpr (h2 h)⟩⟩
theorem kind_pos (x : Str) : 1 ≤ PySem.Builtin.Str.strKind x := by
  unfold PySem.Builtin.Str.strKind
  split
  · exact Nat.le_refl _
  · split <;> omega
theorem one_of {y : Str} {parts : List Str} (h : parts.length = 1) : [Str.join y parts] = parts := by
  match parts, h with
  | [p], _ => rfl
theorem split_of {y : Str} {parts : List Str} (hy : y.cps.toList ≠ []) (hk : PySem.Builtin.Str.strKind y = 1) (t : Tight y.cps.toList (parts.map (·.cps.toList))) : Txt.split (Str.join y parts) y = parts := by
  obtain ⟨h1, h2⟩ := between_of hy t
  unfold Txt.split
  have hkk : decide (PySem.Builtin.Str.strKind (Str.join y parts) < PySem.Builtin.Str.strKind y) = false := decide_eq_false (by have := kind_pos (Str.join y parts); omega)
  rw [hkk, Bool.or_false]
  by_cases hlt : (Str.join y parts).length < y.length
  · rw [if_pos (decide_eq_true hlt)]
    have : parts.length = 1 := by
      rcases parts with _ | ⟨p, _ | ⟨q, r⟩⟩
      · exact absurd rfl (parts_ne t)
      · rfl
      · exfalso
        have e : (Str.join y (p :: q :: r)).length = p.length + y.length + (Str.join y (q :: r)).length := by
          show (p ++ y ++ Str.join y (q :: r)).length = _
          rw [Str.length_append, Str.length_append]
        omega
    exact one_of this
  · rw [if_neg (fun z => hlt (of_decide_eq_true z))]
    by_cases he : (occurrences (Str.join y parts) y 0 (Str.join y parts).length ((Str.join y parts).length + 1)).isEmpty = true
    · rw [if_pos he]
      exact one_of (h2.mp he)
    · rw [if_neg he]
      exact h1
theorem replace_of {y z : Str} {parts : List Str} (hy : y.cps.toList ≠ []) (t : Tight y.cps.toList (parts.map (·.cps.toList))) : Txt.replace (Str.join y parts) y z = Str.join z parts := by
  obtain ⟨h1, h2⟩ := between_of hy t
  have hyl : (y.length == 0) = false := by
    rw [← len_toList]
    have := List.length_pos_iff.mpr hy
    exact beq_eq_false_iff_ne.mpr (by omega)
  unfold Txt.replace
  rw [hyl, Bool.false_and, Bool.or_false]
  by_cases he : (occurrences (Str.join y parts) y 0 (Str.join y parts).length ((Str.join y parts).length + 1)).isEmpty = true
  · rw [if_pos he]
    match parts, h2.mp he with
    | [p], _ => rfl
  · rw [if_neg he, h1, glued_eq_join]
/-- whether y is in a text -/
theorem found_of {y : Str} {parts : List Str} (hy : y.cps.toList ≠ []) (t : Tight y.cps.toList (parts.map (·.cps.toList))) : (!(occurrences (Str.join y parts) y 0 (Str.join y parts).length 1).isEmpty) = decide (parts.length ≠ 1) := by
  obtain ⟨h1, h2⟩ := between_of hy t
  by_cases hp : parts.length = 1
  · rw [decide_eq_false (fun z => z hp)]
    cases q : !(occurrences (Str.join y parts) y 0 (Str.join y parts).length 1).isEmpty with
    | false => rfl
    | true =>
      obtain ⟨i, a1, a2⟩ := (found_iff (Str.join y parts) y).mp q
      match parts, hp with
      | [p], _ =>
        have ha := at_iff.mp (show At p y p.length i from ⟨a1, a2⟩)
        exact absurd (by rw [len_toList]; exact ha.2) (t i (by rw [len_toList]; omega))
  · rw [decide_eq_true hp]
    refine (found_iff (Str.join y parts) y).mpr ?_
    rcases parts with _ | ⟨p, _ | ⟨q, r⟩⟩
    · exact absurd rfl (parts_ne t)
    · exact absurd rfl hp
    · have e : (Str.join y (p :: q :: r)).length = p.length + y.length + (Str.join y (q :: r)).length := by
        show (p ++ y ++ Str.join y (q :: r)).length = _
        rw [Str.length_append, Str.length_append]
      have ha : At (Str.join y (p :: q :: r)) y (Str.join y (p :: q :: r)).length p.length := by
        refine at_iff.mpr ⟨by omega, ?_⟩
        rw [jn_str]
        show ((p.cps.toList ++ y.cps.toList ++ jn _ _).drop p.length).take y.length = _
        rw [List.append_assoc, ← len_toList p, List.drop_left, List.take_append_of_le_length (by rw [len_toList]; exact Nat.le_refl _), ← len_toList, List.take_length]
      exact ⟨_, ha.1, ha.2⟩
end XTight

/-! texts of rows, blocks of rows, and line feeds between them -/
namespace XRuns
open PySem XTight
/-- the longest run of line feeds, cur of them ahead -/
def mr (cur : Nat) : List Nat → Nat
  | [] => cur
  | c :: l => if c = 10 then mr (cur + 1) l else max cur (mr 0 l)
theorem mr_nl (cur : Nat) (l : List Nat) : mr cur (10 :: l) = mr (cur + 1) l := by
  rw [mr, if_pos rfl]
theorem mr_ot {c : Nat} (h : c ≠ 10) (cur : Nat) (l : List Nat) : mr cur (c :: l) = max cur (mr 0 l) := by
  rw [mr, if_neg h]
theorem mr_ge : ∀ (l : List Nat) (cur : Nat), cur ≤ mr cur l
  | [], cur => Nat.le_refl _
  | c :: l, cur => by
    unfold mr
    split
    · exact Nat.le_trans (Nat.le_succ _) (mr_ge l (cur + 1))
    · exact Nat.le_max_left _ _
theorem mr_mono : ∀ (l : List Nat) (a b : Nat), a ≤ b → mr a l ≤ mr b l
  | [], a, b, h => h
  | c :: l, a, b, h => by
    unfold mr
    split
    · exact mr_mono l _ _ (Nat.succ_le_succ h)
    · have := Nat.le_max_left b (mr 0 l)
      exact Nat.max_le.mpr ⟨by omega, Nat.le_max_right _ _⟩
theorem mr_drop : ∀ (l : List Nat) (cur k : Nat), mr 0 (l.drop k) ≤ mr cur l
  | [], cur, k => by
    rw [List.drop_nil]
    exact Nat.zero_le _
  | c :: l, cur, 0 => mr_mono _ _ _ (Nat.zero_le _)
  | c :: l, cur, k + 1 => by
    show mr 0 (l.drop k) ≤ _
    by_cases h : c = 10
    · subst h
      rw [mr_nl]
      exact mr_drop l _ k
    · rw [mr_ot h]
      exact Nat.le_trans (mr_drop l 0 k) (Nat.le_max_right _ _)
theorem mr_rep : ∀ (r cur : Nat) (l : List Nat), mr cur (List.replicate r 10 ++ l) = mr (cur + r) l
  | 0, cur, l => rfl
  | r + 1, cur, l => by
    rw [List.replicate_succ]
    show mr cur (10 :: (List.replicate r 10 ++ l)) = _
    rw [mr_nl, mr_rep r (cur + 1) l]
    have e : cur + 1 + r = cur + (r + 1) := by omega
    rw [e]
theorem no_inf {l : List Nat} {m : Nat} (h : mr 0 l < m) (k : Nat) : (l.drop k).take m ≠ List.replicate m 10 := by
  intro e
  have h1 := mr_drop l 0 k
  have h2 : l.drop k = List.replicate m 10 ++ (l.drop k).drop m := by
    have := List.take_append_drop m (l.drop k)
    rw [e] at this
    exact this.symm
  rw [h2, mr_rep] at h1
  have := mr_ge ((l.drop k).drop m) (0 + m)
  omega
/-- a row: not empty, without line feeds -/
def Row (r : List Nat) : Prop := r ≠ [] ∧ 10 ∉ r
theorem mr_row {r : List Nat} (h : Row r) (cur n : Nat) (l : List Nat) (h1 : cur ≤ n) (h2 : mr 0 l ≤ n) : mr cur (r ++ l) ≤ n := by
  obtain ⟨h0, hn⟩ := h
  induction r generalizing cur with
  | nil => exact absurd rfl h0
  | cons c r ih =>
    show mr cur (c :: (r ++ l)) ≤ n
    have hc : ¬ c = 10 := fun z => hn (by rw [z]; exact List.mem_cons_self)
    rw [mr_ot hc]
    refine Nat.max_le.mpr ⟨h1, ?_⟩
    cases r with
    | nil => exact h2
    | cons d r => exact ih 0 (Nat.zero_le _) (fun z => nomatch z) (fun z => hn (List.mem_cons_of_mem _ z))
/-- a block: rows with one line feed between -/
def Blk (rs : List (List Nat)) : Prop := rs ≠ [] ∧ ∀ r ∈ rs, Row r
def bt (rs : List (List Nat)) : List Nat := jn [10] rs
theorem mr_blk : ∀ {rs : List (List Nat)}, Blk rs → ∀ (cur n : Nat) (l : List Nat), 1 ≤ n → cur ≤ n → mr 0 l ≤ n → mr cur (bt rs ++ l) ≤ n
  | [], h, _, _, _, _, _, _ => absurd rfl h.1
  | [r], h, cur, n, l, _, h1, h2 => mr_row (h.2 r List.mem_cons_self) cur n l h1 h2
  | r :: s :: t, h, cur, n, l, hn, h1, h2 => by
    have e : bt (r :: s :: t) ++ l = r ++ ([10] ++ (bt (s :: t) ++ l)) := by
      show (r ++ [10] ++ jn [10] (s :: t)) ++ l = _
      simp only [List.append_assoc]
      rfl
    rw [e]
    refine mr_row (h.2 r List.mem_cons_self) cur n _ h1 ?_
    show mr 0 (10 :: (bt (s :: t) ++ l)) ≤ n
    rw [mr_nl]
    exact mr_blk (rs := s :: t) ⟨(fun z => nomatch z), fun x hx => h.2 x (List.mem_cons_of_mem _ hx)⟩ 1 n l hn hn h2
theorem mr_end {rs : List (List Nat)} (h : Blk rs) (cur n : Nat) (hn : 1 ≤ n) (h1 : cur ≤ n) : mr cur (bt rs) ≤ n := by
  have := mr_blk h cur n [] hn h1 (Nat.zero_le _)
  rw [List.append_nil] at this
  exact this
theorem mr_run (r cur n : Nat) (l : List Nat) (h : mr (cur + r) l ≤ n) : mr cur (List.replicate r 10 ++ l) ≤ n := by
  rw [mr_rep]
  exact h
/-- the last sign is no line feed -/
def Lst (l : List Nat) : Prop := ∃ a c, l = a ++ [c] ∧ c ≠ 10
theorem lst_row {r : List Nat} (h : Row r) : Lst r := by
  refine ⟨r.dropLast, r.getLast h.1, (List.dropLast_concat_getLast h.1).symm, fun z => h.2 ?_⟩
  rw [← z]
  exact List.getLast_mem h.1
theorem lst_app {a b : List Nat} (h : Lst b) : Lst (a ++ b) := by
  obtain ⟨x, c, e, hc⟩ := h
  exact ⟨a ++ x, c, by rw [e, List.append_assoc], hc⟩
theorem lst_blk : ∀ {rs : List (List Nat)}, Blk rs → Lst (bt rs)
  | [], h => absurd rfl h.1
  | [r], h => lst_row (h.2 r List.mem_cons_self)
  | r :: s :: t, h => by
    show Lst (r ++ [10] ++ jn [10] (s :: t))
    exact lst_app (lst_blk (rs := s :: t) ⟨(fun z => nomatch z), fun x hx => h.2 x (List.mem_cons_of_mem _ hx)⟩)
theorem no_at {m : Nat} (hm : 1 ≤ m) {p l : List Nat} (h : mr 0 p < m) (hl : Lst p) : NoAt (List.replicate m 10) (p ++ l) p.length := by
  intro k hk e
  rw [List.length_replicate] at e
  by_cases hle : k + m ≤ p.length
  · rw [List.drop_append_of_le_length (by omega), List.take_append_of_le_length (by rw [List.length_drop]; omega)] at e
    exact no_inf h k e
  · obtain ⟨a, c, rfl, hc⟩ := hl
    rw [List.length_append] at hk hle
    have hk' : k ≤ a.length := by
      have h1 : ([c] : List Nat).length = 1 := rfl
      omega
    have h1 : ([c] : List Nat).length = 1 := rfl
    have hi : a.length - k < m := by omega
    have e1 : ((((a ++ [c]) ++ l).drop k).take m)[a.length - k]? = (List.replicate m 10)[a.length - k]? := by rw [e]
    rw [List.getElem?_take_of_lt hi, List.getElem?_drop] at e1
    have e2 : k + (a.length - k) = a.length := by omega
    rw [e2, List.append_assoc, List.getElem?_append_right (Nat.le_refl _), Nat.sub_self] at e1
    rw [List.getElem?_replicate, if_pos hi] at e1
    simp at e1
    exact hc e1
theorem no_at_end {m : Nat} {p : List Nat} (h : mr 0 p < m) : NoAt (List.replicate m 10) p (p.length + 1) := by
  intro k _ e
  rw [List.length_replicate] at e
  exact no_inf h k e
/-- parts with short runs, none but the last one ends with a line feed -/
def Pts (m : Nat) : List (List Nat) → Prop
  | [] => False
  | [p] => mr 0 p < m
  | p :: q :: r => mr 0 p < m ∧ Lst p ∧ Pts m (q :: r)
theorem tight_pts {m : Nat} (hm : 1 ≤ m) : ∀ {ps : List (List Nat)}, Pts m ps → Tight (List.replicate m 10) ps
  | [], h => h.elim
  | [p], h => no_at_end h
  | p :: q :: r, h => by
    refine ⟨?_, tight_pts hm h.2.2⟩
    show NoAt _ (p ++ List.replicate m 10 ++ jn _ (q :: r)) p.length
    rw [List.append_assoc]
    exact no_at hm h.1 h.2.1
theorem pts_rows : ∀ {rs : List (List Nat)}, Blk rs → Pts 1 rs
  | [], h => absurd rfl h.1
  | [r], h => by
    have hr := h.2 r List.mem_cons_self
    have := mr_row hr 0 0 [] (Nat.le_refl _) (Nat.le_refl _)
    rw [List.append_nil] at this
    show mr 0 r < 1
    omega
  | r :: s :: t, h => by
    have hr := h.2 r List.mem_cons_self
    have := mr_row hr 0 0 [] (Nat.le_refl _) (Nat.le_refl _)
    rw [List.append_nil] at this
    exact ⟨by omega, lst_row hr, pts_rows (rs := s :: t) ⟨(fun z => nomatch z), fun x hx => h.2 x (List.mem_cons_of_mem _ hx)⟩⟩
end XRuns

/-! the words of a text, by its signs -/
namespace XWords
open PySem PySem.StrLaws Builtin Builtin.Str
def sw (cur : List Nat) : List Nat → List (List Nat)
  | [] => if cur = [] then [] else [cur]
  | c :: l => if Unicode.isSpace c = true then (if cur = [] then sw [] l else cur :: sw [] l) else sw (cur ++ [c]) l
theorem sub_list (x : Str) (i j : Nat) : (strSub x i j).cps.toList = (x.cps.toList.drop i).take (j - i) := strSub_toList x i j
def subs (x : Str) (l : List (Nat × Nat)) : List (List Nat) := l.map fun p => (x.cps.toList.drop p.1).take (p.2 - p.1)
def curOf (x : Str) (i : Nat) : Option Nat → List Nat
  | some b => (x.cps.toList.drop b).take (i - b)
  | none => []
/-- a state behind i signs -/
structure Sk (x : Str) (i : Nat) (st : SwSt) : Prop where
  r : st.fst = none
  n : st.snd.fst.size ≤ i
  b : ∀ b, st.snd.snd = some b → b < i
theorem len_toList (x : Str) : x.cps.toList.length = x.length := by simp [Str.length]
theorem drop_cons {l : List Nat} {i : Nat} (h : i < l.length) : l.drop i = l[i] :: l.drop (i + 1) := List.drop_eq_getElem_cons h
theorem getD_at {x : Str} {i : Nat} (h : i < x.cps.toList.length) : x.cps.getD i 0 = x.cps.toList[i] := by
  have h' : i < x.cps.size := by simpa using h
  simp [Array.getD, h']
theorem take_snoc {l : List Nat} {b i : Nat} (hb : b ≤ i) (h : i < l.length) : (l.drop b).take (i + 1 - b) = (l.drop b).take (i - b) ++ [l[i]] := by
  have e : i + 1 - b = (i - b) + 1 := by omega
  rw [e, List.take_succ, List.getElem?_drop]
  have e2 : b + (i - b) = i := by omega
  rw [e2, List.getElem?_eq_getElem h]
  rfl
theorem run_sw (x : Str) (limit : Nat) (hl : x.length < limit) : ∀ (m i : Nat) (st : SwSt), i + m = x.length → Sk x i st →
    subs x (swEnd x (forIn (List.range' i m) st (swBody x limit)).run) = subs x st.snd.fst.toList ++ sw (curOf x i st.snd.snd) (x.cps.toList.drop i)
  | 0, i, (r, ws, start), hm, h => by
    have h1 : r = none := h.r
    subst h1
    have hi : i = x.length := by omega
    subst hi
    have hd : x.cps.toList.drop x.length = [] := List.drop_eq_nil_of_le (by rw [len_toList]; exact Nat.le_refl _)
    show subs x (swEnd x (none, ws, start)) = subs x ws.toList ++ sw (curOf x x.length start) (x.cps.toList.drop x.length)
    rw [hd]
    cases start with
    | none =>
      show subs x ws.toList = subs x ws.toList ++ []
      rw [List.append_nil]
    | some b =>
      have hb := h.b b rfl
      show subs x (ws.push (b, x.length)).toList = subs x ws.toList ++ (if curOf x x.length (some b) = [] then [] else [curOf x x.length (some b)])
      have hne : curOf x x.length (some b) ≠ [] := by
        intro z
        have := congrArg List.length z
        unfold curOf at this
        rw [List.length_take, List.length_drop, len_toList] at this
        have h0 : ([] : List Nat).length = 0 := rfl
        omega
      rw [if_neg hne, Array.toList_push]
      unfold subs curOf
      rw [List.map_append]
      rfl
  | m + 1, i, (r, ws, start), hm, h => by
    have h1 : r = none := h.r
    subst h1
    have hi : i < x.cps.toList.length := by
      rw [len_toList]
      omega
    have hn : ws.size ≤ i := h.n
    have hsz : ¬ ((ws.size == limit) = true) := by
      simp
      rw [len_toList] at hi
      omega
    rw [List.range'_succ, List.forIn_cons, drop_cons hi]
    unfold swBody
    dsimp only
    rw [if_neg hsz, getD_at hi]
    cases start with
    | none =>
      cases hs : Unicode.isSpace x.cps.toList[i] with
      | true =>
        rw [show sw (curOf x i none) (x.cps.toList[i] :: x.cps.toList.drop (i + 1)) = sw [] (x.cps.toList.drop (i + 1)) by
          show sw [] (_ :: _) = _
          rw [sw, if_pos hs, if_pos rfl]]
        exact run_sw x limit hl m (i + 1) (none, ws, none) (by omega) ⟨rfl, by show ws.size ≤ i + 1; omega, fun b e => nomatch e⟩
      | false =>
        rw [show sw (curOf x i none) (x.cps.toList[i] :: x.cps.toList.drop (i + 1)) = sw (curOf x (i + 1) (some i)) (x.cps.toList.drop (i + 1)) by
          show sw [] (_ :: _) = _
          rw [sw, if_neg (by rw [hs]; exact Bool.false_ne_true)]
          unfold curOf
          dsimp only
          rw [take_snoc (Nat.le_refl i) hi, Nat.sub_self, List.take_zero]]
        exact run_sw x limit hl m (i + 1) (none, ws, some i) (by omega) ⟨rfl, by show ws.size ≤ i + 1; omega, fun b e => by cases e; exact Nat.lt_succ_self _⟩
    | some b =>
      have hb : b < i := h.b b rfl
      have hne : curOf x i (some b) ≠ [] := by
        intro z
        have := congrArg List.length z
        unfold curOf at this
        rw [List.length_take, List.length_drop] at this
        have h0 : ([] : List Nat).length = 0 := rfl
        omega
      cases hs : Unicode.isSpace x.cps.toList[i] with
      | true =>
        rw [show sw (curOf x i (some b)) (x.cps.toList[i] :: x.cps.toList.drop (i + 1)) = curOf x i (some b) :: sw [] (x.cps.toList.drop (i + 1)) by
          rw [sw, if_pos hs, if_neg hne]]
        have ih := run_sw x limit hl m (i + 1) (none, ws.push (b, i), none) (by omega) ⟨rfl, by show (ws.push (b, i)).size ≤ i + 1; rw [Array.size_push]; omega, fun b e => nomatch e⟩
        refine ih.trans ?_
        show subs x (ws.push (b, i)).toList ++ sw [] _ = _
        rw [Array.toList_push]
        unfold subs curOf
        rw [List.map_append, List.append_assoc]
        rfl
      | false =>
        rw [show sw (curOf x i (some b)) (x.cps.toList[i] :: x.cps.toList.drop (i + 1)) = sw (curOf x (i + 1) (some b)) (x.cps.toList.drop (i + 1)) by
          rw [sw, if_neg (by rw [hs]; exact Bool.false_ne_true)]
          unfold curOf
          dsimp only
          rw [take_snoc (Nat.le_of_lt hb) hi]]
        exact run_sw x limit hl m (i + 1) (none, ws, some b) (by omega) ⟨rfl, by show ws.size ≤ i + 1; omega, fun b' e => by cases e; omega⟩
theorem toList_inj {a b : Str} (h : a.cps.toList = b.cps.toList) : a = b := by
  cases a
  cases b
  simp at h
  rw [h]
theorem map_inj : ∀ {a b : List Str}, a.map (·.cps.toList) = b.map (·.cps.toList) → a = b
  | [], [], _ => rfl
  | [], _ :: _, h => by cases h
  | _ :: _, [], h => by cases h
  | x :: a, y :: b, h => by
    rw [List.map_cons, List.map_cons, List.cons.injEq] at h
    rw [toList_inj h.1, map_inj h.2]
theorem wordsOf_sw (x : Str) : (wordsOf x).map (·.cps.toList) = sw [] x.cps.toList := by
  unfold wordsOf
  rw [sw_eq, List.map_map]
  have h := run_sw x (x.length + 1) (Nat.lt_succ_self _) x.length 0 (none, #[], none) (by omega) ⟨rfl, Nat.zero_le _, fun b e => nomatch e⟩
  have e : subs x (#[] : Array (Nat × Nat)).toList ++ sw (curOf x 0 none) (x.cps.toList.drop 0) = sw [] x.cps.toList := rfl
  rw [e] at h
  rw [← h]
  unfold subs
  refine List.map_congr_left fun p _ => ?_
  exact sub_list x p.1 p.2
theorem words_sw (x : Str) : (Txt.words x).map (·.cps.toList) = sw [] x.cps.toList := by
  unfold Txt.words
  split
  · rename_i h
    rw [← wordsOf_sw]
    unfold wordsOf
    rw [beq_iff_eq.mp h]
    show [x.cps.toList] = [(strSub x 0 x.length).cps.toList]
    rw [sub_list, List.drop_zero, Nat.sub_zero, List.take_of_length_le (by rw [len_toList]; exact Nat.le_refl _)]
  · exact wordsOf_sw x
def spc (g : List Nat) : Prop := ∀ c ∈ g, Unicode.isSpace c = true
def blk (w : List Nat) : Prop := w ≠ [] ∧ ∀ c ∈ w, Unicode.isSpace c = false
theorem sw_word {w : List Nat} (h : ∀ c ∈ w, Unicode.isSpace c = false) : ∀ (cur l : List Nat), sw cur (w ++ l) = sw (cur ++ w) l := by
  induction w with
  | nil =>
    intro cur l
    rw [List.append_nil]
    rfl
  | cons c w ih =>
    intro cur l
    show sw cur (c :: (w ++ l)) = _
    rw [sw, if_neg (by rw [h c List.mem_cons_self]; exact Bool.false_ne_true), ih (fun d hd => h d (List.mem_cons_of_mem _ hd)), List.append_assoc]
    rfl
theorem sw_gap0 {g : List Nat} (h : spc g) (l : List Nat) : sw [] (g ++ l) = sw [] l := by
  induction g with
  | nil => rfl
  | cons c g ih =>
    show sw [] (c :: (g ++ l)) = _
    rw [sw, if_pos (h c List.mem_cons_self), if_pos rfl]
    exact ih fun d hd => h d (List.mem_cons_of_mem _ hd)
theorem sw_gap {g cur : List Nat} (h : spc g) (hg : g ≠ []) (hc : cur ≠ []) (l : List Nat) : sw cur (g ++ l) = cur :: sw [] l := by
  cases g with
  | nil => exact absurd rfl hg
  | cons c g =>
    show sw cur (c :: (g ++ l)) = _
    rw [sw, if_pos (h c List.mem_cons_self), if_neg hc, sw_gap0 fun d hd => h d (List.mem_cons_of_mem _ hd)]
/-- words, each with a gap behind it -/
theorem sw_list : ∀ (ps : List (List Nat × List Nat)), (∀ p ∈ ps, blk p.1 ∧ spc p.2 ∧ p.2 ≠ []) → ∀ l, sw [] ((ps.map fun p => p.1 ++ p.2).flatten ++ l) = ps.map (·.1) ++ sw [] l
  | [], _, l => rfl
  | p :: ps, h, l => by
    obtain ⟨h1, h2, h3⟩ := h p List.mem_cons_self
    rw [List.map_cons, List.flatten_cons, List.append_assoc, List.append_assoc, sw_word h1.2, List.nil_append, sw_gap h2 h3 h1.1, sw_list ps (fun q hq => h q (List.mem_cons_of_mem _ hq)) l]
    rfl
theorem sw_end {w : List Nat} (h : blk w) : sw [] w = [w] := by
  have := sw_word h.2 [] []
  rw [List.append_nil] at this
  rw [this, List.nil_append, sw, if_neg h.1]
/-- what words are: not empty, without spaces -/
theorem sw_blk : ∀ (l cur : List Nat), (∀ c ∈ cur, Unicode.isSpace c = false) → ∀ w ∈ sw cur l, blk w
  | [], cur, h, w, hw => by
    unfold sw at hw
    split at hw
    · cases hw
    · rename_i hc
      rw [List.mem_singleton.mp hw]
      exact ⟨hc, h⟩
  | c :: l, cur, h, w, hw => by
    unfold sw at hw
    split at hw
    · split at hw
      · exact sw_blk l [] (fun _ z => nomatch z) w hw
      · rename_i hc
        rcases List.mem_cons.mp hw with rfl | hw
        · exact ⟨hc, h⟩
        · exact sw_blk l [] (fun _ z => nomatch z) w hw
    · rename_i hs
      refine sw_blk l (cur ++ [c]) (fun d hd => ?_) w hw
      rcases List.mem_append.mp hd with hd | hd
      · exact h d hd
      · rw [List.mem_singleton.mp hd]
        exact Bool.eq_false_iff.mpr hs
end XWords

namespace K45
open PySem L2 PyProof PyProof.Rows
/-! ### the words of a drawn text -/
def wordsM : List Str := ["a", "of", "words", "long-wise", "{x}", "{", "}", "word.", "(see", "--all)", "ninesigns"]
def gapsM : List Str := [" ", " ", "  ", "\n", "\n\n", " \n "]
def leadsM : List Str := ["", " ", "\n"]
def textF (lead : Str) (ps : List (Str × Str)) : Str := lead ++ Txt.join "" (ps.map fun p => p.1 ++ p.2)
def wok (w : Str) : Bool := decide (w.cps.toList ≠ []) && w.cps.toList.all (fun c => !Unicode.isSpace c) && decide (w.length ≤ 9) && !w.cps.toList.contains 112 && PyData.strOk w
def gok (g : Str) : Bool := decide (g.cps.toList ≠ []) && g.cps.toList.all Unicode.isSpace && decide (g.length ≤ 3) && !g.cps.toList.contains 112
theorem wordsM_ok : ∀ w ∈ wordsM, wok w = true := by decide +kernel
theorem gapsM_ok : ∀ g ∈ gapsM, gok g = true := by decide +kernel
theorem leads_ok : ∀ g ∈ leadsM, g.cps.toList.all Unicode.isSpace = true ∧ g.length ≤ 1 ∧ g.cps.toList.contains 112 = false := by decide +kernel
structure Wd (w : Str) : Prop where
  b : XWords.blk w.cps.toList
  l : 1 ≤ w.length
  l9 : w.length ≤ 9
  p : 112 ∉ w.cps.toList
  k : PyData.strOk w = true
theorem wd_of {w : Str} (h : w ∈ wordsM) : Wd w := by
  have := wordsM_ok w h
  unfold wok at this
  simp only [Bool.and_eq_true, decide_eq_true_eq, List.all_eq_true, Bool.not_eq_true'] at this
  obtain ⟨⟨⟨⟨h1, h2⟩, h3⟩, h4⟩, h5⟩ := this
  refine ⟨⟨h1, h2⟩, ?_, h3, ?_, h5⟩
  · rw [← len_tl]
    exact List.length_pos_iff.mpr h1
  · intro z
    rw [List.contains_iff_mem.mpr z] at h4
    cases h4
theorem gap_of {g : Str} (h : g ∈ gapsM) : XWords.spc g.cps.toList ∧ g.cps.toList ≠ [] ∧ g.length ≤ 3 ∧ 112 ∉ g.cps.toList := by
  have := gapsM_ok g h
  unfold gok at this
  simp only [Bool.and_eq_true, decide_eq_true_eq, List.all_eq_true, Bool.not_eq_true'] at this
  obtain ⟨⟨⟨h1, h2⟩, h3⟩, h4⟩ := this
  refine ⟨h2, h1, h3, ?_⟩
  intro z
  rw [List.contains_iff_mem.mpr z] at h4
  cases h4
theorem join_nil : ∀ xs : List Str, (Txt.join "" xs).cps.toList = (xs.map (·.cps.toList)).flatten := by
  intro xs
  show (Builtin.Str.glued "" xs).cps.toList = _
  rw [StrLaws.glued_eq_join]
  induction xs with
  | nil => rfl
  | cons x xs ih =>
    cases xs with
    | nil =>
      show x.cps.toList = _
      simp
    | cons y ys =>
      show (x ++ "" ++ Str.join "" (y :: ys)).cps.toList = _
      rw [Str.cps_append, Str.cps_append, Array.toList_append, Array.toList_append, ih]
      show x.cps.toList ++ [] ++ _ = _
      rw [List.append_nil]
      rfl
structure Drawn (lead : Str) (ps : List (Str × Str)) : Prop where
  l : lead ∈ leadsM
  n : ps ≠ []
  n30 : ps.length ≤ 30
  m : ∀ p ∈ ps, p.1 ∈ wordsM ∧ p.2 ∈ gapsM
theorem text_list (lead : Str) (ps : List (Str × Str)) : (textF lead ps).cps.toList = lead.cps.toList ++ (ps.map fun p => p.1.cps.toList ++ p.2.cps.toList).flatten := by
  unfold textF
  rw [Str.cps_append, Array.toList_append, join_nil, List.map_map]
  congr 2
  apply List.map_congr_left
  intro p _
  show (p.1 ++ p.2).cps.toList = _
  rw [Str.cps_append, Array.toList_append]
theorem words_text {lead : Str} {ps : List (Str × Str)} (h : Drawn lead ps) : Txt.words (textF lead ps) = ps.map (·.1) := by
  apply XWords.map_inj
  rw [XWords.words_sw, text_list, XWords.sw_gap0 (fun c hc => List.all_eq_true.mp (leads_ok lead h.l).1 c hc)]
  have := XWords.sw_list (ps.map fun p => (p.1.cps.toList, p.2.cps.toList)) (fun q hq => by
    obtain ⟨p, hp, rfl⟩ := List.mem_map.mp hq
    obtain ⟨a, b⟩ := h.m p hp
    obtain ⟨g1, g2, _⟩ := gap_of b
    exact ⟨(wd_of a).b, g1, g2⟩) []
  rw [List.append_nil, List.map_map, List.map_map] at this
  have e : XWords.sw [] [] = [] := rfl
  rw [e, List.append_nil] at this
  rw [List.map_map]
  exact this
theorem text_len {lead : Str} {ps : List (Str × Str)} (h : Drawn lead ps) : (textF lead ps).length ≤ 361 := by
  rw [← len_tl, text_list, List.length_append]
  have h1 := (leads_ok lead h.l).2.1
  rw [← len_tl] at h1
  have h2 : ∀ qs : List (Str × Str), (∀ p ∈ qs, p.1 ∈ wordsM ∧ p.2 ∈ gapsM) → ((qs.map fun p => p.1.cps.toList ++ p.2.cps.toList).flatten).length ≤ 12 * qs.length := fun qs => by
    induction qs with
    | nil => intro _; exact Nat.le_refl _
    | cons p qs ih =>
      intro hq
      obtain ⟨a, b⟩ := hq p List.mem_cons_self
      have l1 := (wd_of a).l9
      have l2 := (gap_of b).2.2.1
      rw [← len_tl] at l1 l2
      have := ih fun q hq' => hq q (List.mem_cons_of_mem _ hq')
      rw [List.map_cons, List.flatten_cons, List.length_append, List.length_append, List.length_cons]
      omega
  have := h2 ps h.m
  have := h.n30
  omega
theorem text_p {lead : Str} {ps : List (Str × Str)} (h : Drawn lead ps) : 112 ∉ (textF lead ps).cps.toList := by
  rw [text_list]
  intro z
  rcases List.mem_append.mp z with z | z
  · have := (leads_ok lead h.l).2.2
    rw [List.contains_iff_mem.mpr z] at this
    cases this
  · obtain ⟨l, hl, hz⟩ := List.mem_flatten.mp z
    obtain ⟨p, hp, rfl⟩ := List.mem_map.mp hl
    obtain ⟨a, b⟩ := h.m p hp
    rcases List.mem_append.mp hz with hz | hz
    · exact (wd_of a).p hz
    · exact (gap_of b).2.2.2 hz
/-! ### nothing is put in -/
theorem toL_inj {a b : Str} (h : a.cps.toList = b.cps.toList) : a = b := XWords.toList_inj h
theorem cut_join (x : Str) (a b : Nat) (hb : b ≤ x.length) (hab : a ≤ b) : cutS x (some (a : Int)) (some (b : Int)) ++ cutS x (some (b : Int)) none = cutS x (some (a : Int)) none := by
  apply toL_inj
  rw [Str.cps_append, Array.toList_append, cutS_mid x a b hb hab, cutS_from, cutS_from]
  have h1 : (x.cps.toList.drop a).drop (b - a) = x.cps.toList.drop b := by
    rw [List.drop_drop]
    congr 1
    omega
  rw [← h1, List.take_append_drop]
theorem fill_none {vl : List (Str × Str)} {x : Str} (hv : ∀ k : Str, (∀ c ∈ k.cps.toList, c ∈ x.cps.toList) → fillV vl k = none) : ∀ (n a : Nat) (fo : Str), a ≤ x.length → x.length < n + a → fillG vl x n a fo = fo ++ cutS x (some (a : Int)) none
  | 0, a, fo, h1, h2 => by omega
  | n + 1, a, fo, h1, h2 => by
    unfold fillG
    by_cases hlt : a < x.length
    · rw [if_pos hlt]
      by_cases hb : Txt.find3 x "{" (a : Int) < 0 ∨ Txt.find3 x "}" (Txt.find3 x "{" (a : Int)) < 0
      · rw [if_pos hb]
      · rw [if_neg hb]
        obtain ⟨s, e, e1, e2, c1, c2, c3⟩ := pair_find x a h1 hb
        rw [e1, e2]
        have es : (s : Int) + 1 = ((s + 1 : Nat) : Int) := by omega
        have hk := hv (cutS x (some ((s : Int) + 1)) (some (e : Int))) (fun c hc => by
          rw [es, cutS_mid x (s + 1) e (by omega) (by omega)] at hc
          exact List.mem_of_mem_drop (List.mem_of_mem_take hc))
        rw [hk]
        show fillG vl x n ((s : Int) + 1).toNat (fo ++ cutS x (some (a : Int)) (some ((s : Int) + 1))) = _
        have et : ((s : Int) + 1).toNat = s + 1 := by omega
        rw [et, fill_none hv n (s + 1) _ (by omega) (by omega), es]
        have := cut_join x a (s + 1) (by omega) (by omega)
        rw [← this]
        apply toL_inj
        simp only [Str.cps_append, Array.toList_append, List.append_assoc]
    · rw [if_neg hlt]
      have : a = x.length := by omega
      subst this
      apply toL_inj
      rw [Str.cps_append, Array.toList_append, cutS_from, List.drop_eq_nil_of_le (by rw [len_tl]; exact Nat.le_refl _), List.append_nil]
theorem fill_p {pr x : Str} (h : 112 ∉ x.cps.toList) : fillF [("prog", pr)] x = x := by
  unfold fillF
  rw [fill_none (fun k hk => ?_) _ 0 _ (Nat.zero_le _) (by omega)]
  · apply toL_inj
    rw [Str.cps_append, Array.toList_append, cutS_from]
    rfl
  · unfold fillV
    rw [List.find?_cons]
    by_cases e : ("prog" : Str) = k
    · subst e
      exact absurd (hk 112 (by decide)) h
    · rw [decide_eq_false e]
      rfl
/-! ### lines as long as they can be -/
def J (g : List Str) : Str := Str.join " " g
theorem join_J (g : List Str) : Txt.join " " g = J g := StrLaws.glued_eq_join " " g
theorem J_snoc : ∀ {g : List Str} (w : Str), g ≠ [] → J (g ++ [w]) = J g ++ " " ++ w
  | [], w, h => absurd rfl h
  | [x], w, _ => rfl
  | x :: y :: r, w, _ => by
    have ih := J_snoc (g := y :: r) w (fun z => nomatch z)
    show x ++ " " ++ J ((y :: r) ++ [w]) = x ++ " " ++ J (y :: r) ++ " " ++ w
    rw [ih]
    apply toL_inj
    simp only [Str.cps_append, Array.toList_append, List.append_assoc]
def Chn (z : Nat) : List (List Str) → Prop
  | [] => True
  | [_] => True
  | g :: h :: r => z < (J g).length + 1 + (h.headD "").length ∧ Chn z (h :: r)
theorem chn_snoc {z : Nat} : ∀ {gs : List (List Str)} {g h : List Str}, Chn z (gs ++ [g]) → z < (J g).length + 1 + (h.headD "").length → Chn z (gs ++ [g] ++ [h])
  | [], g, h, _, q => ⟨q, trivial⟩
  | [a], g, h, c, q => ⟨c.1, q, trivial⟩
  | a :: b :: r, g, h, c, q => ⟨c.1, chn_snoc (gs := b :: r) c.2 q⟩
theorem chn_head {z : Nat} : ∀ {gs : List (List Str)} {g h : List Str}, Chn z (gs ++ [g]) → g.headD "" = h.headD "" → Chn z (gs ++ [h])
  | [], g, h, _, _ => trivial
  | [a], g, h, c, q => ⟨by rw [← q]; exact c.1, trivial⟩
  | a :: b :: r, g, h, c, q => ⟨c.1, chn_head (gs := b :: r) c.2 q⟩
structure Lines (z : Nat) (gs : List (List Str)) (ws : List Str) : Prop where
  fl : gs.flatten = ws
  g : ∀ g ∈ gs, g ≠ [] ∧ (J g).length ≤ z
  c : Chn z gs
theorem J_ne {g : List Str} (h : g ≠ []) (hw : ∀ w ∈ g, 1 ≤ w.length) : J g ≠ "" := by
  intro e
  cases g with
  | nil => exact h rfl
  | cons x r =>
    have hx := hw x List.mem_cons_self
    have hl := congrArg Str.length e
    have h0 : ("" : Str).length = 0 := rfl
    cases r with
    | nil =>
      have : (J [x]).length = x.length := rfl
      omega
    | cons y r =>
      have : (J (x :: y :: r)).length = x.length + 1 + (J (y :: r)).length := by
        show (x ++ " " ++ J (y :: r)).length = _
        rw [Str.length_append, Str.length_append]
        rfl
      omega
theorem fold_lines {z : Nat} : ∀ (ws : List Str) (gs : List (List Str)) (g : List Str), (∀ w ∈ ws, 1 ≤ w.length ∧ w.length ≤ z) → g ≠ [] → (∀ w ∈ g, 1 ≤ w.length) → Lines z (gs ++ [g]) (gs.flatten ++ g) →
    ∃ gs' g', ws.foldl (layStep z) (gs.map J, J g) = (gs'.map J, J g') ∧ g' ≠ [] ∧ (∀ w ∈ g', 1 ≤ w.length) ∧ Lines z (gs' ++ [g']) (gs.flatten ++ g ++ ws)
  | [], gs, g, _, hg, hgw, hL => ⟨gs, g, rfl, hg, hgw, by rw [List.append_nil]; exact hL⟩
  | w :: ws, gs, g, hw, hg, hgw, hL => by
    obtain ⟨w1, w2⟩ := hw w List.mem_cons_self
    have hne := J_ne hg hgw
    have hJs := J_snoc w hg
    have hwne : ¬ z < w.length := by omega
    by_cases hc : (J g).length + 1 + w.length ≤ z
    · have hst : layStep z (gs.map J, J g) w = (gs.map J, J (g ++ [w])) := by
        unfold layStep
        rw [if_pos ⟨hne, hc⟩, hJs]
      have hl : (J (g ++ [w])).length ≤ z := by
        rw [hJs, Str.length_append, Str.length_append]
        have : (" " : Str).length = 1 := rfl
        omega
      obtain ⟨gs', g', h1, h2, h3, h4⟩ := fold_lines ws gs (g ++ [w]) (fun x hx => hw x (List.mem_cons_of_mem _ hx)) (by simp) (fun x hx => by
        rcases List.mem_append.mp hx with hx | hx
        · exact hgw x hx
        · rw [List.mem_singleton.mp hx]
          exact w1) ⟨by rw [List.flatten_append, List.flatten_singleton], fun x hx => by
          rcases List.mem_append.mp hx with hx | hx
          · exact hL.g x (List.mem_append_left _ hx)
          · rw [List.mem_singleton.mp hx]
            exact ⟨by simp, hl⟩, chn_head hL.c (by cases g with
              | nil => exact absurd rfl hg
              | cons a r => rfl)⟩
      refine ⟨gs', g', ?_, h2, h3, ?_⟩
      · rw [List.foldl_cons, hst]
        exact h1
      · rw [← List.append_assoc, List.append_assoc, List.append_assoc] at h4
        rw [List.append_assoc]
        simpa using h4
    · have hst : layStep z (gs.map J, J g) w = ((gs ++ [g]).map J, J [w]) := by
        unfold layStep
        rw [if_neg (fun q => hc q.2), if_neg (fun q => hwne q.2), if_pos hne, chop_zero hwne, List.map_append, List.append_nil]
        rfl
      obtain ⟨gs', g', h1, h2, h3, h4⟩ := fold_lines ws (gs ++ [g]) [w] (fun x hx => hw x (List.mem_cons_of_mem _ hx)) (fun q => nomatch q) (fun x hx => by
        rw [List.mem_singleton.mp hx]
        exact w1) ⟨by rw [List.flatten_append, List.flatten_singleton], fun x hx => by
          rcases List.mem_append.mp hx with hx | hx
          · exact hL.g x hx
          · rw [List.mem_singleton.mp hx]
            exact ⟨(fun q => nomatch q), w2⟩, chn_snoc hL.c (by show z < (J g).length + 1 + w.length; omega)⟩
      refine ⟨gs', g', ?_, h2, h3, ?_⟩
      · rw [List.foldl_cons, hst]
        exact h1
      · rw [List.flatten_append, List.flatten_singleton] at h4
        simpa using h4
theorem laid_lines {z : Nat} {ws : List Str} (h0 : ws ≠ []) (hw : ∀ w ∈ ws, 1 ≤ w.length ∧ w.length ≤ z) : ∃ gs, laidF z ws = gs.map J ∧ gs ≠ [] ∧ Lines z gs ws := by
  cases ws with
  | nil => exact absurd rfl h0
  | cons w ws =>
    obtain ⟨w1, w2⟩ := hw w List.mem_cons_self
    have hst : layStep z ([], "") w = (([] : List (List Str)).map J, J [w]) := by
      unfold layStep
      rw [if_neg (fun q => q.1 rfl), if_neg (fun q => q.1 rfl), if_neg (fun q => q rfl), chop_zero (by omega)]
      rfl
    obtain ⟨gs', g', h1, h2, h3, h4⟩ := fold_lines ws [] [w] (fun x hx => hw x (List.mem_cons_of_mem _ hx)) (fun q => nomatch q) (fun x hx => by
      rw [List.mem_singleton.mp hx]
      exact w1) ⟨rfl, fun x hx => by
        have hx' : x ∈ [[w]] := hx
        rw [List.mem_singleton.mp hx']
        exact ⟨(fun q => nomatch q), w2⟩, trivial⟩
    refine ⟨gs' ++ [g'], ?_, by simp, h4⟩
    unfold laidF
    rw [List.foldl_cons, hst, h1]
    show (if J g' ≠ "" then gs'.map J ++ [J g'] else gs'.map J) = _
    rw [if_pos (J_ne h2 h3), List.map_append]
    rfl
theorem words_J {ws : List Str} (h : ∀ w ∈ ws, XWords.blk w.cps.toList) : Txt.words (J ws) = ws := by
  apply XWords.map_inj
  rw [XWords.words_sw]
  induction ws with
  | nil => rfl
  | cons x r ih =>
    have hx := h x List.mem_cons_self
    cases r with
    | nil => exact XWords.sw_end hx
    | cons y r =>
      have e : (J (x :: y :: r)).cps.toList = x.cps.toList ++ ([32] ++ (J (y :: r)).cps.toList) := by
        show (x ++ " " ++ J (y :: r)).cps.toList = _
        rw [Str.cps_append, Str.cps_append, Array.toList_append, Array.toList_append, List.append_assoc]
        rfl
      rw [e, XWords.sw_word hx.2, List.nil_append, XWords.sw_gap (fun c hc => by rw [List.mem_singleton.mp hc]; decide +kernel) (by simp) hx.1, ih fun w hw => h w (List.mem_cons_of_mem _ hw)]
      rfl
end K45

/-! texts by their signs: strip of line feeds, split and replace by line feeds -/
namespace XStrip
open PySem PySem.StrLaws Builtin Builtin.Str XTight XRuns
def mk (l : List Nat) : Str := ⟨l.toArray⟩
theorem mk_list (l : List Nat) : (mk l).cps.toList = l := rfl
theorem mk_of (x : Str) : mk x.cps.toList = x := toList_inj rfl
theorem map_mk : ∀ ps : List (List Nat), (ps.map mk).map (·.cps.toList) = ps
  | [] => rfl
  | p :: ps => by
    rw [List.map_cons, List.map_cons, map_mk ps]
    rfl
theorem join_mk {x y : Str} {ps : List (List Nat)} (h : x.cps.toList = jn y.cps.toList ps) : x = Str.join y (ps.map mk) := by
  apply toList_inj
  rw [jn_str, map_mk]
  exact h
def nls (m : Nat) (y : Str) : Prop := y.cps.toList = List.replicate m 10
theorem nls_ne {m : Nat} {y : Str} (hm : 1 ≤ m) (hy : nls m y) : y.cps.toList ≠ [] := by
  rw [hy]
  intro e
  have := congrArg List.length e
  rw [List.length_replicate] at this
  have h0 : ([] : List Nat).length = 0 := rfl
  omega
theorem tight_mk {m : Nat} {y : Str} {ps : List (List Nat)} (hm : 1 ≤ m) (hy : nls m y) (hp : Pts m ps) : Tight y.cps.toList ((ps.map mk).map (·.cps.toList)) := by
  rw [map_mk, hy]
  exact tight_pts hm hp
theorem rep_pts {m : Nat} {x y : Str} (z : Str) {ps : List (List Nat)} (hm : 1 ≤ m) (hy : nls m y) (hp : Pts m ps) (hx : x.cps.toList = jn y.cps.toList ps) : (Txt.replace x y z).cps.toList = jn z.cps.toList ps := by
  rw [join_mk hx, replace_of (nls_ne hm hy) (tight_mk hm hy hp), jn_str, map_mk]
theorem found_pts {m : Nat} {x y : Str} {ps : List (List Nat)} (hm : 1 ≤ m) (hy : nls m y) (hp : Pts m ps) (hx : x.cps.toList = jn y.cps.toList ps) : (!(occurrences x y 0 x.length 1).isEmpty) = decide (ps.length ≠ 1) := by
  have := found_of (nls_ne hm hy) (tight_mk hm hy hp)
  rw [← join_mk hx, List.length_map] at this
  exact this
theorem split_pts {m : Nat} {x y : Str} {ps : List (List Nat)} (hm : 1 ≤ m) (hy : nls m y) (hk : PySem.Builtin.Str.strKind y = 1) (hp : Pts m ps) (hx : x.cps.toList = jn y.cps.toList ps) : Txt.split x y = ps.map mk := by
  have := split_of (nls_ne hm hy) hk (tight_mk hm hy hp)
  rw [← join_mk hx] at this
  exact this
theorem tw_none {g : Nat → Bool} {c : Nat} {l : List Nat} (h : g c = false) : (c :: l).takeWhile g = [] := by
  rw [List.takeWhile_cons, h]
  rfl
theorem tw_rep {g : Nat → Bool} {d : Nat} (h : g d = true) : ∀ (k : Nat) (l : List Nat), (List.replicate k d ++ l).takeWhile g = List.replicate k d ++ l.takeWhile g
  | 0, l => rfl
  | k + 1, l => by
    rw [List.replicate_succ]
    show (d :: (List.replicate k d ++ l)).takeWhile g = _
    rw [List.takeWhile_cons, h, if_pos rfl, tw_rep h k l]
    rfl
theorem strip_nl {x : Str} {c : Nat} {m : List Nat} {k : Nat} (hx : x.cps.toList = (c :: m) ++ List.replicate k 10) (h0 : c ≠ 10) (hl : Lst (c :: m)) : Txt.stripChars x "\n" = mk (c :: m) := by
  have g1 : ("\n" : Str).cps.contains 10 = true := by decide +kernel
  have g2 : ∀ d : Nat, d ≠ 10 → ("\n" : Str).cps.contains d = false := fun d hd => by
    cases q : ("\n" : Str).cps.contains d with
    | false => rfl
    | true =>
      have h1 := Array.contains_iff_mem.mp q
      have h2 : d ∈ ("\n" : Str).cps.toList := Array.mem_toList_iff.mpr h1
      have h3 : ("\n" : Str).cps.toList = [10] := by decide +kernel
      rw [h3] at h2
      exact absurd (List.mem_singleton.mp h2) hd
  apply toList_inj
  show (Txt.stripBy ("\n" : Str).cps.contains true true x).cps.toList = c :: m
  rw [PyProof.Rows.stripBy_eq]
  have lo : stripLo ("\n" : Str).cps.contains true x = 0 := by
    unfold stripLo
    rw [if_pos rfl, hx]
    show (List.takeWhile _ (c :: (m ++ List.replicate k 10))).length = 0
    rw [tw_none (g2 c h0)]
    rfl
  rw [lo]
  have xl : x.length = (c :: m).length + k := by
    have : x.cps.toList.length = x.length := by simp [Str.length]
    rw [← this, hx, List.length_append, List.length_replicate]
  have hi : stripHi ("\n" : Str).cps.contains true x 0 = (c :: m).length := by
    unfold stripHi
    rw [if_pos rfl, List.drop_zero, hx, List.reverse_append, List.reverse_replicate, tw_rep g1]
    obtain ⟨a, d, e, hd⟩ := hl
    rw [e, List.reverse_append]
    show x.length - (List.replicate k 10 ++ List.takeWhile _ (d :: a.reverse)).length = _
    rw [tw_none (g2 d hd), List.append_nil, List.length_replicate, xl, e]
    omega
  rw [hi, strSub_toList, hx, List.drop_zero, Nat.sub_zero, List.take_left]
end XStrip

namespace K45
open PySem L2 PyProof PyProof.Rows XRuns XTight XStrip
/-! ### line feeds three in a row become two -/
abbrev nn : List Nat := [10, 10]
def G (d : List (List Nat)) (l : List Nat) : List Nat := bt d ++ (nn ++ l)
theorem mr_nn (cur : Nat) (l : List Nat) : mr cur (nn ++ l) = mr (cur + 2) l := mr_rep 2 cur l
theorem g_le {d : List (List Nat)} {l : List Nat} {cur : Nat} (h : Blk d) (hl : mr 2 l ≤ 2) (hc : cur ≤ 2) : mr cur (G d l) ≤ 2 := by
  unfold G
  refine mr_blk h cur 2 _ (by decide) hc ?_
  rw [mr_nn]
  exact hl
theorem e_le {d : List (List Nat)} {cur : Nat} (h : Blk d) (hc : cur ≤ 2) : mr cur (bt d) ≤ 2 := mr_end h cur 2 (by decide) hc
theorem n_le {d : List (List Nat)} (h : Blk d) : mr 0 (10 :: bt d) ≤ 2 := by
  rw [mr_nl]
  exact e_le h (by decide)
theorem jn1 (y u : List Nat) : jn y [u] = u := rfl
theorem mr_2 : mr 2 [] ≤ 2 := Nat.le_refl _
theorem g_lst {d : List (List Nat)} {l : List Nat} (h : Lst l) : Lst (G d l) := lst_app (lst_app h)
theorem n_lst {d : List (List Nat)} (h : Blk d) : Lst (10 :: bt d) := lst_app (a := [10]) (lst_blk h)
theorem row_blk {u : List Nat} (h : Row u) : Blk [u] := ⟨(fun z => nomatch z), fun r hr => by rw [List.mem_singleton.mp hr]; exact h⟩
def rawL (U : List Nat) (D : List (List Nat)) (T : List (List (List Nat))) (E : List (List Nat)) : List Nat := U ++ (nn ++ (bt D ++ (nn ++ ((T.map fun t => 10 :: (bt t ++ [10, 10, 10])).flatten ++ (bt E ++ nn)))))
def partsL (U : List Nat) (D : List (List Nat)) (T : List (List (List Nat))) (E : List (List Nat)) : List (List Nat) := U :: bt D :: (T.map bt ++ [bt E])
theorem n3 : nls 3 "\n\n\n" := by
  show _ = _
  decide +kernel
theorem n3l : ("\n\n\n" : Str).cps.toList = [10, 10, 10] := by decide +kernel
theorem n2 : nls 2 "\n\n" := by
  show _ = _
  decide +kernel
theorem n2l : ("\n\n" : Str).cps.toList = [10, 10] := by decide +kernel
theorem n1 : nls 1 "\n" := by
  show _ = _
  decide +kernel
theorem n1l : ("\n" : Str).cps.toList = [10] := by decide +kernel
theorem sq_zero {x : Str} (h : mr 0 x.cps.toList ≤ 2) : SqTo 0 x x := by
  refine ⟨?_, rfl⟩
  have := found_pts (m := 3) (x := x) (ps := [x.cps.toList]) (by decide) n3 (by show _ < 3; omega) rfl
  rw [this]
  rfl
theorem sq_more {x y : Str} {n : Nat} {ps : List (List Nat)} {l : List Nat} (hp : Pts 3 ps) (h1 : ps.length ≠ 1) (hx : x.cps.toList = jn [10, 10, 10] ps) (hz : jn nn ps = l) (hl : l.length ≤ 5000000) (k : ∀ z : Str, z.cps.toList = l → SqTo n z y) : SqTo (n + 1) x y := by
  have hx' : x.cps.toList = jn ("\n\n\n" : Str).cps.toList ps := by rw [n3l]; exact hx
  have hr := rep_pts (m := 3) "\n\n" (by decide) n3 hp hx'
  rw [n2l] at hr
  have hr' := hr.trans hz
  refine ⟨?_, ?_, k _ hr'⟩
  · rw [found_pts (m := 3) (by decide) n3 hp hx']
    exact decide_eq_true h1
  · rw [← len_tl, hr']
    exact hl
theorem sq_help {U : List Nat} {D E : List (List Nat)} {T : List (List (List Nat))} {x : Str} (hU : Row U) (hD : Blk D) (hE : Blk E) (hT : ∀ t ∈ T, Blk t) (h3 : T.length ≤ 3) (hx : x.cps.toList = rawL U D T E) (hl : x.length ≤ 4000000) :
    ∃ n y, SqTo n x y ∧ y.cps.toList = jn nn (partsL U D T E) ++ nn := by
  have bU := row_blk hU
  have hxl : (rawL U D T E).length ≤ 4000000 := by
    rw [← hx, len_tl]
    exact hl
  have hEe : mr 2 (G E []) ≤ 2 := g_le hE mr_2 (by decide)
  have fin : ∀ {l : List Nat}, mr 2 l ≤ 2 → mr 0 (G [U] (G D l)) ≤ 2 := fun hh => g_le bU (g_le hD hh (by decide)) (by decide)
  have p1 : mr 0 (G [U] (bt D)) < 3 := Nat.lt_succ_of_le (g_le bU (e_le hD (by decide)) (by decide))
  have l1 : Lst (G [U] (bt D)) := g_lst (lst_blk hD)
  have pE : mr 0 (G E []) < 3 := Nat.lt_succ_of_le (g_le hE mr_2 (by decide))
  match T, hT, h3, hx, hxl with
  | [], _, _, hx, hxl =>
    refine ⟨0, x, sq_zero ?_, ?_⟩
    · have e : x.cps.toList = G [U] (G D (G E [])) := hx
      rw [e]
      exact fin hEe
    · rw [hx]
      show _ = (U ++ nn ++ (bt D ++ nn ++ bt E)) ++ nn
      simp [rawL]
  | [a], hT, _, hx, hxl =>
    have ha := hT a List.mem_cons_self
    have e1 : mr 2 (G a (G E [])) ≤ 2 := g_le ha hEe (by decide)
    refine ⟨1, mk (G [U] (G D (G a (G E [])))), sq_more (ps := [G [U] (bt D), bt a, G E []]) (l := G [U] (G D (G a (G E [])))) ⟨p1, l1, Nat.lt_succ_of_le (e_le ha (by decide)), lst_blk ha, pE⟩ (by simp) ?_ ?_ ?_ (fun z hz => ?_), ?_⟩
    · rw [hx]
      simp [rawL, G, jn, bt]
    · simp [G, jn, bt]
    · simp [rawL, G, bt, jn1] at hxl ⊢
      omega
    · have : z = mk (G [U] (G D (G a (G E [])))) := XTight.toList_inj hz
      subst this
      exact sq_zero (fin e1)
    · rw [mk_list]
      simp [partsL, G, jn, bt]
  | [a, b], hT, _, hx, hxl =>
    have ha := hT a List.mem_cons_self
    have hb := hT b (List.mem_cons_of_mem _ List.mem_cons_self)
    have eb : mr 2 (G b (G E [])) ≤ 2 := g_le hb hEe (by decide)
    have e1 : mr 2 (G a (G b (G E []))) ≤ 2 := g_le ha eb (by decide)
    refine ⟨2, mk (G [U] (G D (G a (G b (G E []))))), sq_more (ps := [G [U] (bt D), bt a, 10 :: bt b, G E []]) (l := G [U] (G D (G a (10 :: G b (G E []))))) ⟨p1, l1, Nat.lt_succ_of_le (e_le ha (by decide)), lst_blk ha, Nat.lt_succ_of_le (n_le hb), n_lst hb, pE⟩ (by simp) ?_ ?_ ?_ (fun z hz => ?_), ?_⟩
    · rw [hx]
      simp [rawL, G, jn, bt]
    · simp [G, jn, bt]
    · simp [rawL, G, bt, jn1] at hxl ⊢
      omega
    · refine sq_more (ps := [G [U] (G D (bt a)), G b (G E [])]) (l := G [U] (G D (G a (G b (G E []))))) ⟨Nat.lt_succ_of_le (g_le bU (g_le hD (e_le ha (by decide)) (by decide)) (by decide)), g_lst (g_lst (lst_blk ha)), Nat.lt_succ_of_le (g_le hb hEe (by decide))⟩ (by simp) ?_ ?_ ?_ (fun z hz => ?_)
      · rw [hz]
        simp [G, jn, bt]
      · simp [G, jn, bt]
      · simp [rawL, G, bt, jn1] at hxl ⊢
        omega
      · have : z = mk (G [U] (G D (G a (G b (G E []))))) := XTight.toList_inj hz
        subst this
        exact sq_zero (fin e1)
    · rw [mk_list]
      simp [partsL, G, jn, bt]
  | [a, b, c], hT, _, hx, hxl =>
    have ha := hT a List.mem_cons_self
    have hb := hT b (List.mem_cons_of_mem _ List.mem_cons_self)
    have hc := hT c (List.mem_cons_of_mem _ (List.mem_cons_of_mem _ List.mem_cons_self))
    have ec : mr 2 (G c (G E [])) ≤ 2 := g_le hc hEe (by decide)
    have eb : mr 2 (G b (G c (G E []))) ≤ 2 := g_le hb ec (by decide)
    have e1 : mr 2 (G a (G b (G c (G E [])))) ≤ 2 := g_le ha eb (by decide)
    refine ⟨2, mk (G [U] (G D (G a (G b (G c (G E [])))))), sq_more (ps := [G [U] (bt D), bt a, 10 :: bt b, 10 :: bt c, G E []]) (l := G [U] (G D (G a (10 :: G b (10 :: G c (G E [])))))) ⟨p1, l1, Nat.lt_succ_of_le (e_le ha (by decide)), lst_blk ha, Nat.lt_succ_of_le (n_le hb), n_lst hb, Nat.lt_succ_of_le (n_le hc), n_lst hc, pE⟩ (by simp) ?_ ?_ ?_ (fun z hz => ?_), ?_⟩
    · rw [hx]
      simp [rawL, G, jn, bt]
    · simp [G, jn, bt]
    · simp [rawL, G, bt, jn1] at hxl ⊢
      omega
    · refine sq_more (ps := [G [U] (G D (bt a)), bt b, G c (G E [])]) (l := G [U] (G D (G a (G b (G c (G E [])))))) ⟨Nat.lt_succ_of_le (g_le bU (g_le hD (e_le ha (by decide)) (by decide)) (by decide)), g_lst (g_lst (lst_blk ha)), Nat.lt_succ_of_le (e_le hb (by decide)), lst_blk hb, Nat.lt_succ_of_le (g_le hc hEe (by decide))⟩ (by simp) ?_ ?_ ?_ (fun z hz => ?_)
      · rw [hz]
        simp [G, jn, bt]
      · simp [G, jn, bt]
      · simp [rawL, G, bt, jn1] at hxl ⊢
        omega
      · have : z = mk (G [U] (G D (G a (G b (G c (G E [])))))) := XTight.toList_inj hz
        subst this
        exact sq_zero (fin e1)
    · rw [mk_list]
      simp [partsL, G, jn, bt]
end K45

namespace K45
open PySem L2 PyProof PyProof.Rows XRuns XTight XStrip
/-! ### rows of a text -/
structure RR (rows : List Str) (t : Str) (z : Nat) : Prop where
  ex : ∃ gs : List (List Str), rows = gs.map J ∧ gs ≠ [] ∧ Lines z gs (Txt.words t) ∧ (∀ w ∈ Txt.words t, Wd w) ∧ (Txt.words t).length ≤ 30
structure Tx (t : Str) : Prop where
  ex : ∃ lead ps, Drawn lead ps ∧ t = textF lead ps
theorem Tx.p {t : Str} (h : Tx t) : 112 ∉ t.cps.toList := by
  obtain ⟨lead, ps, hd, rfl⟩ := h.ex
  exact text_p hd
theorem Tx.len {t : Str} (h : Tx t) : t.length ≤ 361 := by
  obtain ⟨lead, ps, hd, rfl⟩ := h.ex
  exact text_len hd
theorem Tx.words {t : Str} (h : Tx t) : Txt.words t ≠ [] ∧ (∀ w ∈ Txt.words t, Wd w) ∧ (Txt.words t).length ≤ 30 := by
  obtain ⟨lead, ps, hd, rfl⟩ := h.ex
  rw [words_text hd]
  refine ⟨fun e => hd.n (List.map_eq_nil_iff.mp e), fun w hw => ?_, by rw [List.length_map]; exact hd.n30⟩
  obtain ⟨p, hp, rfl⟩ := List.mem_map.mp hw
  exact wd_of (hd.m p hp).1
theorem size_0 (wd : Int) : sizeOf wd 0 = (max wd 11).toNat := by
  unfold sizeOf
  split <;> omega
theorem size_2 (wd : Int) : sizeOf wd 2 = (max (wd - 2) 11 - 2).toNat := by
  unfold sizeOf
  split <;> omega
theorem rows_rr {t : Str} {wd ind : Int} (h : Tx t) (hi : ind = 0 ∨ ind = 2) : RR (rowsF t "p" wd ind) t (sizeOf wd ind) := by
  obtain ⟨h1, h2, h3⟩ := h.words
  have hz : 9 ≤ sizeOf wd ind := by
    rcases hi with rfl | rfl
    · rw [size_0]
      omega
    · rw [size_2]
      omega
  obtain ⟨gs, e1, e2, e3⟩ := laid_lines (z := sizeOf wd ind) h1 (fun w hw => ⟨(h2 w hw).l, Nat.le_trans (h2 w hw).l9 hz⟩)
  refine ⟨gs, ?_, e2, e3, h2, h3⟩
  unfold rowsF
  rw [fill_p h.p]
  exact e1
theorem flat_len : ∀ {gs : List (List Str)}, (∀ g ∈ gs, g ≠ []) → gs.length ≤ gs.flatten.length
  | [], _ => Nat.le_refl _
  | g :: gs, h => by
    have := flat_len (gs := gs) fun x hx => h x (List.mem_cons_of_mem _ hx)
    have hg : 0 < g.length := List.length_pos_iff.mpr (h g List.mem_cons_self)
    rw [List.length_cons, List.flatten_cons, List.length_append]
    omega
theorem J_blk {g : List Str} (h : ∀ w ∈ g, XWords.blk w.cps.toList) : 10 ∉ (J g).cps.toList := by
  have hw : ∀ w ∈ g, 10 ∉ w.cps.toList := fun w hw z => by
    have := (h w hw).2 10 z
    exact absurd this (by decide +kernel)
  clear h
  unfold J
  rw [jn_str]
  induction g with
  | nil => intro z; cases z
  | cons x r ih =>
    cases r with
    | nil => exact hw x List.mem_cons_self
    | cons y r =>
      intro z
      have z' : 10 ∈ x.cps.toList ++ [32] ++ jn [32] ((y :: r).map (·.cps.toList)) := z
      rcases List.mem_append.mp z' with z' | z'
      · rcases List.mem_append.mp z' with z' | z'
        · exact hw x List.mem_cons_self z'
        · exact absurd (List.mem_singleton.mp z') (by decide)
      · exact ih (fun w hw' => hw w (List.mem_cons_of_mem _ hw')) z'
structure RowsOk (rows : List Str) (t : Str) (z : Nat) : Prop where
  ne : rows ≠ []
  n30 : rows.length ≤ 30
  row : ∀ r ∈ rows, Row r.cps.toList ∧ r.length ≤ z ∧ r = Txt.join " " (Txt.words r) ∧ r ≠ "" ∧ Txt.words r ≠ [] ∧ (Txt.words r).length ≤ 30
  all : Txt.words (Txt.join " " rows) = Txt.words t
  nx : ∀ i r s, rows[i]? = some r → rows[i + 1]? = some s → z < r.length + 1 + ((Txt.words s).headD "").length
theorem chn_at {z : Nat} : ∀ {gs : List (List Str)} {i : Nat} {g h : List Str}, Chn z gs → gs[i]? = some g → gs[i + 1]? = some h → z < (J g).length + 1 + (h.headD "").length
  | [], _, _, _, _, e, _ => by simp at e
  | [a], i, g, h, _, _, e => by simp at e
  | a :: b :: r, 0, g, h, c, e1, e2 => by
    simp at e1 e2
    subst e1
    subst e2
    exact c.1
  | a :: b :: r, i + 1, g, h, c, e1, e2 => chn_at (gs := b :: r) (i := i) c.2 (by simpa using e1) (by simpa using e2)
theorem join_join : ∀ {gs : List (List Str)}, (∀ g ∈ gs, g ≠ []) → J (gs.map J) = J gs.flatten
  | [], _ => rfl
  | [g], _ => by
    rw [List.flatten_cons, List.flatten_nil, List.append_nil]
    rfl
  | g :: h :: r, hg => by
    have ih := join_join (gs := h :: r) fun x hx => hg x (List.mem_cons_of_mem _ hx)
    have hne : (h :: r).flatten ≠ [] := by
      rw [List.flatten_cons]
      intro e
      exact hg h (List.mem_cons_of_mem _ List.mem_cons_self) (List.append_eq_nil_iff.mp e).1
    show J g ++ " " ++ J ((h :: r).map J) = J (g ++ (h :: r).flatten)
    rw [ih]
    have app : ∀ (g f : List Str), g ≠ [] → f ≠ [] → J (g ++ f) = J g ++ " " ++ J f := fun g => by
      induction g with
      | nil => intro f h; exact absurd rfl h
      | cons x g ih =>
        intro f _ hf
        cases g with
        | nil =>
          cases f with
          | nil => exact absurd rfl hf
          | cons y f => rfl
        | cons y g =>
          have := ih f (fun z => nomatch z) hf
          show x ++ " " ++ J ((y :: g) ++ f) = x ++ " " ++ J (y :: g) ++ " " ++ J f
          rw [this]
          apply toL_inj
          simp only [Str.cps_append, Array.toList_append, List.append_assoc]
    exact (app g _ (hg g List.mem_cons_self) hne).symm
theorem RR.ok {rows : List Str} {t : Str} {z : Nat} (h : RR rows t z) : RowsOk rows t z := by
  obtain ⟨gs, rfl, hne, hL, hw, h30⟩ := h.ex
  have hgn : ∀ g ∈ gs, g ≠ [] := fun g hg => (hL.g g hg).1
  have hgw : ∀ g ∈ gs, ∀ w ∈ g, Wd w := fun g hg w hwg => hw w (by rw [← hL.fl]; exact List.mem_flatten.mpr ⟨g, hg, hwg⟩)
  have hln : ∀ g ∈ gs, g.length ≤ 30 := fun g hg => by
    have h2 : ∀ {gs : List (List Str)} {g : List Str}, g ∈ gs → g.length ≤ gs.flatten.length := fun {gs g} => by
      induction gs with
      | nil => intro z; cases z
      | cons a gs ih =>
        intro hm
        rw [List.flatten_cons, List.length_append]
        rcases List.mem_cons.mp hm with rfl | hm
        · omega
        · have := ih hm
          omega
    have := h2 hg
    rw [hL.fl] at this
    omega
  have hwJ : ∀ g ∈ gs, Txt.words (J g) = g := fun g hg => words_J fun w hwg => (hgw g hg w hwg).b
  refine ⟨fun e => hne (List.map_eq_nil_iff.mp e), ?_, fun r hr => ?_, ?_, fun i r s h1 h2 => ?_⟩
  · rw [List.length_map]
    have := flat_len hgn
    rw [hL.fl] at this
    omega
  · obtain ⟨g, hg, rfl⟩ := List.mem_map.mp hr
    have hJ := J_ne (hgn g hg) fun w hwg => (hgw g hg w hwg).l
    refine ⟨⟨fun e => hJ (toL_inj e), J_blk fun w hwg => (hgw g hg w hwg).b⟩, (hL.g g hg).2, ?_, hJ, ?_, ?_⟩
    · rw [hwJ g hg, join_J]
    · rw [hwJ g hg]
      exact hgn g hg
    · rw [hwJ g hg]
      exact hln g hg
  · rw [join_J, join_join hgn, hL.fl, words_J fun w hwg => (hw w hwg).b]
  · rw [List.getElem?_map] at h1 h2
    obtain ⟨g, e1, rfl⟩ := Option.map_eq_some_iff.mp h1
    obtain ⟨h, e2, rfl⟩ := Option.map_eq_some_iff.mp h2
    rw [hwJ h (List.mem_of_getElem? e2)]
    exact chn_at hL.c e1 e2
theorem RowsOk.blk {rows : List Str} {t : Str} {z : Nat} (h : RowsOk rows t z) : Blk (rows.map (·.cps.toList)) := by
  refine ⟨fun e => h.ne (List.map_eq_nil_iff.mp e), fun r hr => ?_⟩
  obtain ⟨x, hx, rfl⟩ := List.mem_map.mp hr
  exact (h.row x hx).1
/-! ### blocks of a text -/
theorem join_bt (rows : List Str) : (Str.join "\n" rows).cps.toList = bt (rows.map (·.cps.toList)) := by
  rw [jn_str, n1l]
  rfl
theorem split_blk {rows : List Str} (h : Blk (rows.map (·.cps.toList))) : Txt.split (Str.join "\n" rows) "\n" = rows := by
  have := split_pts (m := 1) (x := Str.join "\n" rows) (ps := rows.map (·.cps.toList)) (by decide) n1 (by decide +kernel) (pts_rows h) (jn_str _ _)
  rw [this]
  apply XTight.map_inj
  exact map_mk _
/-- the rows of a group -/
def grp (rows : List Str) : List Str := "t:" :: rows.map fun r => "  " ++ r
theorem grp_blk {rows : List Str} {t : Str} {z : Nat} (h : RowsOk rows t z) : Blk ((grp rows).map (·.cps.toList)) := by
  refine ⟨(fun e => nomatch e), fun r hr => ?_⟩
  obtain ⟨x, hx, rfl⟩ := List.mem_map.mp hr
  rcases List.mem_cons.mp hx with rfl | hx
  · exact ⟨by decide +kernel, by decide +kernel⟩
  · obtain ⟨y, hy, rfl⟩ := List.mem_map.mp hx
    have hr := (h.row y hy).1
    have e : ("  " ++ y).cps.toList = [32, 32] ++ y.cps.toList := by
      rw [Str.cps_append, Array.toList_append]
      rfl
    show Row ("  " ++ y).cps.toList
    rw [e]
    refine ⟨(fun z => nomatch z), fun z => ?_⟩
    rcases List.mem_append.mp z with z | z
    · exact absurd z (by decide)
    · exact hr.2 z
theorem bt_cons {r : List Nat} : ∀ {rs : List (List Nat)}, rs ≠ [] → bt (r :: rs) = r ++ [10] ++ bt rs
  | [], h => absurd rfl h
  | s :: t, _ => rfl
theorem spcs_0 : spcs 0 = "" := by decide +kernel
theorem spcs_2 : spcs 2 = "  " := by decide +kernel
theorem nil_str (x : Str) : "" ++ x = x := by
  apply toL_inj
  rw [Str.cps_append, Array.toList_append]
  rfl
theorem desc_list (t : Str) (wd : Int) (ind : Int) : (descF t "p" wd ind).cps.toList = bt (((rowsF t "p" wd ind).map fun l => spcs ind ++ l).map (·.cps.toList)) ++ nn := by
  unfold descF
  rw [Str.cps_append, Array.toList_append, n2l]
  congr 1
  exact ((congrArg (fun s : Str => s.cps.toList) (StrLaws.glued_eq_join "\n" _)).trans (join_bt _))
theorem desc_0 (t : Str) (wd : Int) : (descF t "p" wd 0).cps.toList = bt ((rowsF t "p" wd 0).map (·.cps.toList)) ++ nn := by
  rw [desc_list]
  have : (rowsF t "p" wd 0).map (fun l => spcs 0 ++ l) = rowsF t "p" wd 0 := by
    conv => rhs; rw [← List.map_id (rowsF t "p" wd 0)]
    apply List.map_congr_left
    intro x _
    rw [spcs_0, nil_str]
    rfl
  rw [this]
theorem sec_list {t : Str} {wd : Int} (h : rowsF t "p" wd 2 ≠ []) : (secF1 t "p" wd).cps.toList = 10 :: (bt ((grp (rowsF t "p" wd 2)).map (·.cps.toList)) ++ [10, 10, 10]) := by
  unfold secF1 grp
  rw [List.map_cons, bt_cons (by simpa using h)]
  simp only [Str.cps_append, Array.toList_append]
  rw [desc_list, spcs_2]
  have e1 : ("\n" : Str).cps.toList = [10] := n1l
  have e2 : ("" : Str).cps.toList = [] := rfl
  have e3 : ("t" : Str).cps.toList ++ (":\n" : Str).cps.toList = ("t:" : Str).cps.toList ++ [10] := by decide +kernel
  rw [e1, e2, List.append_nil]
  have e4 : [10] ++ ("t" : Str).cps.toList ++ (":\n" : Str).cps.toList = 10 :: (("t:" : Str).cps.toList ++ [10]) := by
    rw [List.append_assoc, e3]
    rfl
  rw [e4]
  simp
theorem fold_list (f : Str → Str) : ∀ (ts : List Str) (a : Str), ((ts.map some).foldl (addO f) a).cps.toList = a.cps.toList ++ (ts.map fun t => (f t).cps.toList).flatten
  | [], a => by simp
  | t :: ts, a => by
    rw [List.map_cons, List.foldl_cons, fold_list f ts]
    show (a ++ f t).cps.toList ++ _ = _
    rw [Str.cps_append, Array.toList_append, List.map_cons, List.flatten_cons, List.append_assoc]
abbrev uL : List Nat := ("usage: p" : Str).cps.toList
theorem help_list {wd : Int} {D E : Str} {ts : List Str} (hT : ∀ t ∈ ts, rowsF t "p" wd 2 ≠ []) : (helpF "p" wd (some D) (ts.map some) (some E)).cps.toList = rawL uL ((rowsF D "p" wd 0).map (·.cps.toList)) (ts.map fun t => (grp (rowsF t "p" wd 2)).map (·.cps.toList)) ((rowsF E "p" wd 0).map (·.cps.toList)) := by
  show (_ ++ descF E "p" wd 0).cps.toList = _
  rw [Str.cps_append, Array.toList_append, fold_list]
  show ("usage: " ++ "p" ++ "\n\n" ++ descF D "p" wd 0).cps.toList ++ _ ++ _ = _
  have e0 : ("usage: " ++ "p" ++ "\n\n" : Str).cps.toList = uL ++ nn := by decide +kernel
  rw [Str.cps_append, Array.toList_append, e0, desc_0, desc_0]
  have e1 : (ts.map fun t => (secF1 t "p" wd).cps.toList) = (ts.map fun t => (grp (rowsF t "p" wd 2)).map (·.cps.toList)).map fun t => 10 :: (bt t ++ [10, 10, 10]) := by
    rw [List.map_map]
    apply List.map_congr_left
    intro t ht
    rw [sec_list (hT t ht)]
    rfl
  rw [e1]
  unfold rawL
  simp only [List.append_assoc]
/-! ### the help of the law's parsers -/
theorem uRow : Row uL := ⟨by decide +kernel, by decide +kernel⟩
theorem sum_le {n : Nat} : ∀ {xs : List Nat}, (∀ x ∈ xs, x ≤ n) → xs.sum ≤ n * xs.length
  | [], _ => Nat.le_refl _
  | x :: xs, h => by
    have := sum_le (xs := xs) fun y hy => h y (List.mem_cons_of_mem _ hy)
    have h1 := h x List.mem_cons_self
    rw [List.sum_cons, List.length_cons, Nat.mul_succ]
    omega
theorem desc_len {t : Str} {wd ind : Int} (h : Tx t) (hi : ind = 0 ∨ ind = 2) (hw : wd ≤ 60) : (descF t "p" wd ind).length ≤ 2000 := by
  have hr := (rows_rr (wd := wd) h hi).ok
  have hz : sizeOf wd ind ≤ 60 := by
    rcases hi with rfl | rfl
    · rw [size_0]
      omega
    · rw [size_2]
      omega
  unfold descF
  have h1 := join_len "\n" ((rowsF t "p" wd ind).map fun l => spcs ind ++ l)
  have h2 : (((rowsF t "p" wd ind).map fun l => spcs ind ++ l).map (·.length)).sum ≤ 62 * (((rowsF t "p" wd ind).map fun l => spcs ind ++ l).map (·.length)).length := sum_le fun x hx => by
    obtain ⟨y, hy, rfl⟩ := List.mem_map.mp hx
    obtain ⟨l, hl, rfl⟩ := List.mem_map.mp hy
    have := (hr.row l hl).2.1
    have := (spcs_len hi).1
    show (spcs ind ++ l).length ≤ 62
    rw [Str.length_append]
    omega
  have h30 := hr.n30
  rw [List.length_map, List.length_map] at h2
  rw [List.length_map] at h1
  have e1 : ("\n" : Str).length = 1 := rfl
  have e2 : ("\n\n" : Str).length = 2 := rfl
  rw [Str.length_append, e2]
  rw [e1] at h1
  omega
theorem foldO_len {f : Str → Str} {n : Nat} : ∀ {ts : List Str} {a : Str}, (∀ t ∈ ts, (f t).length ≤ n) → ((ts.map some).foldl (addO f) a).length ≤ a.length + n * ts.length
  | [], a, _ => Nat.le_refl _
  | t :: ts, a, h => by
    have h1 := h t List.mem_cons_self
    have := foldO_len (ts := ts) (a := a ++ f t) fun x hx => h x (List.mem_cons_of_mem _ hx)
    rw [Str.length_append] at this
    rw [List.length_cons, Nat.mul_succ]
    show ((ts.map some).foldl (addO f) (a ++ f t)).length ≤ _
    omega
theorem help_len {wd : Int} {D E : Str} {ts : List Str} (hw : wd ≤ 60) (hD : Tx D) (hE : Tx E) (hT : ∀ t ∈ ts, Tx t) (h3 : ts.length ≤ 3) : (helpF "p" wd (some D) (ts.map some) (some E)).length ≤ 20000 := by
  have l1 := desc_len hD (.inl rfl) hw
  have l2 := desc_len hE (.inl rfl) hw
  show (_ ++ descF E "p" wd 0).length ≤ _
  rw [Str.length_append]
  have := foldO_len (f := fun x => secF1 x "p" wd) (n := 2010) (ts := ts) (a := "usage: " ++ "p" ++ "\n\n" ++ descF D "p" wd 0) (fun t ht => by
    have := desc_len (hT t ht) (.inr rfl) hw
    unfold secF1
    simp only [Str.length_append]
    have e1 : ("\n" : Str).length = 1 := rfl
    have e2 : ("" : Str).length = 0 := rfl
    have e3 : ("t" : Str).length = 1 := rfl
    have e4 : (":\n" : Str).length = 2 := rfl
    omega)
  have e0 : ("usage: " ++ "p" ++ "\n\n" : Str).length = 10 := by decide +kernel
  rw [Str.length_append, e0] at this
  show (List.foldl (addO fun x => secF1 x "p" wd) ("usage: " ++ "p" ++ "\n\n" ++ descF D "p" wd 0) (ts.map some)).length + _ ≤ _
  have hm : 2010 * ts.length ≤ 2010 * 3 := Nat.mul_le_mul_left _ h3
  omega
/-- the texts between empty lines -/
def foundL (wd : Int) (D E : Str) (ts : List Str) : List Str := "usage: p" :: Str.join "\n" (rowsF D "p" wd 0) :: ((ts.map fun t => Str.join "\n" (grp (rowsF t "p" wd 2))) ++ [Str.join "\n" (rowsF E "p" wd 0) ++ "\n"])
theorem pts_two : ∀ {bs : List (List (List Nat))} {E : List (List Nat)}, (∀ b ∈ bs, Blk b) → Blk E → Pts 2 (bs.map bt ++ [bt E ++ [10]])
  | [], E, _, hE => by
    show mr 0 (bt E ++ [10]) < 2
    exact Nat.lt_succ_of_le (mr_blk hE 0 1 [10] (by decide) (by decide) (by decide))
  | b :: bs, E, h, hE => by
    have hb := h b List.mem_cons_self
    have ih := pts_two (bs := bs) (E := E) (fun x hx => h x (List.mem_cons_of_mem _ hx)) hE
    have e : (b :: bs).map bt ++ [bt E ++ [10]] = bt b :: (bs.map bt ++ [bt E ++ [10]]) := rfl
    rw [e]
    have h1 : mr 0 (bt b) < 2 := Nat.lt_succ_of_le (mr_end hb 0 1 (by decide) (by decide))
    cases q : bs.map bt ++ [bt E ++ [10]] with
    | nil => simp at q
    | cons x r =>
      rw [q] at ih
      exact ⟨h1, lst_blk hb, ih⟩
theorem jn_last (y z : List Nat) : ∀ (ps : List (List Nat)) (p : List Nat), jn y (ps ++ [p ++ z]) = jn y (ps ++ [p]) ++ z
  | [], p => rfl
  | a :: ps, p => by
    have ih := jn_last y z ps p
    cases ps with
    | nil =>
      show a ++ y ++ (p ++ z) = a ++ y ++ p ++ z
      simp
    | cons b ps =>
      show a ++ y ++ jn y (b :: (ps ++ [p ++ z])) = a ++ y ++ jn y (b :: (ps ++ [p])) ++ z
      have e : jn y (b :: (ps ++ [p ++ z])) = jn y (b :: (ps ++ [p])) ++ z := ih
      rw [e, List.append_assoc (a ++ y)]
theorem jn_lst {y : List Nat} {E : List Nat} (hE : Lst E) : ∀ (ps : List (List Nat)), Lst (jn y (ps ++ [E]))
  | [] => hE
  | a :: ps => by
    have ih := jn_lst hE (y := y) ps
    cases ps with
    | nil => exact lst_app hE
    | cons b ps => exact lst_app (a := a ++ y) ih
theorem help_law {wd : Int} {D E : Str} {ts : List Str} (hw : wd ≤ 60) (hD : Tx D) (hE : Tx E) (hT : ∀ t ∈ ts, Tx t) (h3 : ts.length ≤ 3) :
    ∃ n y, SqTo n (helpF "p" wd (some D) (ts.map some) (some E)) y ∧ y.length ≤ 5000000 ∧ Txt.split (Txt.stripChars y "\n" ++ "\n") "\n\n" = foundL wd D E ts := by
  have rD := (rows_rr (wd := wd) hD (.inl rfl)).ok
  have rE := (rows_rr (wd := wd) hE (.inl rfl)).ok
  have rT : ∀ t ∈ ts, RowsOk (rowsF t "p" wd 2) t (sizeOf wd 2) := fun t ht => (rows_rr (wd := wd) (hT t ht) (.inr rfl)).ok
  have hl := help_len (E := E) hw hD hE hT h3
  have hBT : ∀ t ∈ ts.map fun t => (grp (rowsF t "p" wd 2)).map (·.cps.toList), Blk t := fun b hb => by
    obtain ⟨t, ht, rfl⟩ := List.mem_map.mp hb
    exact grp_blk (rT t ht)
  obtain ⟨n, y, h1, h2⟩ := sq_help uRow rD.blk rE.blk hBT (by rw [List.length_map]; exact h3) (help_list fun t ht => (rT t ht).ne) (by omega)
  refine ⟨n, y, h1, sq_end h1 (by omega), ?_⟩
  have h2' : y.cps.toList = jn nn (partsL uL ((rowsF D "p" wd 0).map (·.cps.toList)) (ts.map fun t => (grp (rowsF t "p" wd 2)).map (·.cps.toList)) ((rowsF E "p" wd 0).map (·.cps.toList))) ++ List.replicate 2 10 := h2
  obtain ⟨c, m, hu⟩ : ∃ c m, uL = c :: m ∧ c ≠ 10 := ⟨117, [115, 97, 103, 101, 58, 32, 112], by decide +kernel, by decide⟩
  have hbs : ∀ b ∈ [uL] :: ((rowsF D "p" wd 0).map (·.cps.toList)) :: (ts.map fun t => (grp (rowsF t "p" wd 2)).map (·.cps.toList)), Blk b := fun b hb => by
    rcases List.mem_cons.mp hb with rfl | hb
    · exact row_blk uRow
    · rcases List.mem_cons.mp hb with rfl | hb
      · exact rD.blk
      · exact hBT b hb
  have hpp : partsL uL ((rowsF D "p" wd 0).map (·.cps.toList)) (ts.map fun t => (grp (rowsF t "p" wd 2)).map (·.cps.toList)) ((rowsF E "p" wd 0).map (·.cps.toList)) = ([uL] :: ((rowsF D "p" wd 0).map (·.cps.toList)) :: (ts.map fun t => (grp (rowsF t "p" wd 2)).map (·.cps.toList))).map bt ++ [bt ((rowsF E "p" wd 0).map (·.cps.toList))] := rfl
  have hlst : Lst (jn nn (partsL uL ((rowsF D "p" wd 0).map (·.cps.toList)) (ts.map fun t => (grp (rowsF t "p" wd 2)).map (·.cps.toList)) ((rowsF E "p" wd 0).map (·.cps.toList)))) := by
    rw [hpp]
    exact jn_lst (lst_blk rE.blk) _
  obtain ⟨r, hr⟩ : ∃ r, jn nn (partsL uL ((rowsF D "p" wd 0).map (·.cps.toList)) (ts.map fun t => (grp (rowsF t "p" wd 2)).map (·.cps.toList)) ((rowsF E "p" wd 0).map (·.cps.toList))) = c :: r := by
    refine ⟨m ++ nn ++ jn nn (bt ((rowsF D "p" wd 0).map (·.cps.toList)) :: ((ts.map fun t => (grp (rowsF t "p" wd 2)).map (·.cps.toList)).map bt ++ [bt ((rowsF E "p" wd 0).map (·.cps.toList))])), ?_⟩
    show uL ++ nn ++ jn nn (bt ((rowsF D "p" wd 0).map (·.cps.toList)) :: ((ts.map fun t => (grp (rowsF t "p" wd 2)).map (·.cps.toList)).map bt ++ [bt ((rowsF E "p" wd 0).map (·.cps.toList))])) = _
    rw [hu.1]
    rfl
  rw [hr] at h2' hlst
  have hst := strip_nl h2' hu.2 hlst
  rw [hst]
  have hx : (mk (c :: r) ++ "\n").cps.toList = jn ("\n\n" : Str).cps.toList (([uL] :: ((rowsF D "p" wd 0).map (·.cps.toList)) :: (ts.map fun t => (grp (rowsF t "p" wd 2)).map (·.cps.toList))).map bt ++ [bt ((rowsF E "p" wd 0).map (·.cps.toList)) ++ [10]]) := by
    rw [Str.cps_append, Array.toList_append, mk_list, n1l, n2l, jn_last, ← hpp, hr]
  rw [split_pts (m := 2) (by decide) n2 (by decide +kernel) (pts_two hbs rE.blk) hx]
  apply XTight.map_inj
  rw [map_mk]
  unfold foundL
  have e2 : (ts.map fun t => Str.join "\n" (grp (rowsF t "p" wd 2))).map (·.cps.toList) = (ts.map fun t => (grp (rowsF t "p" wd 2)).map (·.cps.toList)).map bt := by
    rw [List.map_map, List.map_map]
    apply List.map_congr_left
    intro t _
    exact join_bt _
  simp only [List.map_cons, List.map_nil, List.map_append (f := fun x : Str => x.cps.toList), Str.cps_append, Array.toList_append, join_bt, n1l]
  rw [e2]
  rfl
end K45

namespace K45
open PySem L2 PyProof PyProof.Rows
/-! ### the law: a text of words -/
abbrev sLWords : Stmt := top 91
def spWords : Sp := fun vs H Q _ => ∃ (st cl : Addr) (n : Nat), vs = [.ref st] ∧ Strm H st cl n ∧ n ≤ 90000 ∧ ∀ (t : Str) (n' : Nat) (H' : Hp), Tx t → Strm H' st cl n' → n' ≤ n + 70 → Kp2 st cl H H' → Q (.str t) H'
section
variable {P : Program} {w : World} {K : PySem.W.Frag} {mg : Str → Option Value} {base : Heap}
abbrev nWords : List Str := ["_law_stream", "_law_some", "_law_gaps", "_law_texts", "_law_k"]
theorem scWords : FnScope nWords ["_law_stream"] (defScope sLWords) := ⟨rfl, rfl, rfl, by decide +kernel, rfl, by decide +kernel, by decide +kernel⟩
theorem mem_str {l : List Str} {x : V} (h : x ∈ l.map V.str) : ∃ y ∈ l, x = .str y := by
  obtain ⟨y, hy, rfl⟩ := List.mem_map.mp h
  exact ⟨y, hy, rfl⟩
theorem gap_len {g : Str} (h : g ∈ gapsM) : g.length ≤ 3 := (gap_of h).2.2.1
theorem ok_words {f fD fP : Addr} {fd fdD fdP : FuncData} (F : Fun K "_law_words" "_law_words" sLWords f fd) (T : TxtB mg) (Dr : At P w K mg base "_law_draw" 1 ["_law_stream", "_law_many"] spDraw fD fdD) (Pk : At P w K mg base "_law_pick" 2 ["_law_stream", "_law_some"] spPick fP fdP) : FnOk P w K mg base CX0 3 f fd ["_law_stream"] spWords := by
  refine F.ok scWords (fun vs H Q E h => ?_) (fun cdv A outer s H vs Q E hr h => ?_)
  · obtain ⟨st, cl, n, rfl, _⟩ := h
    rfl
  · obtain ⟨st, cl, n, rfl, S, hn, k⟩ := h
    have hz6 : PySem.sizeLine = 16777216 := PySem.sizeLine_eq
    have r1 := hr.mono (show 1 ≤ 2 by decide)
    refine ⟨_, pss_mid (ps_set (i := 1) scWords.nd rfl (Or.inr rfl) (pe_lst (pa_cons pe_str (pa_cons pe_str (pa_cons pe_str (pa_cons pe_str (pa_cons pe_str (pa_cons pe_str (pa_cons pe_str (pa_cons pe_str (pa_cons pe_str (pa_cons pe_str (pa_cons pe_str pa_nil)))))))))))))
      (pss_mid (ps_set (i := 2) scWords.nd rfl (Or.inr rfl) (pe_lst (pa_cons pe_str (pa_cons pe_str (pa_cons pe_str (pa_cons pe_str (pa_cons pe_str (pa_cons pe_str pa_nil))))))))
      (pss_mid (ps_setLc (i := 3) (own := [("_law_k", 4)]) (g := gName 4) (tt := tYes) rfl scWords.nd rfl rfl (sw_true rfl rfl rfl (by decide +kernel)) (pi_range1 rfl T.range (pa_cons (pe_op op_add pe_int (pe_call Dr.ok r1 rfl Dr.m Dr.k Dr.b .nil pass0 (pa_cons (pv 0) (pa_cons pe_int pa_nil)))) pa_nil)) (blkOk_by (N := nWords) (sc := defScope sLWords) (by decide +kernel)) (fun _ _ _ _ _ => pg_name (i := 4) scWords.nd rfl (Or.inl rfl)) (fun _ _ _ _ _ => pts_nil) (fun _ _ _ _ _ => pe_op op_add_str (pe_call Pk.ok hr rfl Pk.m Pk.k Pk.b .nil pass0 (pa_cons (pv 0) (pa_cons (pv 1) pa_nil))) (pe_call Pk.ok hr rfl Pk.m Pk.k Pk.b .nil pass0 (pa_cons (pv 0) (pa_cons (pv 2) pa_nil)))))
      (pss_one (ps_ret (pe_op op_add_str (pe_call Pk.ok hr rfl Pk.m Pk.k Pk.b .nil pass0 (pa_cons (pv 0) (pa_cons (pe_lst (pa_cons pe_str (pa_cons pe_str (pa_cons pe_str pa_nil)))) pa_nil))) (pe_bm PySem.F.plainAttrs_str PySem.F.slot_str_join PySem.F.type_str_join mt_join pe_str (pa_cons (pv 3) pa_nil))))))), ?_⟩
    have fr : ∀ {b : Addr}, H b = none → b ≠ st ∧ b ≠ cl := fun {b} h => by
      obtain ⟨o, h1⟩ := S.st
      obtain ⟨u, h2⟩ := S.cl
      exact ⟨(ne_of_none h1 h).symm, (ne_of_none h2 h).symm⟩
    refine ⟨fun σ' H' => ∃ W, H W = none ∧ σ' = [some (.ref st), some (.ref W), none, none, none] ∧ Same H H' ∧ H' W = some (.lst (wordsM.map V.str)), ?_, ?_⟩
    · exact ⟨(by show 11 ≤ sizeLine; decide), fun W hW => ⟨W, hW, rfl, same_upd hW, upd_same⟩⟩
    rintro _ H1 ⟨W, hW0, rfl, e1, hW⟩
    refine ⟨fun σ' H' => ∃ G, H G = none ∧ σ' = [some (.ref st), some (.ref W), some (.ref G), none, none] ∧ Same H1 H' ∧ H' G = some (.lst (gapsM.map V.str)), ?_, ?_⟩
    · exact ⟨(by show 6 ≤ sizeLine; decide), fun G hG => ⟨G, Same.free e1 hG, rfl, same_upd hG, upd_same⟩⟩
    rintro _ H2 ⟨G, hG0, rfl, e2, hG⟩
    have hW2 := e2 _ _ hW
    have nW := fr hW0
    have nG := fr hG0
    have S2 := S.keep (e1.trans e2)
    refine ⟨fun σ' H' => ∃ (L : Addr) (ps : List (Str × Str)) (m : Nat), σ' = [some (.ref st), some (.ref W), some (.ref G), some (.ref L), none] ∧ Strm H' st cl m ∧ m ≤ n + 61 ∧ Kp2 st cl H H' ∧ H' L = some (.lst ((ps.map fun p => p.1 ++ p.2).map V.str)) ∧ H L = none ∧ ps ≠ [] ∧ ps.length ≤ 30 ∧ ∀ p ∈ ps, p.1 ∈ wordsM ∧ p.2 ∈ gapsM, ?_, ?_⟩
    · refine ⟨_, rfl, st, cl, n, 30, rfl, S2, by decide, by decide, by omega, fun j H3 j0 j1 S3 k3 => ⟨_, _, rfl, rfl, _, rfl, by omega, by omega, fun L hL => ?_⟩⟩
      have kk := (Kp2.of_same (a := st) (b := cl) (e1.trans e2)).trans k3
      have hL0 : H L = none := by
        cases q : H L with
        | none => rfl
        | some o =>
          by_cases c1 : L = st
          · subst c1
            obtain ⟨o', ho'⟩ := S3.st
            rw [ho'] at hL
            cases hL
          · by_cases c2 : L = cl
            · subst c2
              obtain ⟨o', ho'⟩ := S3.cl
              rw [ho'] at hL
              cases hL
            · have := kk _ _ q c1 c2
              rw [this] at hL
              cases hL
      have nL := fr hL0
      have hWa := k3 _ _ hW2 nW.1 nW.2
      have hGa := k3 _ _ hG nG.1 nG.2
      have nWL : W ≠ L := ne_of_none hWa hL
      have nGL : G ≠ L := ne_of_none hGa hL
      refine lc_range (lo := 0) (n := (1 + j).toNat) (fun i H' => ∃ ps : List (Str × Str), Strm H' st cl (n + 1 + 2 * i) ∧ Kp2 st cl H H' ∧ H' L = some (.lst ((ps.map fun p => p.1 ++ p.2).map V.str)) ∧ H' W = some (.lst (wordsM.map V.str)) ∧ H' G = some (.lst (gapsM.map V.str)) ∧ ps.length = i ∧ ∀ p ∈ ps, p.1 ∈ wordsM ∧ p.2 ∈ gapsM)
        ⟨[], S3.keep (same_upd hL), kk.trans (Kp2.of_same (same_upd hL)), upd_same, same_upd hL _ _ hWa, same_upd hL _ _ hGa, rfl, fun p z => nomatch z⟩ (fun i H' hi h => ?_) (fun H' h => ?_)
      · obtain ⟨ps, Si, ki, hLi, hWi, hGi, hl, hps⟩ := h
        refine ⟨rfl, _, rfl, _, rfl, st, cl, _, W, _, rfl, Si, hWi, nW.1, nW.2, (by decide), (by decide), by omega, fun x H4 hx S4 k4 => ?_⟩
        obtain ⟨x, hxm, rfl⟩ := mem_str hx
        refine ⟨_, rfl, _, rfl, st, cl, _, G, _, rfl, S4, k4 _ _ hGi nG.1 nG.2, nG.1, nG.2, (by decide), (by decide), by omega, fun y H5 hy S5 k5 => ?_⟩
        obtain ⟨y, hym, rfl⟩ := mem_str hy
        have l1 := (wd_of hxm).l9
        have l2 := gap_len hym
        have k45 := k4.trans k5
        refine ⟨_, _, rfl, rfl, (by omega), _, k45 _ _ hLi nL.1 nL.2, (by rw [List.length_map, List.length_map]; omega), ps ++ [(x, y)], ?_, ?_, ?_, ?_, ?_, ?_, ?_⟩
        · obtain ⟨c, b, ns, g1, g2, g3⟩ := S5.ex
          exact ⟨c, b, ns, by rw [upd_ne nL.1.symm]; exact g1, by rw [upd_ne nL.2.symm]; exact g2, g3⟩
        · intro q o hq q1 q2
          rw [upd_ne (ne_of_none hq hL0)]
          exact (ki.trans k45) _ _ hq q1 q2
        · rw [upd_same, List.map_append, List.map_append]
          rfl
        · rw [upd_ne nWL]
          exact k45 _ _ hWi nW.1 nW.2
        · rw [upd_ne nGL]
          exact k45 _ _ hGi nG.1 nG.2
        · rw [List.length_append, hl]
          rfl
        · intro p hp
          rcases List.mem_append.mp hp with hp | hp
          · exact hps p hp
          · rw [List.mem_singleton.mp hp]
            exact ⟨hxm, hym⟩
      · obtain ⟨ps, Si, ki, hLi, hWi, hGi, hl, hps⟩ := h
        refine ⟨L, ps, _, rfl, Si, by omega, ki, hLi, hL0, fun z => ?_, by omega, hps⟩
        rw [z] at hl
        have : (0 : Nat) = (1 + j).toNat := hl
        omega
    rintro _ H3 ⟨L, ps, m, rfl, S3, hm, k3, hL, hL0, hps0, hps30, hps⟩
    have nL := fr hL0
    refine ⟨_, rfl, (by show 3 ≤ sizeLine; decide), fun Z hZ => ?_⟩
    have eZ := same_upd (o := .lst (leadsM.map V.str)) hZ
    have hZ' : (upd H3 Z (.lst (leadsM.map V.str))) Z = some (.lst (leadsM.map V.str)) := upd_same
    have S3' := S3.keep eZ
    have nZ : Z ≠ st ∧ Z ≠ cl := by
      obtain ⟨o, h1⟩ := S3.st
      obtain ⟨u, h2⟩ := S3.cl
      exact ⟨(ne_of_none h1 hZ).symm, (ne_of_none h2 hZ).symm⟩
    refine ⟨st, cl, m, Z, _, rfl, S3', hZ', nZ.1, nZ.2, (by decide), (by decide), by omega, fun x H4 hx S4 k4 => ?_⟩
    obtain ⟨ld, hld, rfl⟩ := mem_str hx
    have hL4 := k4 _ _ (eZ _ _ hL) nL.1 nL.2
    have kf : Kp2 st cl H H4 := k3.trans ((Kp2.of_same eZ).trans k4)
    have hD : Drawn ld ps := ⟨hld, hps0, hps30, hps⟩
    have hsum : ((ps.map fun p => p.1 ++ p.2).map (·.length)).sum ≤ 12 * ((ps.map fun p => p.1 ++ p.2).map (·.length)).length := sum_le fun x hx => by
      obtain ⟨y, hy, rfl⟩ := List.mem_map.mp hx
      obtain ⟨p, hp, rfl⟩ := List.mem_map.mp hy
      have l1 := (wd_of (hps p hp).1).l9
      have l2 := gap_len (hps p hp).2
      show (p.1 ++ p.2).length ≤ 12
      rw [Str.length_append]
      omega
    rw [List.length_map, List.length_map] at hsum
    have hjl : ("" : Str).length = 0 := rfl
    have hj := join_len "" (ps.map fun p => p.1 ++ p.2)
    rw [List.length_map, hjl] at hj
    have hld1 := (leads_ok ld hld).2.1
    refine ⟨rfl, _, rfl, "", L, ps.map (fun p => p.1 ++ p.2), rfl, rfl, .inl (SqL.of hL4), (by rw [List.length_map, hjl]; omega), ?_⟩
    exact ⟨_, _, rfl, rfl, (by omega), k _ _ _ ⟨ld, ps, hD, rfl⟩ S4 (by omega) kf⟩
end
end K45

namespace K45
open PySem L2 PyProof PyProof.Rows
/-! ### the law: whether lines are those of a text -/
abbrev sLines : Stmt := top 90
def spLR : Sp := fun vs H Q _ => ∃ (a : Addr) (t : Str) (z : Nat) (rows : List Str), vs = [.ref a, .str t, .int (z : Int)] ∧ H a = some (.lst (rows.map V.str)) ∧ RowsOk rows t z ∧ z ≤ 100 ∧ t.length ≤ 1000 ∧ (∀ w ∈ Txt.words t, PyData.strOk w = true) ∧ ∀ H', Same H H' → Q (.bl true) H'
theorem strs_shapedL {fl : List Str} (h : ∀ x ∈ fl, PyData.strOk x = true) : SeqAt.shaped (.list (fl.map PyData.str)) = true := strs_shaped h
theorem eqv_self {d : PyData} (h : SeqAt.shaped d = true) : PyData.eqv d d = true := SeqAt.eqv_refl d (SeqAt.canLay_of_shaped h)
theorem any_f {α : Type} (xs : List α) : (xs.map fun _ => false).any id = false := any_ff xs
theorem cut_list_from (xs : List V) (i : Nat) : cutV xs (some ((i : Nat) : Int)) none = xs.drop i := by
  unfold cutV
  rw [HT.sIx_nat, HT.sIx_none]
  by_cases hi : i ≤ xs.length
  · rw [Nat.min_eq_left hi, List.take_of_length_le (by rw [List.length_drop]; omega)]
  · rw [List.drop_eq_nil_of_le (by omega), List.drop_eq_nil_of_le (by omega), List.take_nil]
def rJn (K : PySem.W.Frag) : V → List V → Hp → VK → Prop := fun x xs H Q => ∃ (a : Str) (p : Addr) (ys : List Str), x = .str a ∧ xs = [.ref p] ∧ (SqL K H p (ys.map V.str) ∨ SqT K H p (ys.map V.str)) ∧ (ys.map (·.length)).sum + ys.length * a.length ≤ 16777216 ∧ Q (.str (Txt.join a ys)) H
section
variable {P : Program} {w : World} {K : PySem.W.Frag} {mg : Str → Option Value} {base : Heap}
abbrev nLR : List Str := ["_law_rows", "_law_text", "_law_size", "_law_one", "_law_other", "_law_row"]
theorem scLR : FnScope nLR ["_law_rows", "_law_text", "_law_size"] (defScope sLines) := ⟨rfl, rfl, rfl, by decide +kernel, rfl, by decide +kernel, by decide +kernel⟩
theorem ok_lines {f : Addr} {fd : FuncData} (F : Fun K "_law_lines_right" "_law_lines_right" sLines f fd) (T : TxtB mg) (zAny : mg "any" = none) : FnOk P w K mg base CX0 1 f fd ["_law_rows", "_law_text", "_law_size"] spLR := by
  refine F.ok scLR (fun vs H Q E h => ?_) (fun cdv A outer s H vs Q E hr h => ?_)
  · obtain ⟨a, t, z, rows, rfl, _⟩ := h
    rfl
  · obtain ⟨a, t, z, rows, rfl, ha, R, hz, ht, hw, k⟩ := h
    have hz6 : PySem.sizeLine = 16777216 := PySem.sizeLine_eq
    have hu : (Cx.A (cxOf CX0 P w K mg base nLR "_law_lines_right" (defScope sLines) f cdv A outer s H E)).units + 64 < cLine := hr.units
    refine ⟨_, pss_mid (ps_if (PW.pt (pw_or (pt_cmpR (op_neD hu) (pe_bm0 PySem.F.plainAttrs_str PySem.F.slot_str_split PySem.F.type_str_split mt_words (pe_bm PySem.F.plainAttrs_str PySem.F.slot_str_join PySem.F.type_str_join mt_join pe_str (pa_cons (pv 0) pa_nil))) (pe_bm0 PySem.F.plainAttrs_str PySem.F.slot_str_split PySem.F.type_str_split mt_words (pv 1)) (nomark _))
        (pw_or1 (pt_val (pe_callB (cr_any rfl) (by rfl) zAny (by decide +kernel) (pa_cons (pe_lc (own := [("_law_row", 5)]) (g := gName 5) (tt := tYes) (te := tOrV (tOp _ (tVar 5) (tBM K "str" (rJn K) (tC (.str " ")) (tCons (tBM0 K "str" _ (tVar 5)) tNil))) (tOp _ (tVar 5) (tC (.str "")))) rfl scLR.nd (pi_list (pv 0)) (blkOk_by (N := nLR) (sc := defScope sLines) (by decide +kernel)) (fun _ _ _ _ _ => pg_name (i := 5) scLR.nd rfl (Or.inl rfl)) (fun _ _ _ _ _ => pts_nil)
          (fun _ _ _ _ _ => by exact pe_or (pe_cmpR op_ne (pv 5) (pe_bm PySem.F.plainAttrs_str PySem.F.slot_str_join PySem.F.type_str_join mt_join pe_str (pa_cons (pe_bm0 PySem.F.plainAttrs_str PySem.F.slot_str_split PySem.F.type_str_split mt_words (pv 5)) pa_nil)) (nomark _)) (pe_one (pe_cmpR op_eq (pv 5) pe_str (nomark _))))) pa_nil)))))) pss_never pss_nil)
      (pss_mid (ps_for PassesOwn.never rfl (RZ.pi_zipA (by rfl) T.zip (pa_cons (pv 0) (pa_cons (pe_slice sl_list (pv 0) (po_some pe_int) po_none) pa_nil))) (pg_tup rfl (pgs_cons (pg_name (i := 3) scLR.nd rfl (Or.inl rfl)) (pgs_cons (pg_name (i := 4) scLR.nd rfl (Or.inl rfl)) pgs_nil)))
        (pss_one (ps_if (PW.pt (pw_or (pt_cmpR op_gt (pe_callB call_len_str (by rfl) T.len PySem.boot_len (pa_cons (pv 3) pa_nil)) (pv 2) (nomark _)) (pw_or1 (pt_cmpR op_le (pe_op op_add (pe_op op_add (pe_callB call_len_str (by rfl) T.len PySem.boot_len (pa_cons (pv 3) pa_nil)) pe_int) (pe_callB call_len_str (by rfl) T.len PySem.boot_len (pa_cons (pe_ix ix_list (pe_bm0 PySem.F.plainAttrs_str PySem.F.slot_str_split PySem.F.type_str_split mt_words (pv 4)) pe_int (fun _ _ => rfl)) pa_nil))) (pv 2) (nomark _))))) pss_never pss_nil)))
      (pss_one (ps_ret (pe_callB (cr_all rfl) (by rfl) T.all (by decide +kernel) (pa_cons (pe_lc (own := [("_law_row", 5)]) (g := gName 5) (tt := tYes) (te := tOp _ (tCB _ (tCons (tVar 5) tNil)) (tVar 2)) rfl scLR.nd (pi_list (pv 0)) (blkOk_by (N := nLR) (sc := defScope sLines) (by decide +kernel)) (fun _ _ _ _ _ => pg_name (i := 5) scLR.nd rfl (Or.inl rfl)) (fun _ _ _ _ _ => pts_nil)
          (fun _ _ _ _ _ => by exact pe_cmpR op_le (pe_callB call_len_str (by rfl) T.len PySem.boot_len (pa_cons (pv 5) pa_nil)) (pv 2) (nomark _))) pa_nil))))), ?_⟩
    have hrl : ∀ r ∈ rows, r.length ≤ 100 := fun r hr => Nat.le_trans (R.row r hr).2.1 hz
    have n30 := R.n30
    have hsum : (rows.map (·.length)).sum ≤ 100 * (rows.map (·.length)).length := sum_le fun x hx => by
      obtain ⟨y, hy, rfl⟩ := List.mem_map.mp hx
      exact hrl y hy
    rw [List.length_map] at hsum
    have h1l : (" " : Str).length = 1 := rfl
    have hj := join_len " " rows
    rw [h1l] at hj
    have hsh := strs_shapedL (fl := Txt.words t) hw
    -- the words are those of the text
    refine ⟨fun σ' H' => σ' = [some (.ref a), some (.str t), some (.int (z : Int)), none, none, none] ∧ Same H H', ?_, ?_⟩
    · refine ⟨rfl, _, rfl, " ", a, rows, rfl, rfl, .inl (SqL.of ha), (by rw [h1l]; omega), rfl, _, rfl, rfl, (by omega), fun W1 hW1 => ?_⟩
      rw [R.all]
      have e1 := same_upd (o := .lst ((Txt.words t).map V.str)) hW1
      have hW1' : (upd H W1 (.lst ((Txt.words t).map V.str))) W1 = some (.lst ((Txt.words t).map V.str)) := upd_same
      generalize upd H W1 (.lst ((Txt.words t).map V.str)) = G1 at e1 hW1'
      refine ⟨_, rfl, rfl, _, rfl, rfl, (by omega), fun W2 hW2 => ?_⟩
      have e2 := same_upd (o := .lst ((Txt.words t).map V.str)) hW2
      have hW2' : (upd G1 W2 (.lst ((Txt.words t).map V.str))) W2 = some (.lst ((Txt.words t).map V.str)) := upd_same
      generalize upd G1 W2 (.lst ((Txt.words t).map V.str)) = G2 at e2 hW2'
      refine ⟨_, _, .lst (SqL.of (e2 _ _ hW1')) (dpAll_strs _), .lst (SqL.of hW2') (dpAll_strs _), hsh, hsh, ?_⟩
      rw [eqv_self hsh]
      have eG := e1.trans e2
      have ha2 := eG _ _ ha
      refine ⟨_, rfl, iteF ⟨_, rfl, a, rfl, ⟨_, SqL.of ha2⟩, fun D hD => ?_⟩⟩
      refine lc_list (K := K) (a := a) (xs := rows.map V.str) (BlI (fun _ : Str => false) G2 D rows) (blI0 hD) (fun i H' _ h => SqL.of (h.1 _ _ ha2)) (fun i x H' hx h => ?_) (fun H' h => ?_)
      · obtain ⟨r, hr, rfl⟩ := str_at hx
        have hrm := List.mem_of_getElem? hr
        obtain ⟨q1, q2, q3, q4, q5, q6⟩ := R.row r hrm
        have hrl1 := hrl r hrm
        have hww := StrLaws.words_weight r
        refine ⟨rfl, _, rfl, rfl, _, rfl, rfl, r, rfl, rfl, (by omega), fun W3 hW3 => ?_⟩
        refine ⟨" ", W3, Txt.words r, rfl, rfl, .inl (SqL.of upd_same), (by rw [h1l]; omega), rfl, false, ?_, iteF ?_⟩
        · rw [← q3, decide_eq_true rfl]
          rfl
        · exact ⟨_, rfl, rfl, blI_step hD hr h (same_upd hW3) (decide_eq_false (fun e => q4 (V.str.inj e))) (by omega)⟩
      · obtain ⟨e, hl⟩ := blI_end (by rw [List.length_map]) h
        exact ⟨D, _, rfl, SqL.of hl, false, congrArg V.bl (any_f rows), iteF ⟨rfl, eG.trans e⟩⟩
    rintro _ H1 ⟨rfl, e1⟩
    have ha1 := e1 _ _ ha
    -- neighbours
    refine ⟨fun σ' H' => ∃ r3 r4, σ' = [some (.ref a), some (.str t), some (.int (z : Int)), r3, r4, none] ∧ Same H H', ?_, ?_⟩
    · refine ⟨_, rfl, _, rfl, 1, rfl, a, _, rfl, SqL.of ha1, fun p hp => ?_⟩
      have ep := same_upd (o := .lst (cutV (rows.map V.str) (some 1) none)) hp
      have hpg : (upd H1 p (.lst (cutV (rows.map V.str) (some 1) none))) p = some (.lst (cutV (rows.map V.str) (some 1) none)) := upd_same
      generalize upd H1 p (.lst (cutV (rows.map V.str) (some 1) none)) = G at ep hpg
      have hcut : cutV (rows.map V.str) (some 1) none = (rows.map V.str).drop 1 := cut_list_from _ 1
      rw [hcut] at hpg
      have eG := e1.trans ep
      have haG := eG _ _ ha
      refine ⟨a, p, rows.map V.str, (rows.map V.str).drop 1, rfl, .inl ⟨SqL.of haG, SqL.of hpg, ?_⟩⟩
      refine for_it (walk_zip (K := K) (a := a) (b := p) (xs := rows.map V.str) (ys := (rows.map V.str).drop 1) (n := rows.length - 1) (by rw [List.length_drop, List.length_map]; omega)) (fun i σ' H' => ∃ r3 r4, σ' = [some (.ref a), some (.str t), some (.int (z : Int)), r3, r4, none] ∧ Same G H') ⟨none, none, rfl, Same.refl _⟩ ?_ ?_ ?_
      · rintro i σ' H' _ ⟨_, _, _, e⟩
        exact ⟨SqL.of (e _ _ haG), SqL.of (e _ _ hpg)⟩
      · rintro i v σ' H' H'' hi ⟨r3, r4, rfl, e⟩ yp
        obtain ⟨TT, x, y, rfl, hTT, rfl, hx, hy⟩ := yp
        have eT := same_upd (o := .tup [x, y]) hTT
        have hgT : (upd H' TT (.tup [x, y])) TT = some (.tup [x, y]) := upd_same
        generalize upd H' TT (.tup [x, y]) = GT at eT hgT
        obtain ⟨r, hr, rfl⟩ := str_at hx
        have hy : ((rows.map V.str).drop 1)[i]? = some y := hy
        rw [List.getElem?_drop] at hy
        obtain ⟨o, ho, rfl⟩ := str_at hy
        have ho' : rows[i + 1]? = some o := by rw [Nat.add_comm]; exact ho
        have hnx := R.nx i r o hr ho'
        have hrm := List.mem_of_getElem? hr
        have hom := List.mem_of_getElem? ho
        have hrz := (R.row r hrm).2.1
        have hrl1 := hrl r hrm
        have hol1 := hrl o hom
        obtain ⟨_, _, _, _, hone, _⟩ := R.row o hom
        refine ⟨TT, _, rfl, SqT.of hgT, rfl, _, _, rfl, _, _, rfl, rfl, ?_⟩
        refine ⟨_, rfl, _, rfl, (by omega), _, rfl, _, _, rfl, rfl, _, rfl, ite2 (fun hc => absurd (of_decide_eq_true hc) (by omega)) (fun _ => ?_)⟩
        cases hws : Txt.words o with
        | nil => exact absurd hws hone
        | cons w0 ws =>
          rw [hws] at hnx
          have hnx' : z < r.length + 1 + w0.length := hnx
          have hw0 : w0.length ≤ 101 := by
            have := StrLaws.words_weight o
            rw [hws, List.map_cons, List.sum_cons, List.length_cons] at this
            omega
          refine ⟨_, rfl, _, rfl, (by omega), _, _, rfl, rfl, _, rfl, rfl, o, rfl, rfl, (by omega), fun W hW => ?_⟩
          refine ⟨W, _, 0, .str w0, rfl, rfl, SqL.of upd_same, atI_nat (j := 0) (by rw [hws]; rfl), _, rfl, (by omega), _, _, rfl, rfl, _, rfl, _, _, rfl, rfl, _, rfl, ite2 (fun hc => absurd (of_decide_eq_true hc) (by omega)) (fun _ => ?_)⟩
          exact ⟨_, _, rfl, e.trans (eT.trans (same_upd hW))⟩
      · rintro σ' H' ⟨r3, r4, rfl, e⟩
        exact ⟨_, _, rfl, eG.trans e⟩
    rintro _ H2 ⟨r3, r4, rfl, e2⟩
    have ha2 := e2 _ _ ha
    -- all short
    refine ⟨_, rfl, a, rfl, ⟨_, SqL.of ha2⟩, fun D hD => ?_⟩
    refine lc_list (K := K) (a := a) (xs := rows.map V.str) (BlI (fun _ : Str => true) H2 D rows) (blI0 hD) (fun i H' _ h => SqL.of (h.1 _ _ ha2)) (fun i x H' hx h => ?_) (fun H' h => ?_)
    · obtain ⟨r, hr, rfl⟩ := str_at hx
      have hrm := List.mem_of_getElem? hr
      have hrz := (R.row r hrm).2.1
      have hrl1 := hrl r hrm
      refine ⟨rfl, _, rfl, _, rfl, (by omega), _, rfl, _, _, rfl, rfl, blI_step hD hr h (Same.refl _) (decide_eq_true (by omega)) (by omega)⟩
    · obtain ⟨e, hl⟩ := blI_end (by rw [List.length_map]) h
      refine ⟨D, _, rfl, SqL.of hl, ?_⟩
      rw [all_tt]
      exact k _ (e2.trans e)
end
end K45

namespace K45
open PySem L2 PyProof PyProof.Rows XRuns XTight XStrip
theorem sIx_m1 (n d : Nat) : HT.sIx n d (some (-1)) = n - 1 := by
  show (if (-1 : Int) < 0 then ((-1 : Int) + (n : Int)).toNat else min ((-1 : Int)).toNat n) = _
  rw [if_pos (by decide)]
  omega
theorem cutS_last (e : Str) : cutS (e ++ "\n") (some (-1)) none = "\n" := by
  apply toL_inj
  unfold cutS
  rw [sIx_m1, HT.sIx_none]
  have hl : (e ++ "\n").length = e.length + 1 := by rw [Str.length_append]; rfl
  have ht : (e ++ "\n").cps.toList = e.cps.toList ++ [10] := by rw [Str.cps_append, Array.toList_append, n1l]
  show ((e ++ "\n").cps.toList.drop ((e ++ "\n").length - 1)).take _ = ("\n" : Str).cps.toList
  rw [hl, ht, n1l, Nat.add_sub_cancel, ← len_tl, List.drop_left, List.take_of_length_le (by show 1 ≤ _; omega)]
theorem cutS_init (e : Str) : cutS (e ++ "\n") none (some (-1)) = e := by
  apply toL_inj
  unfold cutS
  rw [sIx_m1, HT.sIx_none]
  have hl : (e ++ "\n").length = e.length + 1 := by rw [Str.length_append]; rfl
  have ht : (e ++ "\n").cps.toList = e.cps.toList ++ [10] := by rw [Str.cps_append, Array.toList_append, n1l]
  show ((e ++ "\n").cps.toList.drop 0).take ((e ++ "\n").length - 1 - 0) = _
  rw [hl, ht, Nat.add_sub_cancel, List.drop_zero, Nat.sub_zero, ← len_tl, List.take_left]
theorem two_list : ("  " : Str).cps.toList = [32, 32] := by decide +kernel
theorem cutS_two (y : Str) : cutS ("  " ++ y) none (some 2) = "  " := by
  apply toL_inj
  have := cutS_to ("  " ++ y) 2
  refine this.trans ?_
  rw [Str.cps_append, Array.toList_append, two_list]
  rfl
theorem cutS_rest (y : Str) : cutS ("  " ++ y) (some 2) none = y := by
  apply toL_inj
  have := cutS_from ("  " ++ y) 2
  refine this.trans ?_
  rw [Str.cps_append, Array.toList_append, two_list]
  rfl
theorem cut_inner (a b e : V) (m : List V) : cutV (a :: b :: (m ++ [e])) (some 2) (some (-1)) = m := by
  unfold cutV
  have hl : (a :: b :: (m ++ [e])).length = m.length + 3 := by simp
  have h2 : HT.sIx (m.length + 3) 0 (some 2) = 2 := by
    have := HT.sIx_nat (m.length + 3) 0 2
    refine this.trans ?_
    omega
  rw [hl, h2, sIx_m1]
  show (m ++ [e]).take (m.length + 3 - 1 - 2) = m
  have : m.length + 3 - 1 - 2 = m.length := by omega
  rw [this, List.take_left]
theorem strip_len (y z : Str) : (Txt.stripChars y z).length ≤ y.length := by
  unfold Txt.stripChars Txt.stripBy
  split
  · exact Nat.le_refl _
  · unfold stripped
    rw [← len_tl, StrLaws.strSub_toList, List.length_take, List.length_drop, len_tl]
    omega
theorem size0 {wd : Int} : (if 11 > wd then 11 else wd : Int) = ((sizeOf wd 0 : Nat) : Int) := by
  unfold sizeOf
  split <;> omega
theorem size2 {wd : Int} : ((if 11 > wd - 2 then 11 else wd - 2) - 2 : Int) = ((sizeOf wd 2 : Nat) : Int) := by
  unfold sizeOf
  split <;> omega
theorem size_le {wd ind : Int} (hw : wd ≤ 60) (hi : ind = 0 ∨ ind = 2) : sizeOf wd ind ≤ 60 := by
  rcases hi with rfl | rfl
  · rw [size_0]
    omega
  · rw [size_2]
    omega
theorem Tx.strOk {t : Str} (h : Tx t) : ∀ w ∈ Txt.words t, PyData.strOk w = true := fun w hw => (h.words.2.1 w hw).k
theorem found_len (wd : Int) (D E : Str) (ts : List Str) : (foundL wd D E ts).length = ts.length + 3 := by
  unfold foundL
  simp
/-- a join of rows is short -/
theorem join_le {rows : List Str} {t : Str} {z : Nat} (h : RowsOk rows t z) (hz : z ≤ 100) : (Str.join "\n" rows).length ≤ 4000 := by
  have := StrLaws.join_length_le "\n" rows
  have h30 := h.n30
  have hs : (rows.map (·.length)).sum ≤ 100 * (rows.map (·.length)).length := sum_le fun x hx => by
    obtain ⟨y, hy, rfl⟩ := List.mem_map.mp hx
    exact Nat.le_trans (h.row y hy).2.1 hz
  rw [List.length_map] at hs
  have e1 : ("\n" : Str).length = 1 := rfl
  rw [e1] at this
  omega
theorem grp_le {rows : List Str} {t : Str} {z : Nat} (h : RowsOk rows t z) (hz : z ≤ 100) : (Str.join "\n" (grp rows)).length ≤ 5000 := by
  have := StrLaws.join_length_le "\n" (grp rows)
  have h30 := h.n30
  have hs : ((grp rows).map (·.length)).sum ≤ 102 * ((grp rows).map (·.length)).length := sum_le fun x hx => by
    obtain ⟨y, hy, rfl⟩ := List.mem_map.mp hx
    rcases List.mem_cons.mp hy with rfl | hy
    · decide +kernel
    · obtain ⟨r, hr, rfl⟩ := List.mem_map.mp hy
      have := (h.row r hr).2.1
      show ("  " ++ r).length ≤ _
      rw [Str.length_append]
      have : ("  " : Str).length = 2 := rfl
      omega
  rw [List.length_map] at hs
  have hg : (grp rows).length = rows.length + 1 := by
    unfold grp
    rw [List.length_cons, List.length_map]
  rw [hg] at hs this
  have e1 : ("\n" : Str).length = 1 := rfl
  rw [e1] at this
  omega
/-! ### the first and the last help -/
def doesH (x : Str) : Str := "usage: " ++ x ++ "\n\n" ++ x ++ " does {this} " ++ x ++ "\n"
def lastH : Str := doesH "two words"
def lastD : Str := "{prog} does {this} {prog}"
theorem last_help : ∃ n y, SqTo n (helpF "two words" 78 (some lastD) [none, none] none) y ∧ y.length ≤ 5000000 ∧ Txt.stripChars y "\n" ++ "\n" = lastH := by
  refine ⟨0, _, ⟨?_, rfl⟩, ?_, ?_⟩
  · decide +kernel
  · decide +kernel
  · decide +kernel
end K45

namespace K45
open PySem L2 PyProof PyProof.Rows
/-! ### the law: one turn -/
def forBody (s : Stmt) : List Stmt := match s with
  | .For _ _ b _ _ => b
  | _ => []
def at_ (ss : List Stmt) (i : Nat) : Stmt := ss.getD i (.Pass ⟨0, 0, 0, 0⟩)
abbrev bLaw : List Stmt := defBody sLaw
abbrev bTurn : List Stmt := forBody (at_ bLaw 1)
abbrev nLaw : List Str := ["_law_script", "_law_stream", "_law_turn", "_law_wide", "_law_some", "_law_parser", "_law_text", "_law_found", "_law_block", "_law_rows", "_law_k", "_law_row"]
theorem scLaw : FnScope nLaw ["_law_script"] (defScope sLaw) := ⟨rfl, rfl, rfl, by decide +kernel, rfl, by decide +kernel, by decide +kernel⟩
theorem Strm.fr {H : Hp} {st cl : Addr} {n : Nat} (S : Strm H st cl n) {b : Addr} (h : H b = none) : b ≠ st ∧ b ≠ cl := by
  obtain ⟨o, h1⟩ := S.st
  obtain ⟨u, h2⟩ := S.cl
  exact ⟨(ne_of_none h1 h).symm, (ne_of_none h2 h).symm⟩
/-- the functions that the law calls -/
structure Fns (P : Program) (w : World) (K : PySem.W.Frag) (mg : Str → Option Value) (base : Heap) (CP CS aP aL : Addr) : Prop where
  T : TxtB mg
  zMax : mg "max" = none
  zAny : mg "any" = none
  St : ∃ f fd, At P w K mg base "_law_start" 1 ["_law_script"] (spStart K) f fd
  Dr : ∃ f fd, At P w K mg base "_law_draw" 1 ["_law_stream", "_law_many"] spDraw f fd
  Wo : ∃ f fd, At P w K mg base "_law_words" 3 ["_law_stream"] spWords f fd
  Lr : ∃ f fd, At P w K mg base "_law_lines_right" 1 ["_law_rows", "_law_text", "_law_size"] spLR f fd
  mP : mg "Parser" = some (.ref CP)
  cP : ClsN K CP parF
  hL : ∀ H, SqT K H aL []
  Mp : ∃ fP fdP, Mk K CP fP ∧ FnOk P w K mg base CX0 5 fP fdP pParI (spParI CP CS aP aL) ∧ (∃ g gV, KBn K fdP pParI 2 ["width", "description", "epilog", "add_help"] g gV ∧ ∀ x p v1 v2 v3 v4, gV [x, p] [v1, v2, v3, v4] = [x, p, .non, v2, v3, .ref aP, .ref aL, v1, .str "-", .str "", .non, .non, .str "error", v4, .bl true, .bl true]) ∧
    ∃ g gV, KBn K fdP pParI 2 ["description", "add_help"] g gV ∧ ∀ x p v1 v2, gV [x, p] [v1, v2] = [x, p, .non, v1, .non, .ref aP, .ref aL, .int 78, .str "-", .str "", .non, .non, .str "error", v2, .bl true, .bl true]
  Ag : ∃ f fd, FnOk P w K mg base CX0 5 f fd ["self", "title", "description"] (spAddG CP CS) ∧ Meth K CP "add_argument_group" f ∧ Binds K fd ["self", "title", "description"] []
  Fh : ∃ f fd, FnOk P w K mg base CX0 6 f fd ["self"] (spFH K CP CS) ∧ Meth K CP "format_help" f ∧ Binds K fd ["self"] []
theorem sg_min : SgOk "-" := ⟨by decide +kernel, by decide +kernel, by decide +kernel, by decide +kernel⟩
theorem none_of {H H' : Hp} (e : Same H H') {b : Addr} (h : H' b = none) : H b = none := none_of' e h
/-- a parser anew: what format_help asks -/
structure PHas (CP CS : Addr) (H : Hp) (p : Addr) (pr : Str) (ds ep : V) (wd : Int) (aL la le ls : Addr) (os : List (Option Str)) : Prop where
  t : PrT CP H p pr .non ds ep wd aL la le ls
  la : H la = some (.lst [])
  le : H le = some (.lst [])
  ls : ∃ vs', H ls = some (.lst vs') ∧ vs' ≠ [] ∧ PySem.Paired (SeAt CS H) vs' os
theorem PHas.keep {CP CS : Addr} {H H' : Hp} {p : Addr} {pr : Str} {ds ep : V} {wd : Int} {aL la le ls : Addr} {os : List (Option Str)} (h : PHas CP CS H p pr ds ep wd aL la le ls os) (e : Same H H') : PHas CP CS H' p pr ds ep wd aL la le ls os := by
  obtain ⟨vs', h1, h0, h2⟩ := h.ls
  exact ⟨h.t.keep e, e _ _ h.la, e _ _ h.le, vs', e _ _ h1, h0, paired_map (fun _ _ q => q.keep e) h2⟩
theorem PHas.kb {CP CS : Addr} {H H' : Hp} {p g : Addr} {pr : Str} {ds ep : V} {wd : Int} {aL la le ls : Addr} {os : List (Option Str)} {vs' : List V} {o : Option Str} (h : PHas CP CS H p pr ds ep wd aL la le ls os) (hv : H ls = some (.lst vs')) (e : Kb ls H H') (h1 : H' ls = some (.lst (vs' ++ [.ref g]))) (hg : SeAt CS H' (.ref g) o) : PHas CP CS H' p pr ds ep wd aL la le ls (os ++ [o]) := by
  obtain ⟨vs2, q1, q0, q2⟩ := h.ls
  rw [hv] at q1
  cases q1
  obtain ⟨dx, pf, cf, ab, ee, fi, lf, dd, hP⟩ := h.t.ex
  have nl : ∀ {b : Addr}, H b = some (.lst []) → b ≠ ls := fun {b} hb z => by
    rw [z, hv] at hb
    cases hb
    exact q0 rfl
  have ni : ∀ {b C d : Addr} {fs : List (Str × V)}, H b = some (.ins C d fs) → b ≠ ls := fun {b C d fs} hb z => by
    rw [z, hv] at hb
    cases hb
  refine ⟨⟨dx, pf, cf, ab, ee, fi, lf, dd, e _ _ hP (ni hP)⟩, e _ _ h.la (nl h.la), e _ _ h.le (nl h.le), _, h1, by simp, paired_snoc (paired_map (fun _ _ q => ?_) q2) hg⟩
  obtain ⟨x, d, m, a, t, r1, r2, r3, r4⟩ := q.ex
  exact ⟨x, d, m, a, t, r1, e _ _ r2 (ni r2), e _ _ r3 (nl r3), r4⟩
/-- what Parser() made -/
theorem par_has {CP CS : Addr} {H H1 H' : Hp} {x dx : Addr} {pr : Str} {ds ep : V} {wd : Int} {aL la lf le dd ls s0 s1 m0 m1 : Addr} (e1 : Same H H1) (hx : H x = none) (N : ParNew CP CS H1 H' x dx pr "-" "error" .non ds ep wd true true aL la lf le dd ls s0 s1 m0 m1) :
    PHas CP CS H' x pr ds ep wd aL la le ls [none, none] ∧ H ls = none ∧ Same H H' := by
  obtain ⟨fi, px⟩ := N.px
  obtain ⟨d0, v0, hs0⟩ := N.h_s0
  obtain ⟨d1, v1, hs1⟩ := N.h_s1
  refine ⟨⟨⟨dx, _, _, _, _, fi, lf, dd, px⟩, N.h_la, N.h_le, _, N.h_ls, (fun z => nomatch z), .cons ⟨s0, d0, m0, _, _, rfl, hs0, N.h_m0, (fun _ z => nomatch z)⟩ (.cons ⟨s1, d1, m1, _, _, rfl, hs1, N.h_m1, (fun _ z => nomatch z)⟩ .nil)⟩, none_of e1 (N.nw.new ls (by simp)).1, fun b o h => N.kp b o (e1 _ _ h) (ne_of_none h hx)⟩
section
variable {P : Program} {w : World} {K : PySem.W.Frag} {mg : Str → Option Value} {base : Heap}
abbrev X0 (P : Program) (w : World) (K : PySem.W.Frag) (mg : Str → Option Value) (base : Heap) (f : Addr) (cdv : Value) (A0 : Around) (outer : List Env) (s : Shared) (H : Hp) (E : XK) : Cx := (cxOf CX0 P w K mg base nLaw "law" (defScope sLaw) f cdv A0 outer s H E).nox
theorem turn_walk {f CP CS aP aL : Addr} (Z : Fns P w K mg base CP CS aP aL) {cdv : Value} {A0 : Around} {outer : List Env} {s : Shared} {H0 : Hp} {E : XK} (hr : Room 6 (A0.deeper (PyProof.Rows.envOfC "law" (defScope sLaw) s.heap.objs.size f cdv))) :
    ∃ t : TS, PSs (X0 P w K mg base f cdv A0 outer s H0 E) bTurn t ∧ ∀ (D : Ends) (H : Hp) (sc r2 r3 r4 r5 r6 r7 r8 r9 : Option V) (st cl : Addr) (n : Nat), Strm H st cl n → n ≤ 50000 →
      (∀ (r3 r4 r5 r6 r7 r8 r9 : Option V) (H' : Hp) (n' : Nat), Strm H' st cl n' → n' ≤ n + 400 → D.nx [sc, some (.ref st), r2, r3, r4, r5, r6, r7, r8, r9, none, none] H') →
      t D [sc, some (.ref st), r2, r3, r4, r5, r6, r7, r8, r9, none, none] H := by
  obtain ⟨_, _, Dr⟩ := Z.Dr
  obtain ⟨_, _, Wo⟩ := Z.Wo
  obtain ⟨_, _, Lr⟩ := Z.Lr
  obtain ⟨_, _, Mp, Gp, ⟨g, gV, kb, hg⟩, _⟩ := Z.Mp
  obtain ⟨_, _, Ga, Ma, Ba⟩ := Z.Ag
  obtain ⟨_, _, Gf, Mf, Bf⟩ := Z.Fh
  have T := Z.T
  have cP := Z.cP
  have zMax := Z.zMax
  have zAny := Z.zAny
  have hz6 : PySem.sizeLine = 16777216 := PySem.sizeLine_eq
  have r1 := hr.mono (show 1 ≤ 6 by decide)
  have r3 := hr.mono (show 3 ≤ 6 by decide)
  have r5 := hr.mono (show 5 ≤ 6 by decide)
  refine ⟨_, pss_mid (ps_par (i := 3) (j := 4) (by rfl) scLaw.nd rfl rfl (by decide) rfl rfl (pa_cons (pe_op op_add pe_int (pe_call Dr.ok r1 rfl Dr.m Dr.k Dr.b .nil pass0 (pa_cons (pv 1) (pa_cons pe_int pa_nil)))) (pa_cons (pe_lc (own := [("_law_k", 10)]) (g := gName 10) (tt := tYes) rfl scLaw.nd (pi_range1 rfl T.range (pa_cons (pe_op op_add pe_int (pe_call Dr.ok r1 rfl Dr.m Dr.k Dr.b .nil pass0 (pa_cons (pv 1) (pa_cons pe_int pa_nil)))) pa_nil)) (blkOk_by (N := nLaw) (sc := defScope sLaw) (by decide +kernel)) (fun _ _ _ _ _ => pg_name (i := 10) scLaw.nd rfl (Or.inl rfl)) (fun _ _ _ _ _ => pts_nil) (fun _ _ _ _ _ => pe_call Wo.ok r3 rfl Wo.m Wo.k Wo.b .nil pass0 (pa_cons (pv 1) pa_nil))) pa_nil)) (by rfl))
    (pss_mid (ps_set (i := 5) scLaw.nd rfl (Or.inl rfl) (pe_makeK Mp Gp hr rfl Z.mP kb pass0 (pa_cons pe_str pa_nil) (pk_cons (pv 3) (pk_cons (pe_ix ix_list (pv 4) pe_int (fun _ _ => rfl)) (pk_cons (pe_ix ix_list (pv 4) pe_int (fun _ _ => rfl)) (pk_cons pe_bl pk_nil))))))
    (pss_mid (ps_for PassesOwn.never rfl (pi_list (pe_slice sl_list (pv 4) (po_some pe_int) po_none)) (pg_name (i := 6) scLaw.nd rfl (Or.inl rfl)) (pss_one (ps_expr (pe_meth (pv 5) cP.cl Ma Ga r5 Ba .nil pass0 (pa_cons pe_str (pa_cons (pv 6) pa_nil))))))
    (pss_mid (ps_set (i := 7) scLaw.nd rfl (Or.inl rfl) (pe_bm PySem.F.plainAttrs_str PySem.F.slot_str_split PySem.F.type_str_split mt_split (pe_meth0 (pv 5) cP.cl Mf Gf hr Bf .nil pass0) (pa_cons pe_str pa_nil)))
    (pss_mid (ps_if (PW.pt (pw_or (pt_cmpR op_ne (pe_callB call_len_seq (by rfl) T.len PySem.boot_len (pa_cons (pv 7) pa_nil)) (pe_op op_add (pe_callB call_len_seq (by rfl) T.len PySem.boot_len (pa_cons (pv 4) pa_nil)) pe_int) (nomark _)) (pw_or1 (pt_cmpR op_ne (pe_slice sl_str (pe_ix ix_list (pv 7) (pe_un un_neg pe_int) (fun _ _ => rfl)) (po_some (pe_un un_neg pe_int)) po_none) pe_str (nomark _))))) pss_never pss_nil)
    (pss_mid (ps_if (pt_not (pt_val (pe_call Lr.ok r1 rfl Lr.m Lr.k Lr.b .nil pass0 (pa_cons (pe_bm PySem.F.plainAttrs_str PySem.F.slot_str_split PySem.F.type_str_split mt_split (pe_ix ix_list (pv 7) pe_int (fun _ _ => rfl)) (pa_cons pe_str pa_nil)) (pa_cons (pe_ix ix_list (pv 4) pe_int (fun _ _ => rfl)) (pa_cons (pe_callB (call_max2 rfl) (by rfl) zMax (by decide +kernel) (pa_cons (pv 3) (pa_cons pe_int pa_nil))) pa_nil)))))) pss_never pss_nil)
    (pss_mid (ps_if (pt_not (pt_val (pe_call Lr.ok r1 rfl Lr.m Lr.k Lr.b .nil pass0 (pa_cons (pe_bm PySem.F.plainAttrs_str PySem.F.slot_str_split PySem.F.type_str_split mt_split (pe_slice sl_str (pe_ix ix_list (pv 7) (pe_un un_neg pe_int) (fun _ _ => rfl)) po_none (po_some (pe_un un_neg pe_int))) (pa_cons pe_str pa_nil)) (pa_cons (pe_ix ix_list (pv 4) pe_int (fun _ _ => rfl)) (pa_cons (pe_callB (call_max2 rfl) (by rfl) zMax (by decide +kernel) (pa_cons (pv 3) (pa_cons pe_int pa_nil))) pa_nil)))))) pss_never pss_nil)
    (pss_one (ps_for PassesOwn.never rfl (RZ.pi_zipA (by rfl) T.zip (pa_cons (pe_slice sl_list (pv 7) (po_some pe_int) (po_some (pe_un un_neg pe_int))) (pa_cons (pe_slice sl_list (pv 4) (po_some pe_int) po_none) pa_nil))) (pg_tup rfl (pgs_cons (pg_name (i := 8) scLaw.nd rfl (Or.inl rfl)) (pgs_cons (pg_name (i := 6) scLaw.nd rfl (Or.inl rfl)) pgs_nil)))
      (pss_mid (ps_set (i := 9) scLaw.nd rfl (Or.inl rfl) (pe_bm PySem.F.plainAttrs_str PySem.F.slot_str_split PySem.F.type_str_split mt_split (pv 8) (pa_cons pe_str pa_nil)))
      (pss_mid (ps_if (PW.pt (pw_or (pt_cmpR op_ne (pe_ix ix_list (pv 9) pe_int (fun _ _ => rfl)) pe_str (nomark _)) (pw_or1 (pt_val (pe_callB (cr_any rfl) (by rfl) zAny (by decide +kernel) (pa_cons (pe_lc (own := [("_law_row", 11)]) (g := gName 11) (tt := tYes) (te := tOp _ (tSl _ (tVar 11) tNoPart (tPart (tC (.int 2)))) (tC (.str "  "))) rfl scLaw.nd (pi_list (pe_slice sl_list (pv 9) (po_some pe_int) po_none)) (blkOk_by (N := nLaw) (sc := defScope sLaw) (by decide +kernel)) (fun _ _ _ _ _ => pg_name (i := 11) scLaw.nd rfl (Or.inl rfl)) (fun _ _ _ _ _ => pts_nil) (fun _ _ _ _ _ => by exact pe_cmpR op_ne (pe_slice sl_str (pv 11) po_none (po_some pe_int)) pe_str (nomark _))) pa_nil)))))) pss_never pss_nil)
      (pss_one (ps_if (pt_not (pt_val (pe_call Lr.ok r1 rfl Lr.m Lr.k Lr.b .nil pass0 (pa_cons (pe_lc (own := [("_law_row", 11)]) (g := gName 11) (tt := tYes) (te := tSl _ (tVar 11) (tPart (tC (.int 2))) tNoPart) rfl scLaw.nd (pi_list (pe_slice sl_list (pv 9) (po_some pe_int) po_none)) (blkOk_by (N := nLaw) (sc := defScope sLaw) (by decide +kernel)) (fun _ _ _ _ _ => pg_name (i := 11) scLaw.nd rfl (Or.inl rfl)) (fun _ _ _ _ _ => pts_nil) (fun _ _ _ _ _ => by exact pe_slice sl_str (pv 11) (po_some pe_int) po_none)) (pa_cons (pv 6) (pa_cons (pe_op op_sub (pe_callB (call_max2 rfl) (by rfl) zMax (by decide +kernel) (pa_cons (pe_op op_sub (pv 3) pe_int) (pa_cons pe_int pa_nil))) pe_int) pa_nil)))))) pss_never pss_nil)))))))))))), ?_⟩
  intro D H sc q2 q3 q4 q5 q6 q7 q8 q9 st cl n S hn k
  -- texts
  refine ⟨fun σ' H' => ∃ (wd : Nat) (L : Addr) (De Ep : Str) (ts : List Str) (n1 : Nat), σ' = [sc, some (.ref st), q2, some (.int (wd : Int)), some (.ref L), q5, q6, q7, q8, q9, none, none] ∧ 1 ≤ wd ∧ wd ≤ 60 ∧ Tx De ∧ Tx Ep ∧ (∀ t ∈ ts, Tx t) ∧ ts.length ≤ 3 ∧ H' L = some (.lst ((De :: Ep :: ts).map V.str)) ∧ Strm H' st cl n1 ∧ n1 ≤ n + 380, ?_, ?_⟩
  · refine ⟨_, rfl, st, cl, n, 60, rfl, S, by decide, by decide, by omega, fun j H1 j0 j1 S1 k1 => ⟨_, _, rfl, rfl, ?_⟩⟩
    refine ⟨_, rfl, st, cl, n + 1, 4, rfl, S1, by decide, by decide, by omega, fun i H2 i0 i1 S2 k2 => ⟨_, _, rfl, rfl, _, rfl, by omega, by omega, fun L hL => ?_⟩⟩
    have nL := S2.fr hL
    refine lc_range (lo := 0) (n := (2 + i).toNat) (fun m H' => ∃ (ts : List Str) (n' : Nat), Strm H' st cl n' ∧ n' ≤ n + 2 + 70 * m ∧ H' L = some (.lst (ts.map V.str)) ∧ ts.length = m ∧ ∀ t ∈ ts, Tx t) ⟨[], n + 1 + 1, S2.keep (same_upd hL), by omega, upd_same, rfl, fun t z => nomatch z⟩ (fun m H' hm h => ?_) (fun H' h => ?_)
    · obtain ⟨ts, n', Si, hn', hLi, hl, hts⟩ := h
      refine ⟨rfl, _, rfl, st, cl, n', rfl, Si, by omega, fun t n2 H3 ht S3 hn2 k3 => ?_⟩
      refine ⟨_, k3 _ _ hLi nL.1 nL.2, (by rw [List.length_map]; omega), ts ++ [t], n2, ?_, by omega, ?_, by rw [List.length_append, hl]; rfl, fun x hx => ?_⟩
      · obtain ⟨c, b, ns, g1, g2, g3⟩ := S3.ex
        exact ⟨c, b, ns, by rw [upd_ne nL.1.symm]; exact g1, by rw [upd_ne nL.2.symm]; exact g2, g3⟩
      · rw [upd_same, List.map_append]
        rfl
      · rcases List.mem_append.mp hx with hx | hx
        · exact hts x hx
        · rw [List.mem_singleton.mp hx]
          exact ht
    · obtain ⟨ts, n', Si, hn', hLi, hl, hts⟩ := h
      match ts, hl, hLi, hts with
      | [], hl, _, _ =>
        have hl : 0 = (2 + i).toNat := hl
        omega
      | [_], hl, _, _ =>
        have hl : 1 = (2 + i).toNat := hl
        omega
      | De :: Ep :: ts, hl, hLi, hts =>
        have hl : ts.length + 1 + 1 = (2 + i).toNat := hl
        obtain ⟨wd, hwd⟩ : ∃ wd : Nat, 1 + j = (wd : Int) := ⟨(1 + j).toNat, by omega⟩
        exact ⟨_, _, rfl, wd, L, De, Ep, ts, n', by rw [← hwd]; rfl, by omega, by omega, hts _ List.mem_cons_self, hts _ (List.mem_cons_of_mem _ List.mem_cons_self), fun t ht => hts t (List.mem_cons_of_mem _ (List.mem_cons_of_mem _ ht)), by omega, hLi, Si, by omega⟩
  rintro _ H1 ⟨wd, L, De, Ep, ts, n1, rfl, hw1, hw2, hDe, hEp, hts, h3, hL, S1, hn1⟩
  -- the parser
  refine ⟨fun σ' H' => ∃ (p la le ls : Addr), σ' = [sc, some (.ref st), q2, some (.int (wd : Int)), some (.ref L), some (.ref p), q6, q7, q8, q9, none, none] ∧ PHas CP CS H' p "p" (.str De) (.str Ep) (wd : Int) aL la le ls [none, none] ∧ H1 ls = none ∧ Same H1 H', ?_, ?_⟩
  · refine ⟨_, rfl, _, rfl, L, _, 0, _, rfl, rfl, SqL.of hL, atI_nat (j := 0) rfl, _, rfl, L, _, 1, _, rfl, rfl, SqL.of hL, atI_nat (j := 1) rfl, rfl, rfl, fun x dx hx hdx ne => ?_⟩
    rw [hg]
    refine ⟨x, dx, "p", "-", "error", .non, .str De, .str Ep, wd, true, true, (by omega), sg_min, (by decide), rfl, upd_same, .inl rfl, fun la lf le dd ls s0 s1 m0 m1 H' N => ⟨rfl, ?_⟩⟩
    obtain ⟨a1, a2, a3⟩ := par_has (same_upd2 (same_upd hdx) (by rw [upd_ne ne.symm]; exact hx)) hx N
    exact ⟨x, la, le, ls, rfl, a1, a2, a3⟩
  rintro _ H2 ⟨p, la, le, ls, rfl, PH, hls0, e2⟩
  have hL2 := e2 _ _ hL
  -- groups
  refine ⟨fun σ' H' => ∃ q6, σ' = [sc, some (.ref st), q2, some (.int (wd : Int)), some (.ref L), some (.ref p), q6, q7, q8, q9, none, none] ∧ PHas CP CS H' p "p" (.str De) (.str Ep) (wd : Int) aL la le ls (none :: none :: ts.map some) ∧ Same H1 H', ?_, ?_⟩
  · refine ⟨_, rfl, 2, rfl, L, _, rfl, SqL.of hL2, fun Y hY => ?_⟩
    have hcut : cutV ((De :: Ep :: ts).map V.str) (some 2) none = ts.map V.str := cut_list_from _ 2
    rw [hcut]
    have eY := same_upd (o := .lst (ts.map V.str)) hY
    have hYg : (upd H2 Y (.lst (ts.map V.str))) Y = some (.lst (ts.map V.str)) := upd_same
    generalize upd H2 Y (.lst (ts.map V.str)) = G at eY hYg
    have PG := PH.keep eY
    have hlY : Y ≠ ls := by
      obtain ⟨vs', h1, _⟩ := PH.ls
      exact (ne_of_none h1 hY).symm
    refine ⟨Y, rfl, ⟨_, SqL.of hYg⟩, ?_⟩
    refine for_list (K := K) (a := Y) (xs := ts.map V.str) (fun i σ' H' => ∃ q6, σ' = [sc, some (.ref st), q2, some (.int (wd : Int)), some (.ref L), some (.ref p), q6, q7, q8, q9, none, none] ∧ PHas CP CS H' p "p" (.str De) (.str Ep) (wd : Int) aL la le ls (none :: none :: (ts.take i).map some) ∧ Kb ls G H') ⟨q6, rfl, PG, Kb.refl _ _⟩ ?_ ?_ ?_
    · rintro i σ' H' _ ⟨_, _, _, kb'⟩
      exact SqL.of (kb' _ _ hYg hlY)
    · rintro i x σ' H' hx ⟨q6, rfl, Pi, kb'⟩
      obtain ⟨t, ht, rfl⟩ := str_at hx
      have hi : i < ts.length := (List.getElem?_eq_some_iff.mp ht).1
      obtain ⟨vs', v1, v2, v3⟩ := Pi.ls
      have vl := PySem.Paired.length v3
      have vl2 : vs'.length ≤ 100 := by
        rw [vl, List.length_cons, List.length_cons, List.length_map, List.length_take]
        omega
      obtain ⟨dx, pf, cf, ab, ee, fi, lf, dd, hP⟩ := Pi.t.ex
      have hos : (none :: none :: (ts.take (i + 1)).map some : List (Option Str)) = (none :: none :: (ts.take i).map some) ++ [some t] := by
        rw [take_more' ht, List.map_append]
        rfl
      exact ⟨_, rfl, p, dx, _, rfl, hP, rfl, _, rfl, p, aL, la, le, ls, "p", t, .non, .str De, .str Ep, wd, vs', rfl, Pi.t, v1, vl2, fun g' H'' kb2 h1 hS => ⟨_, rfl, by rw [hos]; exact Pi.kb v1 kb2 h1 hS, kb'.trans kb2⟩⟩
    · rintro σ' H' ⟨q6, rfl, Pi, kb'⟩
      rw [List.length_map, List.take_length] at Pi
      refine ⟨q6, rfl, Pi, fun b o hb => kb' _ _ (eY _ _ (e2 _ _ hb)) (ne_of_none hb hls0)⟩
  rintro _ H3 ⟨r6, rfl, PH3, e3⟩
  have hL3 := e3 _ _ hL
  -- the help
  refine ⟨fun σ' H' => ∃ Y, σ' = [sc, some (.ref st), q2, some (.int (wd : Int)), some (.ref L), some (.ref p), r6, some (.ref Y), q8, q9, none, none] ∧ H' Y = some (.lst ((foundL wd De Ep ts).map V.str)) ∧ Same H1 H', ?_, ?_⟩
  · obtain ⟨m, y, s1, s2, s3⟩ := help_law (wd := (wd : Int)) (by omega) hDe hEp hts h3
    obtain ⟨vs', v1, v2, v3⟩ := PH3.ls
    obtain ⟨dx, pf, cf, ab, ee, fi, lf, dd, hP⟩ := PH3.t.ex
    have sh : ∀ {t : Str}, Tx t → short (some t) := fun {t} h x e => by
      cases e
      have := h.len
      omega
    have shn : short none := fun x e => nomatch e
    have sht : ∀ o ∈ (none :: none :: ts.map some : List (Option Str)), short o := fun o ho => by
      rcases List.mem_cons.mp ho with rfl | ho
      · exact shn
      · rcases List.mem_cons.mp ho with rfl | ho
        · exact shn
        · obtain ⟨t, ht, rfl⟩ := List.mem_map.mp ho
          exact sh (hts t ht)
    have hsl := strip_len y "\n"
    have hn1 : ("\n" : Str).length = 1 := rfl
    refine ⟨_, rfl, p, dx, _, rfl, hP, rfl, p, aL, la, le, ls, "p", y, some De, some Ep, wd, m, vs', none :: none :: ts.map some, rfl, PH3.t, PH3.la, PH3.le, v1, v3, (by simp; omega), hw1, (by omega), (by decide), sh hDe, sh hEp, sht, Z.hL, s1, fun H' e => ⟨rfl, _, _, rfl, rfl, (by decide), (by rw [Str.length_append, hn1]; omega), fun Y hY => ?_⟩⟩
    rw [s3]
    exact ⟨Y, rfl, upd_same, e3.trans (e.trans (same_upd hY))⟩
  rintro _ H4 ⟨Y, rfl, hY, e4⟩
  have hL4 := e4 _ _ hL
  have rD := (rows_rr (wd := (wd : Int)) hDe (.inl rfl)).ok
  have rE := (rows_rr (wd := (wd : Int)) hEp (.inl rfl)).ok
  have rT : ∀ t ∈ ts, RowsOk (rowsF t "p" wd 2) t (sizeOf wd 2) := fun t ht => (rows_rr (wd := (wd : Int)) (hts t ht) (.inr rfl)).ok
  have z0 := size_le (wd := (wd : Int)) (ind := 0) (by omega) (.inl rfl)
  have z2 := size_le (wd := (wd : Int)) (ind := 2) (by omega) (.inr rfl)
  have lD := join_le rD (by omega)
  have lE := join_le rE (by omega)
  have hfl : ((foundL wd De Ep ts).map V.str) = (V.str "usage: p" :: V.str (Str.join "\n" (rowsF De "p" wd 0)) :: ((ts.map fun t => Str.join "\n" (grp (rowsF t "p" wd 2))).map V.str)) ++ [V.str (Str.join "\n" (rowsF Ep "p" wd 0) ++ "\n")] := by
    unfold foundL
    simp
  have hat : atI ((foundL wd De Ep ts).map V.str) (-1) = some (V.str (Str.join "\n" (rowsF Ep "p" wd 0) ++ "\n")) := by
    rw [hfl]
    exact atI_last _ _
  have hlen : (((foundL wd De Ep ts).map V.str).length : Int) = ((De :: Ep :: ts).map V.str).length + 1 := by
    rw [List.length_map, found_len]
    simp
    omega
  have hn1 : ("\n" : Str).length = 1 := rfl
  have lE1 : (Str.join "\n" (rowsF Ep "p" wd 0) ++ "\n").length ≤ 4001 := by
    rw [Str.length_append, hn1]
    omega
  -- parts
  refine ⟨fun σ' H' => σ' = [sc, some (.ref st), q2, some (.int (wd : Int)), some (.ref L), some (.ref p), r6, some (.ref Y), q8, q9, none, none] ∧ H4 = H', ?_, ?_⟩
  · refine ⟨_, rfl, Y, _, rfl, .inl (SqL.of hY), _, rfl, L, _, rfl, .inl (SqL.of hL4), _, _, rfl, rfl, rfl, _, rfl, ite2 (fun hc => ?_) (fun _ => ?_)⟩
    · rw [decide_eq_true (congrArg V.int hlen)] at hc
      cases hc
    refine ⟨_, rfl, 1, rfl, Y, _, -1, _, rfl, rfl, SqL.of hY, hat, 1, rfl, _, rfl, _, rfl, (by omega), rfl, _, rfl, ite2 (fun hc => ?_) (fun _ => ⟨rfl, rfl⟩)⟩
    rw [cutS_last, decide_eq_true rfl] at hc
    cases hc
  rintro _ _ ⟨rfl, rfl⟩
  -- the description
  refine ⟨fun σ' H' => σ' = [sc, some (.ref st), q2, some (.int (wd : Int)), some (.ref L), some (.ref p), r6, some (.ref Y), q8, q9, none, none] ∧ Same H4 H', ?_, ?_⟩
  · refine ⟨_, rfl, Y, _, 1, _, rfl, rfl, SqL.of hY, atI_nat (j := 1) rfl, rfl, _, _, rfl, rfl, (by decide), (by omega), fun R hR => ?_⟩
    rw [split_blk rD.blk]
    have eR := same_upd (o := .lst ((rowsF De "p" wd 0).map V.str)) hR
    have hRg : (upd H4 R (.lst ((rowsF De "p" wd 0).map V.str))) R = some (.lst ((rowsF De "p" wd 0).map V.str)) := upd_same
    generalize upd H4 R (.lst ((rowsF De "p" wd 0).map V.str)) = G at eR hRg
    have lt := hDe.len
    exact ⟨_, rfl, L, _, 0, _, rfl, rfl, SqL.of (eR _ _ hL4), atI_nat (j := 0) rfl, _, rfl, _, _, rfl, R, De, sizeOf wd 0, rowsF De "p" wd 0, congrArg (fun i => [V.ref R, V.str De, V.int i]) size0, hRg, rD, (by omega), (by omega), hDe.strOk, fun H' e => ⟨true, rfl, iteF ⟨rfl, eR.trans e⟩⟩⟩
  rintro _ H5 ⟨rfl, e5⟩
  have hL5 := e5 _ _ hL4
  have hY5 := e5 _ _ hY
  -- the epilog
  refine ⟨fun σ' H' => σ' = [sc, some (.ref st), q2, some (.int (wd : Int)), some (.ref L), some (.ref p), r6, some (.ref Y), q8, q9, none, none] ∧ Same H5 H', ?_, ?_⟩
  · refine ⟨_, rfl, 1, rfl, Y, _, -1, _, rfl, rfl, SqL.of hY5, hat, 1, rfl, _, rfl, _, rfl, (by omega), rfl, _, _, rfl, rfl, (by decide), (by rw [cutS_init]; omega), fun R hR => ?_⟩
    rw [cutS_init, split_blk rE.blk]
    have eR := same_upd (o := .lst ((rowsF Ep "p" wd 0).map V.str)) hR
    have hRg : (upd H5 R (.lst ((rowsF Ep "p" wd 0).map V.str))) R = some (.lst ((rowsF Ep "p" wd 0).map V.str)) := upd_same
    generalize upd H5 R (.lst ((rowsF Ep "p" wd 0).map V.str)) = G at eR hRg
    have lt := hEp.len
    exact ⟨_, rfl, L, _, 1, _, rfl, rfl, SqL.of (eR _ _ hL5), atI_nat (j := 1) rfl, _, rfl, _, _, rfl, R, Ep, sizeOf wd 0, rowsF Ep "p" wd 0, congrArg (fun i => [V.ref R, V.str Ep, V.int i]) size0, hRg, rE, (by omega), (by omega), hEp.strOk, fun H' e => ⟨true, rfl, iteF ⟨rfl, eR.trans e⟩⟩⟩
  rintro _ H6 ⟨rfl, e6⟩
  have hL6 := e6 _ _ hL5
  have hY6 := e6 _ _ hY5
  -- groups
  refine ⟨_, rfl, 2, rfl, 1, rfl, _, rfl, Y, _, rfl, SqL.of hY6, fun B hB => ?_⟩
  have hcB : cutV ((foundL wd De Ep ts).map V.str) (some 2) (some (-1)) = (ts.map fun t => Str.join "\n" (grp (rowsF t "p" wd 2))).map V.str := by
    rw [hfl]
    exact cut_inner _ _ _ _
  have hcB' : cutV ((foundL wd De Ep ts).map V.str) (some 2) (some (-1 : Int)) = (ts.map fun t => Str.join "\n" (grp (rowsF t "p" wd 2))).map V.str := hcB
  rw [hcB']
  have eB := same_upd (o := .lst ((ts.map fun t => Str.join "\n" (grp (rowsF t "p" wd 2))).map V.str)) hB
  have hBg : (upd H6 B (.lst ((ts.map fun t => Str.join "\n" (grp (rowsF t "p" wd 2))).map V.str))) B = some (.lst ((ts.map fun t => Str.join "\n" (grp (rowsF t "p" wd 2))).map V.str)) := upd_same
  generalize upd H6 B (.lst ((ts.map fun t => Str.join "\n" (grp (rowsF t "p" wd 2))).map V.str)) = G1 at eB hBg
  refine ⟨_, rfl, 2, rfl, L, _, rfl, SqL.of (eB _ _ hL6), fun C hC => ?_⟩
  have hcC : cutV ((De :: Ep :: ts).map V.str) (some 2) none = ts.map V.str := cut_list_from _ 2
  rw [hcC]
  have eC := same_upd (o := .lst (ts.map V.str)) hC
  have hCg : (upd G1 C (.lst (ts.map V.str))) C = some (.lst (ts.map V.str)) := upd_same
  have hBg2 := eC _ _ hBg
  generalize upd G1 C (.lst (ts.map V.str)) = G at eC hCg hBg2
  have eG : Same H1 G := e4.trans (e5.trans (e6.trans (eB.trans eC)))
  refine ⟨B, C, _, _, rfl, .inl ⟨SqL.of hBg2, SqL.of hCg, ?_⟩⟩
  refine for_it (walk_zip (K := K) (a := B) (b := C) (xs := (ts.map fun t => Str.join "\n" (grp (rowsF t "p" wd 2))).map V.str) (ys := ts.map V.str) (n := ts.length) (by simp)) (fun i σ' H' => ∃ r6 r8 r9, σ' = [sc, some (.ref st), q2, some (.int (wd : Int)), some (.ref L), some (.ref p), r6, some (.ref Y), r8, r9, none, none] ∧ Same G H') ⟨_, _, _, rfl, Same.refl _⟩ ?_ ?_ ?_
  · rintro i σ' H' _ ⟨_, _, _, _, e⟩
    exact ⟨SqL.of (e _ _ hBg2), SqL.of (e _ _ hCg)⟩
  · rintro i v σ' H' H'' hi ⟨r6, r8, r9, rfl, e⟩ yp
    obtain ⟨TT, x, y, rfl, hTT, rfl, hx, hy⟩ := yp
    have eT := same_upd (o := .tup [x, y]) hTT
    have hgT : (upd H' TT (.tup [x, y])) TT = some (.tup [x, y]) := upd_same
    generalize upd H' TT (.tup [x, y]) = GT at eT hgT
    obtain ⟨b, hb, rfl⟩ := str_at hx
    obtain ⟨t, ht, rfl⟩ := str_at hy
    rw [List.getElem?_map, ht] at hb
    have hb : Str.join "\n" (grp (rowsF t "p" wd 2)) = b := Option.some.inj hb
    subst hb
    have htm := List.mem_of_getElem? ht
    have hTx := hts t htm
    have rt := rT t htm
    have lg := grp_le rt (by omega)
    have lt := hTx.len
    have n30 := rt.n30
    have gb := grp_blk rt
    have hcR : cutV ((grp (rowsF t "p" wd 2)).map V.str) (some 1) none = ((rowsF t "p" wd 2).map fun r : Str => ("  " : Str) ++ r).map V.str := cut_list_from _ 1
    have l2 : ∀ {r : Str}, r ∈ rowsF t "p" wd 2 → (("  " : Str) ++ r).length ≤ 1000 := fun {r} hr => by
      have := (rt.row r hr).2.1
      have h2 : ("  " : Str).length = 2 := rfl
      rw [Str.length_append, h2]
      omega
    generalize rowsF t "p" wd 2 = rows at rt lg gb hcR l2 n30 hgT
    refine ⟨TT, _, rfl, SqT.of hgT, rfl, _, _, rfl, _, _, rfl, rfl, ?_⟩
    -- rows
    refine ⟨fun σ' H' => ∃ R, σ' = [sc, some (.ref st), q2, some (.int (wd : Int)), some (.ref L), some (.ref p), some (.str t), some (.ref Y), some (.str (Str.join "\n" (grp rows))), some (.ref R), none, none] ∧ H' R = some (.lst ((grp rows).map V.str)) ∧ Same GT H', ?_, ?_⟩
    · refine ⟨_, rfl, rfl, _, _, rfl, rfl, (by decide), (by omega), fun R hR => ?_⟩
      rw [split_blk gb]
      exact ⟨R, rfl, upd_same, same_upd hR⟩
    rintro _ HR ⟨R, rfl, hR, eR⟩
    -- the head
    refine ⟨fun σ' H' => σ' = [sc, some (.ref st), q2, some (.int (wd : Int)), some (.ref L), some (.ref p), some (.str t), some (.ref Y), some (.str (Str.join "\n" (grp rows))), some (.ref R), none, none] ∧ Same HR H', ?_, ?_⟩
    · refine ⟨_, rfl, R, _, 0, _, rfl, rfl, SqL.of hR, atI_nat (j := 0) rfl, rfl, _, rfl, ite2 (fun hc => ?_) (fun _ => ?_)⟩
      · rw [decide_eq_true rfl] at hc
        cases hc
      refine ⟨_, rfl, 1, rfl, R, _, rfl, SqL.of hR, fun Z hZ => ?_⟩
      rw [hcR]
      have eZ := same_upd (o := .lst ((rows.map fun r : Str => ("  " : Str) ++ r).map V.str)) hZ
      have hZg : (upd HR Z (.lst ((rows.map fun r : Str => ("  " : Str) ++ r).map V.str))) Z = some (.lst ((rows.map fun r : Str => ("  " : Str) ++ r).map V.str)) := upd_same
      generalize upd HR Z (.lst ((rows.map fun r : Str => ("  " : Str) ++ r).map V.str)) = GZ at eZ hZg
      refine ⟨Z, rfl, ⟨_, SqL.of hZg⟩, fun Dl hD => ?_⟩
      refine lc_list (K := K) (a := Z) (xs := (rows.map fun r : Str => ("  " : Str) ++ r).map V.str) (BlI (fun _ : Str => false) GZ Dl rows) (blI0 hD) (fun i H' _ h => SqL.of (h.1 _ _ hZg)) (fun i x H' hx h => ?_) (fun H' h => ?_)
      · obtain ⟨b, hb, rfl⟩ := str_at hx
        rw [List.getElem?_map] at hb
        obtain ⟨r, hr, rfl⟩ := Option.map_eq_some_iff.mp hb
        have := l2 (List.mem_of_getElem? hr)
        exact ⟨rfl, _, rfl, 2, rfl, _, rfl, (by omega), rfl, blI_step hD hr h (Same.refl _) (by rw [cutS_two, decide_eq_true rfl]; rfl) (by omega)⟩
      · obtain ⟨e', hl⟩ := blI_end (by rw [List.length_map, List.length_map]) h
        exact ⟨Dl, _, rfl, SqL.of hl, false, congrArg V.bl (any_f rows), iteF ⟨rfl, eZ.trans e'⟩⟩
    rintro _ HS ⟨rfl, eS⟩
    have hR2 := eS _ _ hR
    -- the lines
    refine ⟨_, rfl, 1, rfl, R, _, rfl, SqL.of hR2, fun Z hZ => ?_⟩
    rw [hcR]
    have eZ := same_upd (o := .lst ((rows.map fun r : Str => ("  " : Str) ++ r).map V.str)) hZ
    have hZg : (upd HS Z (.lst ((rows.map fun r : Str => ("  " : Str) ++ r).map V.str))) Z = some (.lst ((rows.map fun r : Str => ("  " : Str) ++ r).map V.str)) := upd_same
    generalize upd HS Z (.lst ((rows.map fun r : Str => ("  " : Str) ++ r).map V.str)) = GZ at eZ hZg
    refine ⟨Z, rfl, ⟨_, SqL.of hZg⟩, fun Dl hD => ?_⟩
    refine lc_list (K := K) (a := Z) (xs := (rows.map fun r : Str => ("  " : Str) ++ r).map V.str) (fun i H' => Same GZ H' ∧ H' Dl = some (.lst ((rows.take i).map V.str))) ⟨same_upd hD, upd_same⟩ (fun i H' _ h => SqL.of (h.1 _ _ hZg)) (fun i x H' hx h => ?_) (fun H' h => ?_)
    · obtain ⟨b, hb, rfl⟩ := str_at hx
      rw [List.getElem?_map] at hb
      obtain ⟨r, hr, rfl⟩ := Option.map_eq_some_iff.mp hb
      have := l2 (List.mem_of_getElem? hr)
      obtain ⟨g1, g2⟩ := h
      refine ⟨rfl, _, rfl, 2, rfl, _, rfl, (by omega), _, g2, (by rw [List.length_map, List.length_take]; omega), same_mut g1 hD, ?_⟩
      rw [upd_same, take_more' hr, List.map_append, cutS_rest]
      rfl
    · obtain ⟨g1, g2⟩ := h
      rw [List.length_map, List.length_map, List.take_length] at g2
      exact ⟨_, rfl, _, rfl, _, _, rfl, rfl, _, _, rfl, _, _, rfl, rfl, Dl, t, sizeOf wd 2, rows, congrArg (fun i => [V.ref Dl, V.str t, V.int i]) size2, g2, rt, (by omega), (by omega), hTx.strOk, fun H8 e8 => ⟨true, rfl, iteF ⟨_, _, _, rfl, e.trans (eT.trans (eR.trans (eS.trans (eZ.trans (g1.trans e8)))))⟩⟩⟩
  · rintro σ' H' ⟨r6, r8, r9, rfl, e⟩
    exact k _ _ _ _ _ _ _ H' n1 (S1.keep (eG.trans e)) (by omega)
end
end K45

namespace K45
open PySem L2 PyProof PyProof.Rows
def spLaw (K : PySem.W.Frag) : Sp := fun vs H Q _ => ∃ (a : Addr) (ns : List Int), vs = [.ref a] ∧ SqL K H a (ns.map V.int) ∧ ∀ H', Q (.bl true) H'
section
variable {P : Program} {w : World} {K : PySem.W.Frag} {mg : Str → Option Value} {base : Heap}
theorem ok_law {f CP CS aP aL : Addr} {fd : FuncData} (F : Fun K "law" "law" sLaw f fd) (Z : Fns P w K mg base CP CS aP aL) : FnOk P w K mg base CX0 7 f fd ["_law_script"] (spLaw K) := by
  refine F.ok scLaw (fun vs H Q E h => ?_) (fun cdv A0 outer s H vs Q E hr h => ?_)
  · obtain ⟨a, ns, rfl, _⟩ := h
    rfl
  · obtain ⟨a, ns, rfl, hS, k⟩ := h
    have r1 := hr.mono (show 1 ≤ 6 by decide)
    obtain ⟨_, _, S⟩ := Z.St
    obtain ⟨_, _, Mp, Gp, _, g, gV, kb, hg⟩ := Z.Mp
    obtain ⟨_, _, Gf, Mf, Bf⟩ := Z.Fh
    have cP := Z.cP
    obtain ⟨tb, hb, rb⟩ := turn_walk (outer := outer) (H0 := H) (E := E) Z hr
    refine ⟨_, pss_mid (ps_set (i := 1) scLaw.nd rfl (Or.inr rfl) (pe_call S.ok r1 rfl S.m S.k S.b .nil pass0 (pa_cons (pv 0) pa_nil)))
      (pss_mid (ps_for PassesOwn.never rfl (pi_range1 rfl Z.T.range (pa_cons pe_int pa_nil)) (pg_name (i := 2) scLaw.nd rfl (Or.inl rfl)) hb)
      (pss_mid (ps_set (i := 5) scLaw.nd rfl (Or.inl rfl) (pe_makeK Mp Gp hr rfl Z.mP kb pass0 (pa_cons pe_str pa_nil) (pk_cons pe_str (pk_cons pe_bl pk_nil))))
      (pss_one (ps_ret (pe_cmpR op_eq (pe_meth0 (pv 5) cP.cl Mf Gf hr Bf .nil pass0) pe_str (nomark _)))))), ?_⟩
    refine ⟨fun σ' H' => ∃ st cl : Addr, σ' = [some (.ref a), some (.ref st), none, none, none, none, none, none, none, none, none, none] ∧ Strm H' st cl 0, ?_, ?_⟩
    · exact ⟨_, rfl, a, ns, rfl, hS, fun st cl H' n1 n2 e S' => ⟨st, cl, rfl, S'⟩⟩
    rintro _ H1 ⟨st, cl, rfl, S1⟩
    refine ⟨fun σ' H' => ∃ (r2 r3 r4 r5 r6 r7 r8 r9 : Option V), σ' = [some (.ref a), some (.ref st), r2, r3, r4, r5, r6, r7, r8, r9, none, none], ?_, ?_⟩
    · refine ⟨5, rfl, by decide, by decide, ?_⟩
      refine for_range (lo := 0) (n := 5) (fun i σ' H' => ∃ (r2 r3 r4 r5 r6 r7 r8 r9 : Option V) (n : Nat), σ' = [some (.ref a), some (.ref st), r2, r3, r4, r5, r6, r7, r8, r9, none, none] ∧ Strm H' st cl n ∧ n ≤ 400 * i) ⟨none, none, none, none, none, none, none, none, 0, rfl, S1, Nat.zero_le _⟩ ?_ (fun _ _ ⟨r2, r3, r4, r5, r6, r7, r8, r9, _, h, _⟩ => ⟨r2, r3, r4, r5, r6, r7, r8, r9, h⟩)
      rintro i σ' H' hi ⟨r2, r3, r4, r5, r6, r7, r8, r9, n, rfl, S', hn⟩
      exact rb _ H' _ _ r3 r4 r5 r6 r7 r8 r9 st cl n S' (by omega) fun r3 r4 r5 r6 r7 r8 r9 H2 n' S2 hn2 => ⟨_, r3, r4, r5, r6, r7, r8, r9, n', rfl, S2, by omega⟩
    rintro _ H2 ⟨r2, r3, r4, r5, r6, r7, r8, r9, rfl⟩
    -- two words
    refine ⟨fun σ' H' => ∃ (p la le ls : Addr), σ' = [some (.ref a), some (.ref st), r2, r3, r4, some (.ref p), r6, r7, r8, r9, none, none] ∧ PHas CP CS H' p "two words" (.str lastD) .non 78 aL la le ls [none, none], ?_, ?_⟩
    · refine ⟨rfl, rfl, fun x dx hx hdx ne => ?_⟩
      rw [hg]
      refine ⟨x, dx, "two words", "-", "error", .non, .str lastD, .non, 78, true, true, (by decide), sg_min, (by decide), rfl, upd_same, .inl rfl, fun la lf le dd ls s0 s1 m0 m1 H' N => ⟨rfl, ?_⟩⟩
      obtain ⟨a1, a2, a3⟩ := par_has (same_upd2 (same_upd hdx) (by rw [upd_ne ne.symm]; exact hx)) hx N
      exact ⟨x, la, le, ls, rfl, a1⟩
    rintro _ H3 ⟨p, la, le, ls, rfl, PH⟩
    obtain ⟨vs', v1, v2, v3⟩ := PH.ls
    obtain ⟨dx, pf, cf, ab, ee, fi, lf, dd, hP⟩ := PH.t.ex
    obtain ⟨m, y, s1, s2, s3⟩ := last_help
    refine ⟨_, rfl, p, dx, _, rfl, hP, rfl, p, aL, la, le, ls, "two words", y, some lastD, none, 78, m, vs', [none, none], rfl, PH.t, PH.la, PH.le, v1, v3, (by decide), (by decide), (by decide), (by decide +kernel), (fun x e => by cases e; decide +kernel), (fun x e => nomatch e), (fun o ho => ?_), Z.hL, s1, fun H' e => ⟨rfl, ?_⟩⟩
    · have : o = none := by
        simp at ho
        exact ho
      subst this
      exact fun x e => nomatch e
    · rw [s3]
      have gen : ∀ b : Bool, b = true → Q (.bl b) H' := fun b h => by
        rw [h]
        exact k _
      exact gen _ (decide_eq_true (congrArg V.str (by decide +kernel)))
end
end K45

namespace K45
open PySem PySem.Spec PyProof.Rows L2
/-! ### the head: facts by names, the run -/
/-- the keyword default x of the def at f, if it is an object -/
def kwAt (f : Str × Option Str) (x : Str) (K : PySem.W.Frag) : Addr := match K.lookup (He.fAd K f) with
  | some ⟨_, _, .func fd, _⟩ => (match fd.kwdefaults with
    | .ref D => (match PySem.W.nsIn K D x with
      | some (some (.ref a)) => a
      | _ => 0)
    | _ => 0)
  | _ => 0
def nilB (K : PySem.W.Frag) (a : Addr) : Bool := match K.lookup a with
  | some ⟨.type c, _, .seq its _, _⟩ => decide (c = "tuple") && its.isEmpty
  | _ => false
theorem nilB_ok {K : PySem.W.Frag} {a : Addr} (h : nilB K a = true) : (∀ H : Hp, SqT K H a []) ∧ ∀ H : Hp, TyX K H (.ref a) (.type "tuple") := by
  unfold nilB at h
  cases q : K.lookup a with
  | none =>
    rw [q] at h
    cases h
  | some o =>
    obtain ⟨oc, od, dt, osl⟩ := o
    rw [q] at h
    cases oc with
    | type c =>
      cases dt with
      | seq its n =>
        obtain ⟨h1, h2⟩ := Bool.and_eq_true_iff.mp (show (decide (c = "tuple") && its.isEmpty) = true from h)
        have e1 : c = "tuple" := of_decide_eq_true h1
        have e2 : its = #[] := Array.isEmpty_iff.mp h2
        subst e1 e2
        exact ⟨fun H => .inr ⟨_, #[], n, q, rfl, rfl, Nat.zero_le _, .nil⟩, fun H => .kTuple q rfl⟩
      | _ => cases h
    | _ => cases dt <;> cases h
def d_cop : He.DefD := ⟨("copied", none), "copied", "copied", defArgs sCop, defBody sCop, defScope sCop, [], []⟩
def d_isr : He.DefD := ⟨("is_row", none), "is_row", "is_row", defArgs sIsRow, defBody sIsRow, defScope sIsRow, [], []⟩
def d_isi : He.DefD := ⟨("is_integer", none), "is_integer", "is_integer", defArgs sIsInt, defBody sIsInt, defScope sIsInt, [], []⟩
def d_sig : He.DefD := ⟨("is_signs", none), "is_signs", "is_signs", defArgs sIsSigns, defBody sIsSigns, defScope sIsSigns, [], []⟩
def d_fil : He.DefD := ⟨("filled_in", none), "filled_in", "filled_in", defArgs sFilled, defBody sFilled, defScope sFilled, [], []⟩
def d_lai : He.DefD := ⟨("laid_out", none), "laid_out", "laid_out", defArgs sLaidOut, defBody sLaidOut, defScope sLaidOut, [], []⟩
def d_des : He.DefD := ⟨("described", none), "described", "described", defArgs sDescribed, defBody sDescribed, defScope sDescribed, [], []⟩
def d_squ : He.DefD := ⟨("squeezed", none), "squeezed", "squeezed", defArgs sSqueezed, defBody sSqueezed, defScope sSqueezed, [], []⟩
def d_tak : He.DefD := ⟨("taken", none), "taken", "taken", defArgs sTaken, defBody sTaken, defScope sTaken, [], []⟩
def d_usl : He.DefD := ⟨("usage_lines", none), "usage_lines", "usage_lines", defArgs sUsageLines, defBody sUsageLines, defScope sUsageLines, [], []⟩
def d_pao : He.DefD := ⟨("parts_of", none), "parts_of", "parts_of", defArgs sPartsOf, defBody sPartsOf, defScope sPartsOf, [], []⟩
def d_ust : He.DefD := ⟨("usage_text", none), "usage_text", "usage_text", defArgs sUsageText, defBody sUsageText, defScope sUsageText, [], []⟩
def d_ser : He.DefD := ⟨("section_rows", none), "section_rows", "section_rows", defArgs sSecRows, defBody sSecRows, defScope sSecRows, [], []⟩
def d_set : He.DefD := ⟨("section_text", none), "section_text", "section_text", defArgs sSecText, defBody sSecText, defScope sSecText, [], []⟩
def d_foh : He.DefD := ⟨("format_help_helping", none), "format_help", "format_help", defArgs sFormatHelp, defBody sFormatHelp, defScope sFormatHelp, [], []⟩
def d_drw : He.DefD := ⟨("_law_draw", none), "_law_draw", "_law_draw", defArgs sDraw, defBody sDraw, defScope sDraw, [], []⟩
def d_sta : He.DefD := ⟨("_law_start", none), "_law_start", "_law_start", defArgs sStart, defBody sStart, defScope sStart, [], []⟩
def d_pck : He.DefD := ⟨("_law_pick", none), "_law_pick", "_law_pick", defArgs sPick, defBody sPick, defScope sPick, [], []⟩
def d_wor : He.DefD := ⟨("_law_words", none), "_law_words", "_law_words", defArgs sLWords, defBody sLWords, defScope sLWords, [], []⟩
def d_lin : He.DefD := ⟨("_law_lines_right", none), "_law_lines_right", "_law_lines_right", defArgs sLines, defBody sLines, defScope sLines, [], []⟩
def d_law : He.DefD := ⟨("law", none), "law", "law", defArgs sLaw, defBody sLaw, defScope sLaw, [], []⟩
def d_secI : He.DefD := ⟨("Section", some "__init__"), "__init__", "Section.__init__", defArgs sSecI, defBody sSecI, defScope sSecI, [], []⟩
def d_pfh : He.DefD := ⟨("Parser", some "format_help"), "format_help", "Parser.format_help", defArgs sParFH, defBody sParFH, defScope sParFH, [], []⟩
def d_add : He.DefD := ⟨("Parser", some "add_argument_group"), "add_argument_group", "Parser.add_argument_group", defArgs sAddGroup, defBody sAddGroup, defScope sAddGroup, [.non, .non], []⟩
def d_parI : He.DefD := ⟨("Parser", some "__init__"), "__init__", "Parser.__init__", defArgs sParI, defBody sParI, defScope sParI, [.str "program"], [("usage", .non), ("description", .non), ("epilog", .non), ("parents", .adr (kwAt ("Parser", some "__init__") "parents")), ("layout", .adr (kwAt ("Parser", some "__init__") "layout")), ("width", .int 78), ("prefix_chars", .str "-"), ("fromfile_prefix_chars", .str ""), ("files", .non), ("argument_default", .non), ("conflict_handler", .str "error"), ("add_help", .bl true), ("allow_abbrev", .bl true), ("exit_on_error", .bl true)]⟩
def fn : List He.DefD := [d_cop, d_isr, d_isi, d_sig, d_fil, d_lai, d_des, d_squ, d_tak, d_usl, d_pao, d_ust, d_ser, d_set, d_foh, d_drw, d_sta, d_pck, d_wor, d_lin, d_law, d_secI, d_pfh, d_add, d_parI]
def fa : List He.Fa := [.free "int", .free "list", .free "tuple", .free "len", .free "isinstance", .free "dict", .free "sorted", .free "all", .free "zip", .free "range", .free "bool", .free "str", .free "any", .free "max", .free "min", .glo "copied", .glo "is_row", .glo "is_integer", .glo "is_signs", .glo "filled_in", .glo "laid_out", .glo "described", .glo "squeezed", .glo "taken", .glo "usage_lines", .glo "parts_of", .glo "usage_text", .glo "section_rows", .glo "section_text", .glo "format_help_helping", .glo "_law_draw", .glo "_law_start", .glo "_law_pick", .glo "_law_words", .glo "_law_lines_right", .glo "law", .glo "Section", .glo "Parser", .str "START" "usage: ", .str "NO_SIGNS" "abcdefghijklmnopqrstuvwxyzABCDEFGHIJKLMNOPQRSTUVWXYZ0123456789 \n=", .cls "Parser", .mkr "Parser", .noat "Parser" "prog", .noat "Parser" "usage", .noat "Parser" "description", .noat "Parser" "epilog", .noat "Parser" "layout", .noat "Parser" "width", .noat "Parser" "prefix_chars", .noat "Parser" "file_signs", .noat "Parser" "files", .noat "Parser" "argument_default", .noat "Parser" "conflict_handler", .noat "Parser" "allow_abbrev", .noat "Parser" "exit_on_error", .noat "Parser" "arguments", .noat "Parser" "flags", .noat "Parser" "exclusives", .noat "Parser" "defaults", .noat "Parser" "commands_argument", .noat "Parser" "sections", .cls "Section", .mkr "Section", .noat "Section" "home", .noat "Section" "title", .noat "Section" "description", .noat "Section" "members", .meth "Parser" "add_argument_group", .meth "Parser" "format_help"]
def ex (K : PySem.W.Frag) : Bool := (nilB K (kwAt ("Parser", some "__init__") "parents" K) && nilB K (kwAt ("Parser", some "__init__") "layout" K))
def loose0 : List PySem.Str := ["_wall", "OptError", "BadParser", "BadArgument", "Conflict", "CommandsTwice", "Exit", "SUPPRESS", "is_integer", "is_row", "is_value", "copied", "is_kind", "kind_name", "WITH_WORDS", "WITH_CONST", "WITHOUT", "WORD_COUNTS", "LISTS", "ALWAYS", "VERSION_HELP", "Argument", "keys_of", "is_flag", "has_gap", "checked_flags", "named", "with_fellows", "fits_metavar", "check_words"]
def loose1 : List PySem.Str := ["check_options", "default_of", "made_argument", "is_shown", "choices_of", "braced", "shown_names", "words_of", "with_words", "head_of", "filled_in", "has_words", "laid_out", "kept_lines", "described", "squeezed", "START", "bare_part", "part_of", "marked_places", "parts_of", "taken", "usage_lines", "usage_text", "format_usage", "format_usage_usage", "DEFAULT", "tells_default", "values_of", "help_of"]
def loose2 : List PySem.Str := ["command_rows", "section_rows", "row_text", "section_text", "format_help", "format_help_helping", "section_like", "section_with", "take_over", "Exclusive", "Section", "LAYOUTS", "LETTERS", "NO_SIGNS", "is_signs", "Parser", "_law_draw", "_law_start", "_law_pick", "_law_lines_right", "_law_words"]
def loose : List PySem.Str := loose0 ++ loose1 ++ loose2
abbrev R : PySem.W.OpenRow := PySem.W.OpenLaw.row PySem.Challenge.rw_optwright_k45_descriptions_and_epilogs
/-- every object that the top leaves -/
def asN : List Addr := List.range 757
def obsA (g : Addr → Option Obj) : He.AlD × Bool := (He.obsD fa fn (He.frG g asN), ex (He.frG g asN))
def hk : PySem.W.Hook where
  α := He.AlD × Bool
  obs := fun s => obsA s.heap.get?
  val := fun _ => (He.valD fn, true)
  says := fun _ h => ∃ K : PySem.W.Frag, K.In h ∧ He.SaysD fa fn K ∧ ex K = true
  of := fun _ _ e => ⟨_, He.frG_in, congrArg (fun z : He.AlD × Bool => z.1) e, congrArg (fun z : He.AlD × Bool => z.2) e⟩
  keeps := fun _ _ _ ⟨K, hK, c⟩ k => ⟨K, PySem.W.Frag.In.keeps hK k, c⟩
def ob (s : PySem.W.SharedT) : He.AlD × Bool := obsA (HandSHeadRun.getT s)
theorem ob_eq (s : PySem.W.SharedT) : ob s = hk.obs s.abs := by
  have e : HandSHeadRun.getT s = s.abs.heap.get? := funext (HandSHeadRun.getT_eq s)
  show obsA (HandSHeadRun.getT s) = obsA s.abs.heap.get?
  rw [e]
end K45

/-! the head, from a run that ends in a state that is known -/
namespace XTop
open PySem PySem.W PySem.Calls PyProof.Rows HandSHeadRun
def RunTop (r : OpenRow) (q : Program) (H : Hook) (M : Nat) (loose : List PySem.Str) (w : World) : Prop :=
  ∀ os : OsState, ∃ (s : SharedT) (m : Nat), m ≤ M ∧ topRun treeTable r.prog w (boot_heap w.params).objs.size (bootAnn w) m ⟨boot_heap w.params, #[], boot_drawn, boot_toks, os⟩ (topStub r.prog) = some s.abs ∧ (looksF r.prog (boot_heap w.params) s.abs, seenQ q loose (importedModules r.prog.main.body) (fun s => xlAt q [] s && recOk r.toRowW.records s) s.abs, H.obs s.abs) = (true, openGood q loose, H.val w)
theorem left_top {p q : Program} {loose : List PySem.Str} {Xt : Shared → Bool} {α : Type} {Yf : Shared → α} {Ya : World → α} {N M : Nat}
    (e : opening p = plainProg p.main.scope.names) (hN : Nat.ble 600 N = true) (f : ∀ s, fenceModules? p s = some s) (le : Nat.ble M N = true)
    (run : ∀ (w : World) (os : OsState), ∃ (s : SharedT) (m : Nat), m ≤ M ∧ topRun treeTable p w (boot_heap w.params).objs.size (bootAnn w) m ⟨boot_heap w.params, #[], boot_drawn, boot_toks, os⟩ (topStub p) = some s.abs ∧ (looksF p (boot_heap w.params) s.abs, openSeen q loose (importedModules p.main.body) Xt true s.abs, Yf s.abs) = (true, openGood q loose, Ya w)) :
    LeftO p q loose Xt Yf Ya N true := fun w => by
  obtain ⟨⟨h, gs, d, k, os⟩, a, a'⟩ := Option.map_eq_some_iff.mp (boot_open e hN f w)
  obtain ⟨rfl, rfl, rfl, rfl⟩ : h = boot_heap w.params ∧ gs = Array.mk [] ∧ d = boot_drawn ∧ k = boot_toks := by simpa using a'
  obtain ⟨s, m, hm, hs, hv⟩ := run w os
  obtain ⟨l1, l2, l3⟩ : _ ∧ _ ∧ _ := by simpa only [Prod.mk.injEq] using hv
  have r := topRun_mono (N - m) _ _ _ _ hs
  rw [show m + (N - m) = N by have := Nat.le_of_ble_eq_true le; omega] at r
  have l1' : (staticsOk (importedModules p.main.body) (boot_heap w.params) s.abs.heap && namesBound p s.abs.heap && gensDone s.abs && laidKept (boot_heap w.params) s.abs.heap) = true := l1
  have t : topFrom treeTable p w N ⟨boot_heap w.params, Array.mk [], boot_drawn, boot_toks, os⟩ = some s.abs := by
    unfold topFrom
    dsimp only
    rw [boot_ns]
    show (topRun treeTable p w (boot_heap w.params).objs.size (bootAnn w) N ⟨boot_heap w.params, #[], boot_drawn, boot_toks, os⟩ (topStub p)).bind _ = _
    rw [r]
    show (match staticsOk (importedModules p.main.body) (boot_heap w.params) s.abs.heap && namesBound p s.abs.heap && gensDone s.abs && laidKept (boot_heap w.params) s.abs.heap with | true => some s.abs | false => none) = _
    rw [l1']
  unfold openEnds
  rw [a]
  show (topFrom treeTable p w N _).map _ = _
  rw [t]
  exact congrArg some (Prod.ext l2 l3)
theorem head_top {r : OpenRow} {q : Program} {H : Hook} {M : Nat} {loose : List PySem.Str} {d : DefRec} {kwd : List (PySem.Str × PySem.Expr)}
    (e : opening r.prog = plainProg r.prog.main.scope.names) (f : ∀ s, fenceModules? r.prog s = some s) (run : ∀ w, RunTop r q H M loose w)
    (hdef : defOf q r.name = some (d, kwd)) (hp : r.prog.theDef r.name = some (d.params, d.body, d.scope)) (hk : kwWritten? d.params.kwonlyargs d.params.kw_defaults = some kwd)
    (hwr : (!r.writes || r.records.isEmpty) = true) (k1 : r.wellSaid = true) (ok : (chainsOk q && opensWell r.prog && (frees r.toRowW && r.within.isEmpty)) = true) (hb : r.prog.bare) (hw : r.toRowW.promised)
    (call : WalkO q loose (XL q []) H.says r.toRowW d kwd fun f vs => PySem.call f vs) : r.Holds := by
  have left : LeftO r.prog q loose (fun s => xlAt q [] s && recOk r.toRowW.records s) H.obs H.val (M + 600) true :=
    left_top (M := M) e (Nat.ble_eq_true_of_le (by omega)) f (Nat.ble_eq_true_of_le (by omega)) fun w os => by
      have z := run w os
      simp only [seenQ_eq]
      exact z
  exact holds_open (r := r) (q := q) (loose := loose) (XP := XL q []) (YP := H.says) (d := d) (kwd := kwd) left H.of H.keeps (fun s z => xl_of s (Bool.and_eq_true_iff.mp z).1) XL.keeps hdef hp hk (fun s z => recFacts_of (Bool.and_eq_true_iff.mp z).2) hwr k1 ok hb hw call
end XTop

open PySem PySem.W PySem.Calls PyProof.Rows
namespace K45
/-! what is asked of the text beside the walk -/
theorem s1 : opening R.prog = plainProg R.prog.main.scope.names := by kernel_rfl
theorem s2 (s : Shared) : fenceModules? R.prog s = some s := by kernel_rfl
theorem s3 : defOf (view R.prog [92]) R.name = some ((HandSHeadRun.topDef R.prog 92), []) := by kernel_rfl
theorem s4 : R.prog.theDef R.name = some ((HandSHeadRun.topDef R.prog 92).params, (HandSHeadRun.topDef R.prog 92).body, (HandSHeadRun.topDef R.prog 92).scope) := by kernel_rfl
theorem s5 : kwWritten? (HandSHeadRun.topDef R.prog 92).params.kwonlyargs (HandSHeadRun.topDef R.prog 92).params.kw_defaults = some [] := by kernel_rfl
theorem s6 : (chainsOk (view R.prog [92]) && opensWell R.prog && (frees R.toRowW && R.within.isEmpty)) = true := by decide +kernel
theorem s7 : R.prog.bare := ⟨rfl, rfl, rfl, rfl, rfl, by decide +kernel⟩
/-- the law, but for its walk -/
theorem head (run : ∀ w, XTop.RunTop R (view (OpenLaw.row PySem.Challenge.rw_optwright_k45_descriptions_and_epilogs).prog [92]) hk 12000 loose w) (call : WalkO (view (OpenLaw.row PySem.Challenge.rw_optwright_k45_descriptions_and_epilogs).prog [92]) K45.loose (XL (view (OpenLaw.row PySem.Challenge.rw_optwright_k45_descriptions_and_epilogs).prog [92]) []) K45.hk.says (OpenLaw.row PySem.Challenge.rw_optwright_k45_descriptions_and_epilogs).toRowW (HandSHeadRun.topDef (OpenLaw.row PySem.Challenge.rw_optwright_k45_descriptions_and_epilogs).prog 92) [] fun f vs => PySem.call f vs) : PySem.Challenge.rw_optwright_k45_descriptions_and_epilogs.Holds := by
  w_on; o_law
  refine XTop.head_top (r := OpenLaw.row PySem.Challenge.rw_optwright_k45_descriptions_and_epilogs) (q := view (OpenLaw.row PySem.Challenge.rw_optwright_k45_descriptions_and_epilogs).prog [92]) (H := K45.hk) (M := 12000) (loose := K45.loose) (d := HandSHeadRun.topDef (OpenLaw.row PySem.Challenge.rw_optwright_k45_descriptions_and_epilogs).prog 92) (kwd := [])
    s1 s2 run s3 s4 s5 (by rfl) (by first | assumption | decide +kernel) s6 s7 ?hw call
  case hw => w_witness2
end K45

/-! short words for the objects that a top leaves -/
namespace XLit
open PySem L2
abbrev S (s : String) (t : Nat) : Value := .str (Str.ofString s) t
abbrev R (a : Nat) : Value := .ref a
abbrev I (i : Int) : Value := .int i 0
abbrev V : Value := .none
def sr : Nat → List String → List Value
  | _, [] => []
  | k, x :: r => S x k :: sr (k + 1) r
def tr : List (Nat × Nat × Nat) → List Value
  | [] => []
  | (a, b, c) :: r => I (Int.ofNat a) :: I (Int.ofNat b) :: R c :: tr r
def tp (l : List Value) : Obj := ⟨.type "tuple", none, .seq ⟨l⟩ 0, ⟨[]⟩⟩
def ts (k : Nat) (l : List String) : Obj := tp (sr k l)
def fl (l : List Value) : Obj := ⟨.none, none, .fields ⟨l⟩, ⟨[]⟩⟩
def ct (l : List (Nat × Nat × Nat)) : Obj := fl (tr l)
def ft (n q : String) (s : Stmt) : Obj := ⟨.none, none, .func ⟨Str.ofString n, Str.ofString q, defArgs s, .stmts (defBody s), defScope s, 0, [], .none, .none, .none, .none, none, .none, .none, 0⟩, ⟨[]⟩⟩
def fu (n q : String) (s : Stmt) (cl : List (Str × Addr)) (df kd pm : Value) (c : Nat) (cv : Value) : Obj := ⟨.type "function", none, .func ⟨Str.ofString n, Str.ofString q, defArgs s, .stmts (defBody s), defScope s, 3, cl, df, kd, .none, pm, none, R c, cv, 0⟩, ⟨[]⟩⟩
def co (n q : String) (k l a po kw fg v : Nat) (b : Bool) (z : Nat) (c : Nat) (x y u : Value) (t : Nat) : Obj := ⟨.type "code", none, .fields ⟨[S n k, S q (k + 1), S "/claim/cut.py" (k + 2), I (Int.ofNat l), I (Int.ofNat a), I (Int.ofNat po), I (Int.ofNat kw), I (Int.ofNat fg), R v, .bool b, I (Int.ofNat z), R c, V, x, y, u, I (Int.ofNat t), I (Int.ofNat l), S "/claim/cut.py" (t + 1)]⟩, ⟨[]⟩⟩
abbrev E (P : Params) (s : String) (t : Nat) (v : Value) : DictEntry := ⟨PyData.keyHash P (Str.ofString s), S s t, v⟩
def di (l : List DictEntry) (n : Nat) : Obj := ⟨.type "dict", none, .dict ⟨l⟩ n, ⟨[]⟩⟩
def ob (t : String) (l : List Value) : Obj := ⟨.type t, none, .fields ⟨l⟩, ⟨[]⟩⟩
def ce (v : Value) : Obj := ⟨.type "cell", none, .cell (some v), ⟨[]⟩⟩
/-! the tree of a list: the head, then those at odd places, those at even places -/
def od : List Obj → List Obj
  | x :: _ :: r => x :: od r
  | [x] => [x]
  | [] => []
def ev : List Obj → List Obj
  | _ :: y :: r => y :: ev r
  | [_] => []
  | [] => []
def bt : Nat → List Obj → PySem.W.BT
  | 0, _ => .nil
  | _ + 1, [] => .nil
  | d + 1, x :: r => .node x (bt d (od r)) (bt d (ev r))
end XLit

namespace K45Z
open PySem L2 XLit
open K45 (top)
/-! ### the objects that the top leaves -/
def z0 (P : Params) : List Obj := [
di [E P "__name__" 1 (S "builtins" 160), E P "__doc__" 2 (.builtin "builtins.__doc__:str#opaque"), E P "__package__" 3 (.builtin "builtins.__package__:str#opaque"), E P "__loader__" 4 (.builtin "builtins.__loader__:shared#opaque"), E P "__spec__" 5 (.builtin "builtins.__spec__#opaque"), E P "__build_class__" 6 (.builtin "__build_class__"), E P "__import__" 7 (.builtin "__import__"), E P "abs" 8 (.builtin "abs"), E P "all" 9 (.builtin "all"), E P "any" 10 (.builtin "any"), E P "ascii" 11 (.builtin "ascii"), E P "bin" 12 (.builtin "bin"), E P "breakpoint" 13 (.builtin "breakpoint"), E P "callable" 14 (.builtin "callable"), E P "chr" 15 (.builtin "chr"), E P "compile" 16 (.builtin "compile"), E P "delattr" 17 (.builtin "delattr"), E P "dir" 18 (.builtin "dir"), E P "divmod" 19 (.builtin "divmod"), E P "eval" 20 (.builtin "eval"), E P "exec" 21 (.builtin "exec"), E P "format" 22 (.builtin "format"), E P "getattr" 23 (.builtin "getattr"), E P "globals" 24 (.builtin "globals"), E P "hasattr" 25 (.builtin "hasattr"), E P "hash" 26 (.builtin "hash"), E P "hex" 27 (.builtin "hex"), E P "id" 28 (.builtin "id"), E P "input" 29 (.builtin "input"), E P "isinstance" 30 (.builtin "isinstance"), E P "issubclass" 31 (.builtin "issubclass"), E P "iter" 32 (.builtin "iter"), E P "aiter" 33 (.builtin "aiter"), E P "len" 34 (.builtin "len"), E P "locals" 35 (.builtin "locals"), E P "max" 36 (.builtin "max"), E P "min" 37 (.builtin "min"), E P "next" 38 (.builtin "next"), E P "anext" 39 (.builtin "anext"), E P "oct" 40 (.builtin "oct"), E P "ord" 41 (.builtin "ord"), E P "pow" 42 (.builtin "pow"), E P "print" 43 (.builtin "print"), E P "repr" 44 (.builtin "repr"), E P "round" 45 (.builtin "round"), E P "setattr" 46 (.builtin "setattr"), E P "sorted" 47 (.builtin "sorted"), E P "sum" 48 (.builtin "sum"), E P "vars" 49 (.builtin "vars"), E P "None" 50 V, E P "Ellipsis" 51 .ellipsis, E P "NotImplemented" 52 .notImplemented, E P "False" 53 (.bool false), E P "True" 54 (.bool true), E P "bool" 55 (.type "bool"), E P "memoryview" 56 (.type "memoryview"), E P "bytearray" 57 (.type "bytearray"), E P "bytes" 58 (.type "bytes"), E P "classmethod" 59 (.type "classmethod"), E P "complex" 60 (.type "complex"), E P "dict" 61 (.type "dict"), E P "enumerate" 62 (.type "enumerate"), E P "filter" 63 (.type "filter"), E P "float" 64 (.type "float"), E P "frozenset" 65 (.type "frozenset"), E P "property" 66 (.type "property"), E P "int" 67 (.type "int"), E P "list" 68 (.type "list"), E P "map" 69 (.type "map"), E P "object" 70 (.type "object"), E P "range" 71 (.type "range"), E P "reversed" 72 (.type "reversed"), E P "set" 73 (.type "set"), E P "slice" 74 (.type "slice"), E P "staticmethod" 75 (.type "staticmethod"), E P "str" 76 (.type "str"), E P "super" 77 (.type "super"), E P "tuple" 78 (.type "tuple"), E P "type" 79 (.type "type"), E P "zip" 80 (.type "zip"), E P "__debug__" 81 (.bool true), E P "BaseException" 82 (.type "BaseException"), E P "BaseExceptionGroup" 83 (.type "BaseExceptionGroup"), E P "Exception" 84 (.type "Exception"), E P "GeneratorExit" 85 (.type "GeneratorExit"), E P "KeyboardInterrupt" 86 (.type "KeyboardInterrupt"), E P "SystemExit" 87 (.type "SystemExit"), E P "ArithmeticError" 88 (.type "ArithmeticError"), E P "AssertionError" 89 (.type "AssertionError"), E P "AttributeError" 90 (.type "AttributeError"), E P "BufferError" 91 (.type "BufferError"), E P "EOFError" 92 (.type "EOFError"), E P "ImportError" 93 (.type "ImportError"), E P "LookupError" 94 (.type "LookupError"), E P "MemoryError" 95 (.type "MemoryError"), E P "NameError" 96 (.type "NameError"), E P "OSError" 97 (.type "OSError"), E P "ReferenceError" 98 (.type "ReferenceError"), E P "RuntimeError" 99 (.type "RuntimeError"), E P "StopAsyncIteration" 100 (.type "StopAsyncIteration"), E P "StopIteration" 101 (.type "StopIteration"), E P "SyntaxError" 102 (.type "SyntaxError"), E P "SystemError" 103 (.type "SystemError"), E P "TypeError" 104 (.type "TypeError"), E P "ValueError" 105 (.type "ValueError"), E P "Warning" 106 (.type "Warning"), E P "FloatingPointError" 107 (.type "FloatingPointError"), E P "OverflowError" 108 (.type "OverflowError"), E P "ZeroDivisionError" 109 (.type "ZeroDivisionError"), E P "BytesWarning" 110 (.type "BytesWarning"), E P "DeprecationWarning" 111 (.type "DeprecationWarning"), E P "EncodingWarning" 112 (.type "EncodingWarning"), E P "FutureWarning" 113 (.type "FutureWarning"), E P "ImportWarning" 114 (.type "ImportWarning"), E P "PendingDeprecationWarning" 115 (.type "PendingDeprecationWarning"), E P "ResourceWarning" 116 (.type "ResourceWarning"), E P "RuntimeWarning" 117 (.type "RuntimeWarning"), E P "SyntaxWarning" 118 (.type "SyntaxWarning"), E P "UnicodeWarning" 119 (.type "UnicodeWarning"), E P "UserWarning" 120 (.type "UserWarning"), E P "BlockingIOError" 121 (.type "BlockingIOError"), E P "ChildProcessError" 122 (.type "ChildProcessError"), E P "ConnectionError" 123 (.type "ConnectionError"), E P "FileExistsError" 124 (.type "FileExistsError"), E P "FileNotFoundError" 125 (.type "FileNotFoundError"), E P "InterruptedError" 126 (.type "InterruptedError"), E P "IsADirectoryError" 127 (.type "IsADirectoryError"), E P "NotADirectoryError" 128 (.type "NotADirectoryError"), E P "PermissionError" 129 (.type "PermissionError"), E P "ProcessLookupError" 130 (.type "ProcessLookupError"), E P "TimeoutError" 131 (.type "TimeoutError"), E P "IndentationError" 132 (.type "IndentationError"), E P "_IncompleteInputError" 133 (.type "_IncompleteInputError"), E P "IndexError" 134 (.type "IndexError"), E P "KeyError" 135 (.type "KeyError"), E P "ModuleNotFoundError" 136 (.type "ModuleNotFoundError"), E P "NotImplementedError" 137 (.type "NotImplementedError"), E P "PythonFinalizationError" 138 (.type "PythonFinalizationError"), E P "RecursionError" 139 (.type "RecursionError"), E P "UnboundLocalError" 140 (.type "UnboundLocalError"), E P "UnicodeError" 141 (.type "UnicodeError"), E P "BrokenPipeError" 142 (.type "BrokenPipeError"), E P "ConnectionAbortedError" 143 (.type "ConnectionAbortedError"), E P "ConnectionRefusedError" 144 (.type "ConnectionRefusedError"), E P "ConnectionResetError" 145 (.type "ConnectionResetError"), E P "TabError" 146 (.type "TabError"), E P "UnicodeDecodeError" 147 (.type "UnicodeDecodeError"), E P "UnicodeEncodeError" 148 (.type "UnicodeEncodeError"), E P "UnicodeTranslateError" 149 (.type "UnicodeTranslateError"), E P "ExceptionGroup" 150 (.type "ExceptionGroup"), E P "EnvironmentError" 151 (.type "OSError"), E P "IOError" 152 (.type "OSError"), E P "open" 153 (.builtin "open"), E P "quit" 154 (.builtin "builtins.quit#opaque"), E P "exit" 155 (.builtin "builtins.exit#opaque"), E P "copyright" 156 (.builtin "builtins.copyright#opaque"), E P "credits" 157 (.builtin "builtins.credits#opaque"), E P "license" 158 (.builtin "builtins.license#opaque"), E P "help" 159 (.builtin "builtins.help#opaque")] 159,
di [E P "builtins" 162 (R 4), E P "__main__" 163 (R 5)] 2,
⟨V, none, .dict ⟨[]⟩ 0, ⟨[]⟩⟩,
di [E P "__name__" 165 (S "law_optwright_k45_descriptions_and_epilogs" 1214), E P "__doc__" 166 V, E P "__package__" 167 V, E P "__loader__" 168 (.builtin "__main__.__loader__#opaque"), E P "__spec__" 169 V, E P "__annotations__" 170 (R 6), E P "__builtins__" 171 (R 4), E P "__file__" 173 (S "/claim/cut.py" 172), E P "__cached__" 174 V, E P "_wall" 193 (R 21), E P "OptError" 213 (R 31), E P "BadParser" 240 (R 53), E P "BadArgument" 267 (R 74), E P "Conflict" 294 (R 95), E P "CommandsTwice" 319 (R 116), E P "Exit" 350 (R 137), E P "SUPPRESS" 354 (S "==SUPPRESS==" 353), E P "is_integer" 361 (R 146), E P "is_row" 368 (R 153), E P "is_value" 374 (R 158), E P "copied" 380 (R 163), E P "is_kind" 387 (R 170), E P "kind_name" 394 (R 177), E P "WITH_WORDS" 400 (R 178), E P "WITH_CONST" 403 (R 179), E P "WITHOUT" 408 (R 180), E P "WORD_COUNTS" 413 (R 181), E P "LISTS" 417 (R 182), E P "ALWAYS" 421 (R 183), E P "VERSION_HELP" 423 (S "show program's version number and exit" 422), E P "Argument" 476 (R 207), E P "keys_of" 483 (R 218), E P "is_flag" 491 (R 225), E P "has_gap" 497 (R 230), E P "checked_flags" 503 (R 235), E P "named" 509 (R 240), E P "with_fellows" 515 (R 245), E P "fits_metavar" 521 (R 250), E P "check_words" 532 (R 257), E P "check_options" 538 (R 262), E P "default_of" 549 (R 269), E P "made_argument" 555 (R 274), E P "is_shown" 564 (R 281), E P "choices_of" 570 (R 286), E P "braced" 577 (R 293), E P "shown_names" 585 (R 300), E P "words_of" 597 (R 307), E P "with_words" 606 (R 314), E P "head_of" 614 (R 321), E P "filled_in" 629 (R 328), E P "has_words" 636 (R 335), E P "laid_out" 648 (R 342), E P "kept_lines" 656 (R 349), E P "described" 662 (R 354), E P "squeezed" 669 (R 361), E P "START" 673 (S "usage: " 672), E P "bare_part" 682 (R 368), E P "part_of" 691 (R 375), E P "marked_places" 697 (R 380), E P "parts_of" 703 (R 385), E P "taken" 716 (R 392), E P "usage_lines" 728 (R 399), E P "usage_text" 734 (R 404), E P "format_usage" 741 (R 411), E P "format_usage_usage" 742 (R 411), E P "DEFAULT" 746 (S "{default}" 745), E P "tells_default" 753 (R 418), E P "values_of" 763 (R 425), E P "help_of" 772 (R 432), E P "command_rows" 786 (R 439), E P "section_rows" 796 (R 446), E P "row_text" 802 (R 451), E P "section_text" 808 (R 456), E P "format_help" 814 (R 461), E P "format_help_helping" 815 (R 461), E P "section_like" 827 (R 468), E P "section_with" 833 (R 473), E P "take_over" 850 (R 480), E P "Exclusive" 895 (R 505), E P "Section" 947 (R 542), E P "LAYOUTS" 954 (R 547), E P "LETTERS" 956 (S "abcdefghijklmnopqrstuvwxyzABCDEFGHIJKLMNOPQRSTUVWXYZ" 955), E P "NO_SIGNS" 959 (S "abcdefghijklmnopqrstuvwxyzABCDEFGHIJKLMNOPQRSTUVWXYZ0123456789 \n=" 958), E P "is_signs" 965 (R 552), E P "Parser" 1213 (R 716), E P "_law_draw" 1225 (R 727), E P "_law_start" 1232 (R 734), E P "_law_pick" 1240 (R 741), E P "_law_lines_right" 1246 (R 746), E P "_law_words" 1252 (R 751), E P "law" 1258 (R 756)] 91,
⟨(.type "module"), (some 0), .plain, ⟨[]⟩⟩,
⟨(.type "module"), (some 3), .plain, ⟨[]⟩⟩,
di [] 0,
tp [],
ct [],
co "<module>" "<module>" 176 1 0 0 0 0 7 false 175 8 V V V 179,
⟨(.type "frame"), none, .plain, ⟨[(some (R 9)), (some (R 3)), (some (R 3)), none, (some (S "__main__" 164)), none, (some (R 0))]⟩⟩,
tp [],
ct [(1, 0, 20), (5, 0, 27), (7, 0, 41), (12, 0, 62), (17, 0, 83), (22, 0, 104), (26, 0, 125), (35, 0, 145), (37, 0, 152), (39, 0, 157), (43, 0, 162), (47, 0, 169), (53, 0, 176), (65, 0, 189), (91, 0, 217), (99, 0, 224), (101, 0, 229), (103, 0, 234), (111, 0, 239), (123, 0, 244), (129, 0, 249), (138, 0, 256), (152, 0, 261), (170, 0, 268), (180, 0, 273), (203, 0, 280), (205, 0, 285), (209, 0, 292), (211, 0, 299), (219, 0, 306), (235, 0, 313), (237, 0, 320), (242, 0, 327), (255, 0, 334), (257, 0, 341), (274, 0, 348), (277, 0, 353), (284, 0, 360), (290, 0, 367), (297, 0, 374), (302, 0, 379), (307, 0, 384), (320, 0, 391), (330, 0, 398), (340, 0, 403), (352, 0, 410), (357, 0, 417), (361, 0, 424), (370, 0, 431), (378, 0, 438), (386, 0, 445), (394, 0, 450), (404, 0, 455), (409, 0, 460), (424, 0, 467), (429, 0, 472), (431, 0, 479), (450, 0, 486), (460, 0, 515), (477, 0, 551), (481, 0, 558), (594, 0, 726), (607, 0, 733), (609, 0, 740), (611, 0, 745), (618, 0, 750), (623, 0, 755)],
co "<module>" "<module>" 182 1 0 0 0 0 11 false 181 12 V V V 185,
⟨(.type "frame"), none, .plain, ⟨[(some (R 13)), (some (R 3)), (some (R 3)), none, (some (S "__main__" 164)), none, (some (R 0))]⟩⟩,
tp [],
ct [],
ts 190 ["k"],
tp [],
ft "_wall" "_wall" (top 0),
co "_wall" "_wall" 187 1 1 0 0 3 15 true 181 16 (R 17) (R 18) (R 19) 191,
fu "_wall" "_wall" (top 0) [] V V (S "__main__" 164) 20 V,
tp [(.type "ValueError")],
ob "builtin_function_or_method" [(.builtin "type.__prepare__"), (.type "type")],
di [E P "__module__" 203 (S "optwright.errors" 194), E P "__qualname__" 205 (S "OptError" 204), E P "__firstlineno__" 207 (.int 5 206), E P "__static_attributes__" 208 (R 29)] 4,
tp [],
ct [],
co "OptError" "OptError" 198 5 0 0 0 0 25 false 181 26 V V V 201,
⟨(.type "frame"), none, .plain, ⟨[(some (R 27)), (some (R 3)), (some (R 24)), none, (some (S "optwright.errors" 194)), none, (some (R 0))]⟩⟩,
tp [],
di [E P "__module__" 203 (S "optwright.errors" 194), E P "__firstlineno__" 207 (.int 5 206), E P "__static_attributes__" 208 (R 29), E P "__weakref__" 210 (R 32), E P "__doc__" 211 V] 3,
⟨(.type "type"), none, .cls ⟨"OptError", [(.type "ValueError")], [(R 31), (.type "ValueError"), (.type "Exception"), (.type "BaseException"), (.type "object")], 30, "OptError", true, [], [(R 53), (R 74), (R 95), (R 116), (R 137)], false, none, false⟩, ⟨[(some (R 22)), none, (some (S "OptError" 196)), (some (S "OptError" 204)), (some (.builtin "ValueError.__new__")), (some (.bool true))]⟩⟩,
ob "getset_descriptor" [(S "__weakref__" 209), (R 31), (.builtin "ExceptionGroup.__weakref__"), V],
ob "super" [(R 31), (R 31), (R 31)],
ob "builtin_function_or_method" [(.builtin "object.__init_subclass__"), (R 31)],
tp [(R 31)],
ob "builtin_function_or_method" [(.builtin "type.__prepare__"), (.type "type")],
di [E P "__module__" 221 (S "optwright.errors" 194), E P "__qualname__" 223 (S "BadParser" 222), E P "__firstlineno__" 225 (.int 7 224), E P "__init__" 234 (R 50), E P "__static_attributes__" 236 (R 51), E P "__classcell__" 237 (R 38)] 6,
ce (R 53),
tp []]
def z1 (P : Params) : List Obj := [
ct [(9, 4, 49)],
co "BadParser" "BadParser" 216 7 0 0 0 0 39 false 181 40 V V V 219,
⟨(.type "frame"), none, .plain, ⟨[(some (R 41)), (some (R 3)), (some (R 37)), none, (some (S "optwright.errors" 194)), none, (some (R 0))]⟩⟩,
tp [(R 38)],
ts 229 ["__class__"],
ct [],
ts 230 ["self", "why"],
tp [],
ft "__init__" "BadParser.__init__" (inClass (top 3) 0),
co "__init__" "BadParser.__init__" 226 9 2 0 0 3 44 true 181 45 (R 46) (R 47) (R 48) 232,
fu "__init__" "BadParser.__init__" (inClass (top 3) 0) [("__class__", 38)] V V (S "optwright.errors" 194) 49 (R 43),
ts 235 ["why"],
di [E P "__module__" 221 (S "optwright.errors" 194), E P "__firstlineno__" 225 (.int 7 224), E P "__init__" 234 (R 50), E P "__static_attributes__" 236 (R 51), E P "__doc__" 238 V] 3,
⟨(.type "type"), none, .cls ⟨"BadParser", [(R 31)], [(R 53), (R 31), (.type "ValueError"), (.type "Exception"), (.type "BaseException"), (.type "object")], 52, "BadParser", true, [], [], false, none, false⟩, ⟨[(some (R 35)), none, (some (S "BadParser" 214)), (some (S "BadParser" 222)), (some (.builtin "ValueError.__new__")), (some (.bool true))]⟩⟩,
ob "super" [(R 53), (R 53), (R 53)],
ob "builtin_function_or_method" [(.builtin "object.__init_subclass__"), (R 53)],
tp [(R 31)],
ob "builtin_function_or_method" [(.builtin "type.__prepare__"), (.type "type")],
di [E P "__module__" 248 (S "optwright.errors" 194), E P "__qualname__" 250 (S "BadArgument" 249), E P "__firstlineno__" 252 (.int 12 251), E P "__init__" 261 (R 71), E P "__static_attributes__" 263 (R 72), E P "__classcell__" 264 (R 59)] 6,
ce (R 74),
tp [],
ct [(14, 4, 70)],
co "BadArgument" "BadArgument" 243 12 0 0 0 0 60 false 181 61 V V V 246,
⟨(.type "frame"), none, .plain, ⟨[(some (R 62)), (some (R 3)), (some (R 58)), none, (some (S "optwright.errors" 194)), none, (some (R 0))]⟩⟩,
tp [(R 59)],
ts 256 ["__class__"],
ct [],
ts 257 ["self", "why"],
tp [],
ft "__init__" "BadArgument.__init__" (inClass (top 4) 0),
co "__init__" "BadArgument.__init__" 253 14 2 0 0 3 65 true 181 66 (R 67) (R 68) (R 69) 259,
fu "__init__" "BadArgument.__init__" (inClass (top 4) 0) [("__class__", 59)] V V (S "optwright.errors" 194) 70 (R 64),
ts 262 ["why"],
di [E P "__module__" 248 (S "optwright.errors" 194), E P "__firstlineno__" 252 (.int 12 251), E P "__init__" 261 (R 71), E P "__static_attributes__" 263 (R 72), E P "__doc__" 265 V] 3,
⟨(.type "type"), none, .cls ⟨"BadArgument", [(R 31)], [(R 74), (R 31), (.type "ValueError"), (.type "Exception"), (.type "BaseException"), (.type "object")], 73, "BadArgument", true, [], [], false, none, false⟩, ⟨[(some (R 56)), none, (some (S "BadArgument" 241)), (some (S "BadArgument" 249)), (some (.builtin "ValueError.__new__")), (some (.bool true))]⟩⟩,
ob "super" [(R 74), (R 74), (R 74)],
ob "builtin_function_or_method" [(.builtin "object.__init_subclass__"), (R 74)],
tp [(R 31)],
ob "builtin_function_or_method" [(.builtin "type.__prepare__"), (.type "type")],
di [E P "__module__" 275 (S "optwright.errors" 194), E P "__qualname__" 277 (S "Conflict" 276), E P "__firstlineno__" 279 (.int 17 278), E P "__init__" 288 (R 92), E P "__static_attributes__" 290 (R 93), E P "__classcell__" 291 (R 80)] 6]
def z2 (P : Params) : List Obj := [
ce (R 95),
tp [],
ct [(19, 4, 91)],
co "Conflict" "Conflict" 270 17 0 0 0 0 81 false 181 82 V V V 273,
⟨(.type "frame"), none, .plain, ⟨[(some (R 83)), (some (R 3)), (some (R 79)), none, (some (S "optwright.errors" 194)), none, (some (R 0))]⟩⟩,
tp [(R 80)],
ts 283 ["__class__"],
ct [],
ts 284 ["self", "flags"],
tp [],
ft "__init__" "Conflict.__init__" (inClass (top 5) 0),
co "__init__" "Conflict.__init__" 280 19 2 0 0 3 86 true 181 87 (R 88) (R 89) (R 90) 286,
fu "__init__" "Conflict.__init__" (inClass (top 5) 0) [("__class__", 80)] V V (S "optwright.errors" 194) 91 (R 85),
ts 289 ["flags"],
di [E P "__module__" 275 (S "optwright.errors" 194), E P "__firstlineno__" 279 (.int 17 278), E P "__init__" 288 (R 92), E P "__static_attributes__" 290 (R 93), E P "__doc__" 292 V] 3,
⟨(.type "type"), none, .cls ⟨"Conflict", [(R 31)], [(R 95), (R 31), (.type "ValueError"), (.type "Exception"), (.type "BaseException"), (.type "object")], 94, "Conflict", true, [], [], false, none, false⟩, ⟨[(some (R 77)), none, (some (S "Conflict" 268)), (some (S "Conflict" 276)), (some (.builtin "ValueError.__new__")), (some (.bool true))]⟩⟩,
ob "super" [(R 95), (R 95), (R 95)],
ob "builtin_function_or_method" [(.builtin "object.__init_subclass__"), (R 95)],
tp [(R 31)],
ob "builtin_function_or_method" [(.builtin "type.__prepare__"), (.type "type")],
di [E P "__module__" 302 (S "optwright.errors" 194), E P "__qualname__" 304 (S "CommandsTwice" 303), E P "__firstlineno__" 306 (.int 22 305), E P "__init__" 314 (R 113), E P "__static_attributes__" 315 (R 114), E P "__classcell__" 316 (R 101)] 6,
ce (R 116),
tp [],
ct [(24, 4, 112)],
co "CommandsTwice" "CommandsTwice" 297 22 0 0 0 0 102 false 181 103 V V V 300,
⟨(.type "frame"), none, .plain, ⟨[(some (R 104)), (some (R 3)), (some (R 100)), none, (some (S "optwright.errors" 194)), none, (some (R 0))]⟩⟩,
tp [(R 101)],
ts 310 ["__class__"],
ct [],
ts 311 ["self"],
tp [],
ft "__init__" "CommandsTwice.__init__" (inClass (top 6) 0),
co "__init__" "CommandsTwice.__init__" 307 24 1 0 0 3 107 true 181 108 (R 109) (R 110) (R 111) 312,
fu "__init__" "CommandsTwice.__init__" (inClass (top 6) 0) [("__class__", 101)] V V (S "optwright.errors" 194) 112 (R 106),
tp [],
di [E P "__module__" 302 (S "optwright.errors" 194), E P "__firstlineno__" 306 (.int 22 305), E P "__init__" 314 (R 113), E P "__static_attributes__" 315 (R 114), E P "__doc__" 317 V] 3,
⟨(.type "type"), none, .cls ⟨"CommandsTwice", [(R 31)], [(R 116), (R 31), (.type "ValueError"), (.type "Exception"), (.type "BaseException"), (.type "object")], 115, "CommandsTwice", true, [], [], false, none, false⟩, ⟨[(some (R 98)), none, (some (S "CommandsTwice" 295)), (some (S "CommandsTwice" 303)), (some (.builtin "ValueError.__new__")), (some (.bool true))]⟩⟩,
ob "super" [(R 116), (R 116), (R 116)],
ob "builtin_function_or_method" [(.builtin "object.__init_subclass__"), (R 116)],
tp [(R 31)]]
def z3 (P : Params) : List Obj := [
ob "builtin_function_or_method" [(.builtin "type.__prepare__"), (.type "type")],
di [E P "__module__" 327 (S "optwright.errors" 194), E P "__qualname__" 329 (S "Exit" 328), E P "__firstlineno__" 331 (.int 26 330), E P "__init__" 342 (R 134), E P "__static_attributes__" 346 (R 135), E P "__classcell__" 347 (R 122)] 6,
ce (R 137),
tp [],
ct [(28, 4, 133)],
co "Exit" "Exit" 322 26 0 0 0 0 123 false 181 124 V V V 325,
⟨(.type "frame"), none, .plain, ⟨[(some (R 125)), (some (R 3)), (some (R 121)), none, (some (S "optwright.errors" 194)), none, (some (R 0))]⟩⟩,
tp [(R 122)],
ts 335 ["__class__"],
ct [],
ts 336 ["self", "status", "out", "err"],
tp [],
ft "__init__" "Exit.__init__" (inClass (top 7) 0),
co "__init__" "Exit.__init__" 332 28 4 0 0 3 128 true 181 129 (R 130) (R 131) (R 132) 340,
fu "__init__" "Exit.__init__" (inClass (top 7) 0) [("__class__", 122)] V V (S "optwright.errors" 194) 133 (R 127),
ts 343 ["err", "out", "status"],
di [E P "__module__" 327 (S "optwright.errors" 194), E P "__firstlineno__" 331 (.int 26 330), E P "__init__" 342 (R 134), E P "__static_attributes__" 346 (R 135), E P "__doc__" 348 V] 3,
⟨(.type "type"), none, .cls ⟨"Exit", [(R 31)], [(R 137), (R 31), (.type "ValueError"), (.type "Exception"), (.type "BaseException"), (.type "object")], 136, "Exit", true, [], [], false, none, false⟩, ⟨[(some (R 119)), none, (some (S "Exit" 320)), (some (S "Exit" 328)), (some (.builtin "ValueError.__new__")), (some (.bool true))]⟩⟩,
ob "super" [(R 137), (R 137), (R 137)],
ob "builtin_function_or_method" [(.builtin "object.__init_subclass__"), (R 137)],
tp [],
ct [],
ts 358 ["thing"],
tp [],
ft "is_integer" "is_integer" (top 10),
co "is_integer" "is_integer" 355 35 1 0 0 3 140 true 181 141 (R 142) (R 143) (R 144) 359,
fu "is_integer" "is_integer" (top 10) [] V V (S "optwright.kinds" 351) 145 V,
tp [],
ct [],
ts 365 ["thing"],
tp [],
ft "is_row" "is_row" (top 11),
co "is_row" "is_row" 362 37 1 0 0 3 147 true 181 148 (R 149) (R 150) (R 151) 366,
fu "is_row" "is_row" (top 11) [] V V (S "optwright.kinds" 351) 152 V,
tp [],
ct [],
ft "is_value" "is_value" (top 12),
co "is_value" "is_value" 369 39 1 0 0 3 154 true 181 155 V V (R 156) 372,
fu "is_value" "is_value" (top 12) [] V V (S "optwright.kinds" 351) 157 V,
tp []]
def z4 (P : Params) : List Obj := [
ct [],
ft "copied" "copied" (top 13),
co "copied" "copied" 375 43 1 0 0 3 159 true 181 160 V V (R 161) 378,
fu "copied" "copied" (top 13) [] V V (S "optwright.kinds" 351) 162 V,
tp [],
ct [],
ts 384 ["thing"],
tp [],
ft "is_kind" "is_kind" (top 14),
co "is_kind" "is_kind" 381 47 1 0 0 3 164 true 181 165 (R 166) (R 167) (R 168) 385,
fu "is_kind" "is_kind" (top 14) [] V V (S "optwright.kinds" 351) 169 V,
tp [],
ct [],
ts 391 ["kind"],
tp [],
ft "kind_name" "kind_name" (top 15),
co "kind_name" "kind_name" 388 53 1 0 0 3 171 true 181 172 (R 173) (R 174) (R 175) 392,
fu "kind_name" "kind_name" (top 15) [] V V (S "optwright.kinds" 351) 176 V,
ts 397 ["store", "append", "extend"],
ts 401 ["store_const", "append_const"],
ts 404 ["store_true", "store_false", "count", "yes_no"],
ts 409 ["?", "*", "+", "..."],
ts 414 ["append", "append_const", "extend"],
ts 418 ["action", "dest", "help"],
tp [],
ob "builtin_function_or_method" [(.builtin "type.__prepare__"), (.type "type")],
di [E P "__module__" 431 (S "optwright.arguments" 395), E P "__qualname__" 433 (S "Argument" 432), E P "__firstlineno__" 435 (.int 65 434), E P "__init__" 445 (R 197), E P "twin" 453 (R 204), E P "__static_attributes__" 469 (R 205)] 6,
tp [],
ct [(67, 4, 196), (84, 4, 203)],
co "Argument" "Argument" 426 65 0 0 0 0 187 false 181 188 V V V 429,
⟨(.type "frame"), none, .plain, ⟨[(some (R 189)), (some (R 3)), (some (R 186)), none, (some (S "optwright.arguments" 395)), none, (some (R 0))]⟩⟩,
tp [],
ct [],
ts 439 ["self", "flags", "dest", "action"],
tp [],
ft "__init__" "Argument.__init__" (inClass (top 24) 0),
co "__init__" "Argument.__init__" 436 67 4 0 0 3 191 true 181 192 (R 193) (R 194) (R 195) 443,
fu "__init__" "Argument.__init__" (inClass (top 24) 0) [] V V (S "optwright.arguments" 395) 196 V,
tp [],
ct []]
def z5 (P : Params) : List Obj := [
ts 449 ["self", "made"],
tp [],
ft "twin" "Argument.twin" (inClass (top 24) 1),
co "twin" "Argument.twin" 446 84 1 0 0 3 198 true 181 199 (R 200) (R 201) (R 202) 451,
fu "twin" "Argument.twin" (inClass (top 24) 1) [] V V (S "optwright.arguments" 395) 203 V,
ts 454 ["action", "choices", "commands", "const", "default", "dest", "fellows", "flags", "help", "is_option", "kind", "metavar", "nargs", "required", "version"],
di [E P "__module__" 431 (S "optwright.arguments" 395), E P "__firstlineno__" 435 (.int 65 434), E P "__init__" 445 (R 197), E P "twin" 453 (R 204), E P "__static_attributes__" 469 (R 205), E P "__dict__" 471 (R 208), E P "__weakref__" 473 (R 209), E P "__doc__" 474 V] 4,
⟨(.type "type"), none, .cls ⟨"Argument", [(.type "object")], [(R 207), (.type "object")], 206, "Argument", true, [], [], false, none, false⟩, ⟨[none, none, (some (S "Argument" 424)), (some (S "Argument" 432)), (some (.builtin "object.__new__")), (some (.bool true))]⟩⟩,
ob "getset_descriptor" [(S "__dict__" 470), (R 207), (.builtin "function.__dict__"), (.builtin "function.__dict__#set")],
ob "getset_descriptor" [(S "__weakref__" 472), (R 207), (.builtin "ExceptionGroup.__weakref__"), V],
ob "super" [(R 207), (R 207), (R 207)],
ob "builtin_function_or_method" [(.builtin "object.__init_subclass__"), (R 207)],
tp [],
ct [],
ts 480 ["action"],
tp [],
ft "keys_of" "keys_of" (top 25),
co "keys_of" "keys_of" 477 91 1 0 0 3 212 true 181 213 (R 214) (R 215) (R 216) 481,
fu "keys_of" "keys_of" (top 25) [] V V (S "optwright.arguments" 395) 217 V,
tp [],
ct [],
ts 487 ["text", "prefix_chars"],
tp [],
ft "is_flag" "is_flag" (top 26),
co "is_flag" "is_flag" 484 99 2 0 0 3 219 true 181 220 (R 221) (R 222) (R 223) 489,
fu "is_flag" "is_flag" (top 26) [] V V (S "optwright.arguments" 395) 224 V,
tp [],
ct [],
ft "has_gap" "has_gap" (top 27),
co "has_gap" "has_gap" 492 101 1 0 0 3 226 true 181 227 V V (R 228) 495,
fu "has_gap" "has_gap" (top 27) [] V V (S "optwright.arguments" 395) 229 V,
tp [],
ct [],
ft "checked_flags" "checked_flags" (top 28),
co "checked_flags" "checked_flags" 498 103 2 0 0 3 231 true 181 232 V V (R 233) 501,
fu "checked_flags" "checked_flags" (top 28) [] V V (S "optwright.arguments" 395) 234 V,
tp [],
ct [],
ft "named" "named" (top 29),
co "named" "named" 504 111 4 0 0 3 236 true 181 237 V V (R 238) 507]
def z6 (P : Params) : List Obj := [
fu "named" "named" (top 29) [] V V (S "optwright.arguments" 395) 239 V,
tp [],
ct [],
ft "with_fellows" "with_fellows" (top 30),
co "with_fellows" "with_fellows" 510 123 2 0 0 3 241 true 181 242 V V (R 243) 513,
fu "with_fellows" "with_fellows" (top 30) [] V V (S "optwright.arguments" 395) 244 V,
tp [],
ct [],
ft "fits_metavar" "fits_metavar" (top 31),
co "fits_metavar" "fits_metavar" 516 129 2 0 0 3 246 true 181 247 V V (R 248) 519,
fu "fits_metavar" "fits_metavar" (top 31) [] V V (S "optwright.arguments" 395) 249 V,
tp [],
ct [],
ts 525 ["action", "options", "nargs", "fits", "choices"],
tp [],
ft "check_words" "check_words" (top 32),
co "check_words" "check_words" 522 138 2 0 0 3 251 true 181 252 (R 253) (R 254) (R 255) 530,
fu "check_words" "check_words" (top 32) [] V V (S "optwright.arguments" 395) 256 V,
tp [],
ct [],
ft "check_options" "check_options" (top 33),
co "check_options" "check_options" 533 152 3 0 0 3 258 true 181 259 V V (R 260) 536,
fu "check_options" "check_options" (top 33) [] V V (S "optwright.arguments" 395) 261 V,
tp [],
ct [],
ts 542 ["action", "dest", "options", "defaults", "argument_default"],
tp [],
ft "default_of" "default_of" (top 34),
co "default_of" "default_of" 539 170 5 0 0 3 263 true 181 264 (R 265) (R 266) (R 267) 547,
fu "default_of" "default_of" (top 34) [] V V (S "optwright.arguments" 395) 268 V,
tp [],
ct [],
ft "made_argument" "made_argument" (top 35),
co "made_argument" "made_argument" 550 180 4 0 0 3 270 true 181 271 V V (R 272) 553,
fu "made_argument" "made_argument" (top 35) [] V V (S "optwright.arguments" 395) 273 V,
tp [],
ct [],
ts 561 ["argument"],
tp [],
ft "is_shown" "is_shown" (top 37)]
def z7 (P : Params) : List Obj := [
co "is_shown" "is_shown" 558 203 1 0 0 3 275 true 181 276 (R 277) (R 278) (R 279) 562,
fu "is_shown" "is_shown" (top 37) [] V V (S "optwright.wording" 556) 280 V,
tp [],
ct [],
ft "choices_of" "choices_of" (top 38),
co "choices_of" "choices_of" 565 205 1 0 0 3 282 true 181 283 V V (R 284) 568,
fu "choices_of" "choices_of" (top 38) [] V V (S "optwright.wording" 556) 285 V,
tp [],
ct [],
ts 574 ["argument"],
tp [],
ft "braced" "braced" (top 39),
co "braced" "braced" 571 209 1 0 0 3 287 true 181 288 (R 289) (R 290) (R 291) 575,
fu "braced" "braced" (top 39) [] V V (S "optwright.wording" 556) 292 V,
tp [],
ct [],
ts 581 ["argument", "layout"],
tp [],
ft "shown_names" "shown_names" (top 40),
co "shown_names" "shown_names" 578 211 2 0 0 3 294 true 181 295 (R 296) (R 297) (R 298) 583,
fu "shown_names" "shown_names" (top 40) [] V V (S "optwright.wording" 556) 299 V,
tp [],
ct [],
ts 589 ["argument", "layout", "names", "nargs", "first", "last"],
tp [],
ft "words_of" "words_of" (top 41),
co "words_of" "words_of" 586 219 2 0 0 3 301 true 181 302 (R 303) (R 304) (R 305) 595,
fu "words_of" "words_of" (top 41) [] V V (S "optwright.wording" 556) 306 V,
tp [],
ct [],
ts 601 ["shown", "argument", "layout"],
tp [],
ft "with_words" "with_words" (top 42),
co "with_words" "with_words" 598 235 3 0 0 3 308 true 181 309 (R 310) (R 311) (R 312) 604,
fu "with_words" "with_words" (top 42) [] V V (S "optwright.wording" 556) 313 V,
tp [],
ct [],
ts 610 ["argument", "layout"],
tp [],
ft "head_of" "head_of" (top 43)]
def z8 (P : Params) : List Obj := [
co "head_of" "head_of" 607 237 2 0 0 3 315 true 181 316 (R 317) (R 318) (R 319) 612,
fu "head_of" "head_of" (top 43) [] V V (S "optwright.wording" 556) 320 V,
tp [],
ct [],
ts 620 ["text", "values", "found", "at", "start", "end", "name"],
tp [],
ft "filled_in" "filled_in" (top 45),
co "filled_in" "filled_in" 617 242 2 0 0 3 322 true 181 323 (R 324) (R 325) (R 326) 627,
fu "filled_in" "filled_in" (top 45) [] V V (S "optwright.filling" 615) 327 V,
tp [],
ct [],
ts 633 ["text"],
tp [],
ft "has_words" "has_words" (top 46),
co "has_words" "has_words" 630 255 1 0 0 3 329 true 181 330 (R 331) (R 332) (R 333) 634,
fu "has_words" "has_words" (top 46) [] V V (S "optwright.filling" 615) 334 V,
tp [],
ct [],
ts 640 ["text", "size", "found", "line", "word", "room"],
tp [],
ft "laid_out" "laid_out" (top 47),
co "laid_out" "laid_out" 637 257 2 0 0 3 336 true 181 337 (R 338) (R 339) (R 340) 646,
fu "laid_out" "laid_out" (top 47) [] V V (S "optwright.filling" 615) 341 V,
tp [],
ct [],
ts 652 ["text", "found"],
tp [],
ft "kept_lines" "kept_lines" (top 48),
co "kept_lines" "kept_lines" 649 274 1 0 0 3 343 true 181 344 (R 345) (R 346) (R 347) 654,
fu "kept_lines" "kept_lines" (top 48) [] V V (S "optwright.filling" 615) 348 V,
tp [],
ct [],
ft "described" "described" (top 49),
co "described" "described" 657 277 3 0 0 3 350 true 181 351 V V (R 352) 660,
fu "described" "described" (top 49) [] V V (S "optwright.filling" 615) 353 V,
tp [],
ct [],
ts 666 ["text"],
tp [],
ft "squeezed" "squeezed" (top 50)]
def z9 (P : Params) : List Obj := [
co "squeezed" "squeezed" 663 284 1 0 0 3 355 true 181 356 (R 357) (R 358) (R 359) 667,
fu "squeezed" "squeezed" (top 50) [] V V (S "optwright.filling" 615) 360 V,
tp [],
ct [],
ts 677 ["argument", "layout", "part"],
tp [],
ft "bare_part" "bare_part" (top 53),
co "bare_part" "bare_part" 674 290 2 0 0 3 362 true 181 363 (R 364) (R 365) (R 366) 680,
fu "bare_part" "bare_part" (top 53) [] V V (S "optwright.usage" 670) 367 V,
tp [],
ct [],
ts 686 ["argument", "layout", "part"],
tp [],
ft "part_of" "part_of" (top 54),
co "part_of" "part_of" 683 297 2 0 0 3 369 true 181 370 (R 371) (R 372) (R 373) 689,
fu "part_of" "part_of" (top 54) [] V V (S "optwright.usage" 670) 374 V,
tp [],
ct [],
ft "marked_places" "marked_places" (top 55),
co "marked_places" "marked_places" 692 302 2 0 0 3 376 true 181 377 V V (R 378) 695,
fu "marked_places" "marked_places" (top 55) [] V V (S "optwright.usage" 670) 379 V,
tp [],
ct [],
ft "parts_of" "parts_of" (top 56),
co "parts_of" "parts_of" 698 307 3 0 0 3 381 true 181 382 V V (R 383) 701,
fu "parts_of" "parts_of" (top 56) [] V V (S "optwright.usage" 670) 384 V,
tp [],
ct [],
ts 707 ["first", "parts", "indent", "size", "found", "line", "part"],
tp [],
ft "taken" "taken" (top 57),
co "taken" "taken" 704 320 4 0 0 3 386 true 181 387 (R 388) (R 389) (R 390) 714,
fu "taken" "taken" (top 57) [] V V (S "optwright.usage" 670) 391 V,
tp [],
ct [],
ts 720 ["start", "options", "positionals", "size", "indent", "lines"],
tp [],
ft "usage_lines" "usage_lines" (top 58),
co "usage_lines" "usage_lines" 717 330 4 0 0 3 393 true 181 394 (R 395) (R 396) (R 397) 726,
fu "usage_lines" "usage_lines" (top 58) [] V V (S "optwright.usage" 670) 398 V]
def z10 (P : Params) : List Obj := [
tp [],
ct [],
ft "usage_text" "usage_text" (top 59),
co "usage_text" "usage_text" 729 340 1 0 0 3 400 true 181 401 V V (R 402) 732,
fu "usage_text" "usage_text" (top 59) [] V V (S "optwright.usage" 670) 403 V,
tp [],
ct [],
ts 738 ["parser"],
tp [],
ft "format_usage" "format_usage" (top 60),
co "format_usage" "format_usage" 735 352 1 0 0 3 405 true 181 406 (R 407) (R 408) (R 409) 739,
fu "format_usage" "format_usage" (top 60) [] V V (S "optwright.usage" 670) 410 V,
tp [],
ct [],
ts 750 ["argument"],
tp [],
ft "tells_default" "tells_default" (top 64),
co "tells_default" "tells_default" 747 357 1 0 0 3 412 true 181 413 (R 414) (R 415) (R 416) 751,
fu "tells_default" "tells_default" (top 64) [] V V (S "optwright.helping" 743) 417 V,
tp [],
ct [],
ts 757 ["argument", "prog", "choices", "found"],
tp [],
ft "values_of" "values_of" (top 65),
co "values_of" "values_of" 754 361 2 0 0 3 419 true 181 420 (R 421) (R 422) (R 423) 761,
fu "values_of" "values_of" (top 65) [] V V (S "optwright.helping" 743) 424 V,
tp [],
ct [],
ts 767 ["argument", "parser", "text"],
tp [],
ft "help_of" "help_of" (top 66),
co "help_of" "help_of" 764 370 2 0 0 3 426 true 181 427 (R 428) (R 429) (R 430) 770,
fu "help_of" "help_of" (top 66) [] V V (S "optwright.helping" 743) 431 V,
tp [],
ct [],
ts 776 ["commands", "parser", "found", "name", "aliases", "text", "has_row", "head"],
tp [],
ft "command_rows" "command_rows" (top 67),
co "command_rows" "command_rows" 773 378 2 0 0 3 433 true 181 434 (R 435) (R 436) (R 437) 784,
fu "command_rows" "command_rows" (top 67) [] V V (S "optwright.helping" 743) 438 V]
def z11 (P : Params) : List Obj := [
tp [],
ct [],
ts 790 ["section", "parser", "found", "argument"],
tp [],
ft "section_rows" "section_rows" (top 68),
co "section_rows" "section_rows" 787 386 2 0 0 3 440 true 181 441 (R 442) (R 443) (R 444) 794,
fu "section_rows" "section_rows" (top 68) [] V V (S "optwright.helping" 743) 445 V,
tp [],
ct [],
ft "row_text" "row_text" (top 69),
co "row_text" "row_text" 797 394 4 0 0 3 447 true 181 448 V V (R 449) 800,
fu "row_text" "row_text" (top 69) [] V V (S "optwright.helping" 743) 450 V,
tp [],
ct [],
ft "section_text" "section_text" (top 70),
co "section_text" "section_text" 803 404 4 0 0 3 452 true 181 453 V V (R 454) 806,
fu "section_text" "section_text" (top 70) [] V V (S "optwright.helping" 743) 455 V,
tp [],
ct [],
ft "format_help" "format_help" (top 71),
co "format_help" "format_help" 809 409 1 0 0 3 457 true 181 458 V V (R 459) 812,
fu "format_help" "format_help" (top 71) [] V V (S "optwright.helping" 743) 460 V,
tp [],
ct [],
ts 821 ["parser", "title", "description", "section"],
tp [],
ft "section_like" "section_like" (top 74),
co "section_like" "section_like" 818 424 3 0 0 3 462 true 181 463 (R 464) (R 465) (R 466) 825,
fu "section_like" "section_like" (top 74) [] V V (S "optwright.parents" 816) 467 V,
tp [],
ct [],
ft "section_with" "section_with" (top 75),
co "section_with" "section_with" 828 429 2 0 0 3 469 true 181 470 V V (R 471) 831,
fu "section_with" "section_with" (top 75) [] V V (S "optwright.parents" 816) 472 V,
tp [],
ct [],
ts 837 ["parser", "parent", "section", "made", "group", "title", "argument", "exclusive", "old", "new", "twin"],
tp [],
ft "take_over" "take_over" (top 76),
co "take_over" "take_over" 834 431 2 0 0 3 474 true 181 475 (R 476) (R 477) (R 478) 848]
def z12 (P : Params) : List Obj := [
fu "take_over" "take_over" (top 76) [] V V (S "optwright.parents" 816) 479 V,
tp [],
ob "builtin_function_or_method" [(.builtin "type.__prepare__"), (.type "type")],
di [E P "__module__" 860 (S "optwright.sections" 851), E P "__qualname__" 862 (S "Exclusive" 861), E P "__firstlineno__" 864 (.int 450 863), E P "__init__" 874 (R 494), E P "add_argument" 883 (R 502), E P "__static_attributes__" 888 (R 503)] 6,
tp [],
ct [(452, 4, 493), (458, 4, 501)],
co "Exclusive" "Exclusive" 855 450 0 0 0 0 484 false 181 485 V V V 858,
⟨(.type "frame"), none, .plain, ⟨[(some (R 486)), (some (R 3)), (some (R 483)), none, (some (S "optwright.sections" 851)), none, (some (R 0))]⟩⟩,
tp [],
ct [],
ts 868 ["self", "home", "section", "required"],
tp [],
ft "__init__" "Exclusive.__init__" (inClass (top 78) 0),
co "__init__" "Exclusive.__init__" 865 452 4 0 0 3 488 true 181 489 (R 490) (R 491) (R 492) 872,
fu "__init__" "Exclusive.__init__" (inClass (top 78) 0) [] V V (S "optwright.sections" 851) 493 V,
tp [V],
tp [],
ct [],
ts 878 ["self", "flags", "options"],
tp [],
ft "add_argument" "Exclusive.add_argument" (inClass (top 78) 1),
co "add_argument" "Exclusive.add_argument" 875 458 3 0 0 3 496 true 181 497 (R 498) (R 499) (R 500) 881,
fu "add_argument" "Exclusive.add_argument" (inClass (top 78) 1) [] (R 495) V (S "optwright.sections" 851) 501 V,
ts 884 ["home", "members", "required", "section"],
di [E P "__module__" 860 (S "optwright.sections" 851), E P "__firstlineno__" 864 (.int 450 863), E P "__init__" 874 (R 494), E P "add_argument" 883 (R 502), E P "__static_attributes__" 888 (R 503), E P "__dict__" 890 (R 506), E P "__weakref__" 892 (R 507), E P "__doc__" 893 V] 4,
⟨(.type "type"), none, .cls ⟨"Exclusive", [(.type "object")], [(R 505), (.type "object")], 504, "Exclusive", true, [], [], false, none, false⟩, ⟨[none, none, (some (S "Exclusive" 853)), (some (S "Exclusive" 861)), (some (.builtin "object.__new__")), (some (.bool true))]⟩⟩,
ob "getset_descriptor" [(S "__dict__" 889), (R 505), (.builtin "function.__dict__"), (.builtin "function.__dict__#set")],
ob "getset_descriptor" [(S "__weakref__" 891), (R 505), (.builtin "ExceptionGroup.__weakref__"), V],
ob "super" [(R 505), (R 505), (R 505)],
ob "builtin_function_or_method" [(.builtin "object.__init_subclass__"), (R 505)],
tp [],
ob "builtin_function_or_method" [(.builtin "type.__prepare__"), (.type "type")],
di [E P "__module__" 903 (S "optwright.sections" 851), E P "__qualname__" 905 (S "Section" 904), E P "__firstlineno__" 907 (.int 460 906), E P "__init__" 917 (R 523), E P "add_argument" 926 (R 531), E P "add_mutually_exclusive_group" 935 (R 539), E P "__static_attributes__" 940 (R 540)] 7,
tp [],
ct [(462, 4, 522), (468, 4, 530), (471, 4, 538)],
co "Section" "Section" 898 460 0 0 0 0 513 false 181 514 V V V 901,
⟨(.type "frame"), none, .plain, ⟨[(some (R 515)), (some (R 3)), (some (R 512)), none, (some (S "optwright.sections" 851)), none, (some (R 0))]⟩⟩,
tp [],
ct [],
ts 911 ["self", "home", "title", "description"]]
def z13 (P : Params) : List Obj := [
tp [],
ft "__init__" "Section.__init__" (inClass (top 79) 0),
co "__init__" "Section.__init__" 908 462 4 0 0 3 517 true 181 518 (R 519) (R 520) (R 521) 915,
fu "__init__" "Section.__init__" (inClass (top 79) 0) [] V V (S "optwright.sections" 851) 522 V,
tp [V],
tp [],
ct [],
ts 921 ["self", "flags", "options"],
tp [],
ft "add_argument" "Section.add_argument" (inClass (top 79) 1),
co "add_argument" "Section.add_argument" 918 468 3 0 0 3 525 true 181 526 (R 527) (R 528) (R 529) 924,
fu "add_argument" "Section.add_argument" (inClass (top 79) 1) [] (R 524) V (S "optwright.sections" 851) 530 V,
di [E P "required" 927 (.bool false)] 1,
tp [],
ct [],
ts 931 ["self", "required"],
tp [],
ft "add_mutually_exclusive_group" "Section.add_mutually_exclusive_group" (inClass (top 79) 2),
co "add_mutually_exclusive_group" "Section.add_mutually_exclusive_group" 928 471 1 0 1 3 533 true 181 534 (R 535) (R 536) (R 537) 933,
fu "add_mutually_exclusive_group" "Section.add_mutually_exclusive_group" (inClass (top 79) 2) [] V (R 532) (S "optwright.sections" 851) 538 V,
ts 936 ["description", "home", "members", "title"],
di [E P "__module__" 903 (S "optwright.sections" 851), E P "__firstlineno__" 907 (.int 460 906), E P "__init__" 917 (R 523), E P "add_argument" 926 (R 531), E P "add_mutually_exclusive_group" 935 (R 539), E P "__static_attributes__" 940 (R 540), E P "__dict__" 942 (R 543), E P "__weakref__" 944 (R 544), E P "__doc__" 945 V] 4,
⟨(.type "type"), none, .cls ⟨"Section", [(.type "object")], [(R 542), (.type "object")], 541, "Section", true, [], [], false, none, false⟩, ⟨[none, none, (some (S "Section" 896)), (some (S "Section" 904)), (some (.builtin "object.__new__")), (some (.bool true))]⟩⟩,
ob "getset_descriptor" [(S "__dict__" 941), (R 542), (.builtin "function.__dict__"), (.builtin "function.__dict__#set")],
ob "getset_descriptor" [(S "__weakref__" 943), (R 542), (.builtin "ExceptionGroup.__weakref__"), V],
ob "super" [(R 542), (R 542), (R 542)],
ob "builtin_function_or_method" [(.builtin "object.__init_subclass__"), (R 542)],
ts 950 ["raw", "rawtext", "defaults", "kinds"],
tp [],
ct [],
ft "is_signs" "is_signs" (top 84),
co "is_signs" "is_signs" 960 477 1 0 0 3 548 true 181 549 V V (R 550) 963,
fu "is_signs" "is_signs" (top 84) [] V V (S "optwright.parsers" 948) 551 V,
tp [],
ob "builtin_function_or_method" [(.builtin "type.__prepare__"), (.type "type")],
di [E P "__module__" 973 (S "optwright.parsers" 948), E P "__qualname__" 975 (S "Parser" 974), E P "__firstlineno__" 977 (.int 481 976), E P "__init__" 1002 (R 568), E P "twin" 1009 (R 575), E P "add_argument" 1018 (R 583), E P "add_to" 1030 (R 590), E P "join" 1036 (R 595), E P "take_away" 1042 (R 600), E P "add_argument_group" 1052 (R 608), E P "add_mutually_exclusive_group" 1061 (R 616), E P "add_exclusive" 1071 (R 623), E P "add_subparsers" 1092 (R 631), E P "take_commands" 1101 (R 638), E P "set_defaults" 1109 (R 645), E P "get_default" 1117 (R 652), E P "parse_args" 1126 (R 660), E P "parse_known_args" 1135 (R 668), E P "parse_intermixed_args" 1144 (R 676), E P "parse_known_intermixed_args" 1153 (R 684), E P "format_usage" 1160 (R 691), E P "format_help" 1167 (R 698), E P "error" 1175 (R 705), E P "end" 1186 (R 713), E P "__static_attributes__" 1206 (R 714)] 25,
tp [],
ct [(483, 4, 567), (509, 4, 574), (512, 4, 582), (515, 4, 589), (520, 4, 594), (534, 4, 599), (542, 4, 607), (547, 4, 615), (550, 4, 622), (555, 4, 630), (558, 4, 637), (564, 4, 644), (567, 4, 651), (570, 4, 659), (573, 4, 667), (576, 4, 675), (579, 4, 683), (582, 4, 690), (585, 4, 697), (588, 4, 704), (591, 4, 712)],
co "Parser" "Parser" 968 481 0 0 0 0 556 false 181 557 V V V 971,
⟨(.type "frame"), none, .plain, ⟨[(some (R 558)), (some (R 3)), (some (R 555)), none, (some (S "optwright.parsers" 948)), none, (some (R 0))]⟩⟩]
def z14 (P : Params) : List Obj := [
tp [],
tp [],
ts 978 ["program"],
di [E P "usage" 983 V, E P "description" 984 V, E P "epilog" 985 V, E P "parents" 986 (R 560), E P "layout" 987 (R 561), E P "width" 988 (.int 78 979), E P "prefix_chars" 989 (S "-" 980), E P "fromfile_prefix_chars" 990 (S "" 981), E P "files" 991 V, E P "argument_default" 992 V, E P "conflict_handler" 993 (S "error" 982), E P "add_help" 994 (.bool true), E P "allow_abbrev" 995 (.bool true), E P "exit_on_error" 996 (.bool true)] 14,
tp [],
ct [],
ft "__init__" "Parser.__init__" (inClass (top 85) 0),
co "__init__" "Parser.__init__" 997 483 2 0 14 3 564 true 181 565 V V (R 566) 1000,
fu "__init__" "Parser.__init__" (inClass (top 85) 0) [] (R 562) (R 563) (S "optwright.parsers" 948) 567 V,
tp [],
ct [],
ts 1006 ["self"],
tp [],
ft "twin" "Parser.twin" (inClass (top 85) 1),
co "twin" "Parser.twin" 1003 509 1 0 0 3 569 true 181 570 (R 571) (R 572) (R 573) 1007,
fu "twin" "Parser.twin" (inClass (top 85) 1) [] V V (S "optwright.parsers" 948) 574 V,
tp [V],
tp [],
ct [],
ts 1013 ["self", "flags", "options"],
tp [],
ft "add_argument" "Parser.add_argument" (inClass (top 85) 2),
co "add_argument" "Parser.add_argument" 1010 512 3 0 0 3 577 true 181 578 (R 579) (R 580) (R 581) 1016,
fu "add_argument" "Parser.add_argument" (inClass (top 85) 2) [] (R 576) V (S "optwright.parsers" 948) 582 V,
tp [],
ct [],
ts 1022 ["self", "section", "exclusive", "flags", "options", "argument"],
tp [],
ft "add_to" "Parser.add_to" (inClass (top 85) 3),
co "add_to" "Parser.add_to" 1019 515 5 0 0 3 584 true 181 585 (R 586) (R 587) (R 588) 1028,
fu "add_to" "Parser.add_to" (inClass (top 85) 3) [] V V (S "optwright.parsers" 948) 589 V,
tp [],
ct [],
ft "join" "Parser.join" (inClass (top 85) 4),
co "join" "Parser.join" 1031 520 4 0 0 3 591 true 181 592 V V (R 593) 1034,
fu "join" "Parser.join" (inClass (top 85) 4) [] V V (S "optwright.parsers" 948) 594 V,
tp [],
ct [],
ft "take_away" "Parser.take_away" (inClass (top 85) 5),
co "take_away" "Parser.take_away" 1037 534 2 0 0 3 596 true 181 597 V V (R 598) 1040]
def z15 (P : Params) : List Obj := [
fu "take_away" "Parser.take_away" (inClass (top 85) 5) [] V V (S "optwright.parsers" 948) 599 V,
tp [V, V],
tp [],
ct [],
ts 1046 ["self", "title", "description", "made"],
tp [],
ft "add_argument_group" "Parser.add_argument_group" (inClass (top 85) 6),
co "add_argument_group" "Parser.add_argument_group" 1043 542 3 0 0 3 602 true 181 603 (R 604) (R 605) (R 606) 1050,
fu "add_argument_group" "Parser.add_argument_group" (inClass (top 85) 6) [] (R 601) V (S "optwright.parsers" 948) 607 V,
di [E P "required" 1053 (.bool false)] 1,
tp [],
ct [],
ts 1057 ["self", "required"],
tp [],
ft "add_mutually_exclusive_group" "Parser.add_mutually_exclusive_group" (inClass (top 85) 7),
co "add_mutually_exclusive_group" "Parser.add_mutually_exclusive_group" 1054 547 1 0 1 3 610 true 181 611 (R 612) (R 613) (R 614) 1059,
fu "add_mutually_exclusive_group" "Parser.add_mutually_exclusive_group" (inClass (top 85) 7) [] V (R 609) (S "optwright.parsers" 948) 615 V,
tp [],
ct [],
ts 1065 ["self", "section", "required", "made"],
tp [],
ft "add_exclusive" "Parser.add_exclusive" (inClass (top 85) 8),
co "add_exclusive" "Parser.add_exclusive" 1062 550 3 0 0 3 617 true 181 618 (R 619) (R 620) (R 621) 1069,
fu "add_exclusive" "Parser.add_exclusive" (inClass (top 85) 8) [] V V (S "optwright.parsers" 948) 622 V,
di [E P "title" 1072 V, E P "description" 1073 V, E P "prog" 1074 V, E P "dest" 1075 (S "==SUPPRESS==" 353), E P "required" 1076 (.bool false), E P "about" 1077 V, E P "metavar" 1078 V] 7,
tp [],
ct [],
ts 1082 ["self", "title", "description", "prog", "dest", "required", "about", "metavar"],
tp [],
ft "add_subparsers" "Parser.add_subparsers" (inClass (top 85) 9),
co "add_subparsers" "Parser.add_subparsers" 1079 555 1 0 7 3 625 true 181 626 (R 627) (R 628) (R 629) 1090,
fu "add_subparsers" "Parser.add_subparsers" (inClass (top 85) 9) [] V (R 624) (S "optwright.parsers" 948) 630 V,
tp [],
ct [],
ts 1096 ["self", "argument", "commands"],
tp [],
ft "take_commands" "Parser.take_commands" (inClass (top 85) 10),
co "take_commands" "Parser.take_commands" 1093 558 3 0 0 3 632 true 181 633 (R 634) (R 635) (R 636) 1099,
fu "take_commands" "Parser.take_commands" (inClass (top 85) 10) [] V V (S "optwright.parsers" 948) 637 V,
tp []]
def z16 (P : Params) : List Obj := [
ct [],
ts 1105 ["self", "pairs"],
tp [],
ft "set_defaults" "Parser.set_defaults" (inClass (top 85) 11),
co "set_defaults" "Parser.set_defaults" 1102 564 2 0 0 3 639 true 181 640 (R 641) (R 642) (R 643) 1107,
fu "set_defaults" "Parser.set_defaults" (inClass (top 85) 11) [] V V (S "optwright.parsers" 948) 644 V,
tp [],
ct [],
ts 1113 ["self", "name"],
tp [],
ft "get_default" "Parser.get_default" (inClass (top 85) 12),
co "get_default" "Parser.get_default" 1110 567 2 0 0 3 646 true 181 647 (R 648) (R 649) (R 650) 1115,
fu "get_default" "Parser.get_default" (inClass (top 85) 12) [] V V (S "optwright.parsers" 948) 651 V,
tp [V],
tp [],
ct [],
ts 1121 ["self", "words", "names"],
tp [],
ft "parse_args" "Parser.parse_args" (inClass (top 85) 13),
co "parse_args" "Parser.parse_args" 1118 570 3 0 0 3 654 true 181 655 (R 656) (R 657) (R 658) 1124,
fu "parse_args" "Parser.parse_args" (inClass (top 85) 13) [] (R 653) V (S "optwright.parsers" 948) 659 V,
tp [V],
tp [],
ct [],
ts 1130 ["self", "words", "names"],
tp [],
ft "parse_known_args" "Parser.parse_known_args" (inClass (top 85) 14),
co "parse_known_args" "Parser.parse_known_args" 1127 573 3 0 0 3 662 true 181 663 (R 664) (R 665) (R 666) 1133,
fu "parse_known_args" "Parser.parse_known_args" (inClass (top 85) 14) [] (R 661) V (S "optwright.parsers" 948) 667 V,
tp [V],
tp [],
ct [],
ts 1139 ["self", "words", "names"],
tp [],
ft "parse_intermixed_args" "Parser.parse_intermixed_args" (inClass (top 85) 15),
co "parse_intermixed_args" "Parser.parse_intermixed_args" 1136 576 3 0 0 3 670 true 181 671 (R 672) (R 673) (R 674) 1142,
fu "parse_intermixed_args" "Parser.parse_intermixed_args" (inClass (top 85) 15) [] (R 669) V (S "optwright.parsers" 948) 675 V,
tp [V],
tp [],
ct []]
def z17 (P : Params) : List Obj := [
ts 1148 ["self", "words", "names"],
tp [],
ft "parse_known_intermixed_args" "Parser.parse_known_intermixed_args" (inClass (top 85) 16),
co "parse_known_intermixed_args" "Parser.parse_known_intermixed_args" 1145 579 3 0 0 3 678 true 181 679 (R 680) (R 681) (R 682) 1151,
fu "parse_known_intermixed_args" "Parser.parse_known_intermixed_args" (inClass (top 85) 16) [] (R 677) V (S "optwright.parsers" 948) 683 V,
tp [],
ct [],
ts 1157 ["self"],
tp [],
ft "format_usage" "Parser.format_usage" (inClass (top 85) 17),
co "format_usage" "Parser.format_usage" 1154 582 1 0 0 3 685 true 181 686 (R 687) (R 688) (R 689) 1158,
fu "format_usage" "Parser.format_usage" (inClass (top 85) 17) [] V V (S "optwright.parsers" 948) 690 V,
tp [],
ct [],
ts 1164 ["self"],
tp [],
ft "format_help" "Parser.format_help" (inClass (top 85) 18),
co "format_help" "Parser.format_help" 1161 585 1 0 0 3 692 true 181 693 (R 694) (R 695) (R 696) 1165,
fu "format_help" "Parser.format_help" (inClass (top 85) 18) [] V V (S "optwright.parsers" 948) 697 V,
tp [],
ct [],
ts 1171 ["self", "text"],
tp [],
ft "error" "Parser.error" (inClass (top 85) 19),
co "error" "Parser.error" 1168 588 2 0 0 3 699 true 181 700 (R 701) (R 702) (R 703) 1173,
fu "error" "Parser.error" (inClass (top 85) 19) [] V V (S "optwright.parsers" 948) 704 V,
tp [(.int 0 1176), (S "" 1177)],
tp [],
ct [],
ts 1181 ["self", "status", "err"],
tp [],
ft "end" "Parser.end" (inClass (top 85) 20),
co "end" "Parser.end" 1178 591 3 0 0 3 707 true 181 708 (R 709) (R 710) (R 711) 1184,
fu "end" "Parser.end" (inClass (top 85) 20) [] (R 706) V (S "optwright.parsers" 948) 712 V,
ts 1187 ["allow_abbrev", "argument_default", "arguments", "commands_argument", "conflict_handler", "defaults", "description", "epilog", "exclusives", "exit_on_error", "file_signs", "files", "flags", "layout", "prefix_chars", "prog", "sections", "usage", "width"],
di [E P "__module__" 973 (S "optwright.parsers" 948), E P "__firstlineno__" 977 (.int 481 976), E P "__init__" 1002 (R 568), E P "twin" 1009 (R 575), E P "add_argument" 1018 (R 583), E P "add_to" 1030 (R 590), E P "join" 1036 (R 595), E P "take_away" 1042 (R 600), E P "add_argument_group" 1052 (R 608), E P "add_mutually_exclusive_group" 1061 (R 616), E P "add_exclusive" 1071 (R 623), E P "add_subparsers" 1092 (R 631), E P "take_commands" 1101 (R 638), E P "set_defaults" 1109 (R 645), E P "get_default" 1117 (R 652), E P "parse_args" 1126 (R 660), E P "parse_known_args" 1135 (R 668), E P "parse_intermixed_args" 1144 (R 676), E P "parse_known_intermixed_args" 1153 (R 684), E P "format_usage" 1160 (R 691), E P "format_help" 1167 (R 698), E P "error" 1175 (R 705), E P "end" 1186 (R 713), E P "__static_attributes__" 1206 (R 714), E P "__dict__" 1208 (R 717), E P "__weakref__" 1210 (R 718), E P "__doc__" 1211 V] 4,
⟨(.type "type"), none, .cls ⟨"Parser", [(.type "object")], [(R 716), (.type "object")], 715, "Parser", true, [], [], false, none, false⟩, ⟨[none, none, (some (S "Parser" 966)), (some (S "Parser" 974)), (some (.builtin "object.__new__")), (some (.bool true))]⟩⟩,
ob "getset_descriptor" [(S "__dict__" 1207), (R 716), (.builtin "function.__dict__"), (.builtin "function.__dict__#set")],
ob "getset_descriptor" [(S "__weakref__" 1209), (R 716), (.builtin "ExceptionGroup.__weakref__"), V],
ob "super" [(R 716), (R 716), (R 716)]]
def z18 (P : Params) : List Obj := [
ob "builtin_function_or_method" [(.builtin "object.__init_subclass__"), (R 716)],
tp [],
ct [],
ts 1219 ["_law_stream", "_law_many", "_law_digit", "_law_mixed"],
tp [],
ft "_law_draw" "_law_draw" (top 87),
co "_law_draw" "_law_draw" 1216 594 2 0 0 3 721 true 181 722 (R 723) (R 724) (R 725) 1223,
fu "_law_draw" "_law_draw" (top 87) [] V V (S "law_optwright_k45_descriptions_and_epilogs" 1214) 726 V,
tp [],
ct [],
ts 1229 ["_law_script"],
tp [],
ft "_law_start" "_law_start" (top 88),
co "_law_start" "_law_start" 1226 607 1 0 0 3 728 true 181 729 (R 730) (R 731) (R 732) 1230,
fu "_law_start" "_law_start" (top 88) [] V V (S "law_optwright_k45_descriptions_and_epilogs" 1214) 733 V,
tp [],
ct [],
ts 1236 ["_law_stream", "_law_some"],
tp [],
ft "_law_pick" "_law_pick" (top 89),
co "_law_pick" "_law_pick" 1233 609 2 0 0 3 735 true 181 736 (R 737) (R 738) (R 739) 1238,
fu "_law_pick" "_law_pick" (top 89) [] V V (S "law_optwright_k45_descriptions_and_epilogs" 1214) 740 V,
tp [],
ct [],
ft "_law_lines_right" "_law_lines_right" (top 90),
co "_law_lines_right" "_law_lines_right" 1241 611 3 0 0 3 742 true 181 743 V V (R 744) 1244,
fu "_law_lines_right" "_law_lines_right" (top 90) [] V V (S "law_optwright_k45_descriptions_and_epilogs" 1214) 745 V,
tp [],
ct [],
ft "_law_words" "_law_words" (top 91),
co "_law_words" "_law_words" 1247 618 1 0 0 3 747 true 181 748 V V (R 749) 1250,
fu "_law_words" "_law_words" (top 91) [] V V (S "law_optwright_k45_descriptions_and_epilogs" 1214) 750 V,
tp [],
ct [],
ft "law" "law" (top 92),
co "law" "law" 1253 623 1 0 0 3 752 true 181 753 V V (R 754) 1256,
fu "law" "law" (top 92) [] V V (S "law_optwright_k45_descriptions_and_epilogs" 1214) 755 V]
def zs (P : Params) : List Obj := z0 P ++ (z1 P ++ (z2 P ++ (z3 P ++ (z4 P ++ (z5 P ++ (z6 P ++ (z7 P ++ (z8 P ++ (z9 P ++ (z10 P ++ (z11 P ++ (z12 P ++ (z13 P ++ (z14 P ++ (z15 P ++ (z16 P ++ (z17 P ++ (z18 P))))))))))))))))))
noncomputable def sEnd (w : World) (os : OsState) : PySem.W.SharedT := ⟨bt 12 (zs w.params), 757, {}, ⟨[]⟩, {}, 1259, os⟩
end K45Z

namespace K45
open PySem PySem.Spec PyProof.Rows L2 PySem.W HandSHeadRun
/-! ### the run: it ends in the literal state; all looks are asked of that -/
theorem zRunE (w : World) (os : OsState) : endF (stepQ (denQ tabQ) R.prog w) 12000 R.prog w os = some (K45Z.sEnd w os) := by kernel_rfl
theorem zLk (w : World) (os : OsState) : looksF R.prog (boot_heap w.params) (K45Z.sEnd w os).abs = true := by kernel_rfl
theorem zSq (w : World) (os : OsState) : seenQ (PySem.W.view R.prog [92]) loose (importedModules R.prog.main.body) (fun s => xlAt (PySem.W.view R.prog [92]) [] s && recOk R.toRowW.records s) (K45Z.sEnd w os).abs = openGood (PySem.W.view R.prog [92]) loose := by kernel_rfl
theorem zOq (w : World) (os : OsState) : ob (K45Z.sEnd w os) = hk.val w := by kernel_rfl
theorem run (w : World) : XTop.RunTop R (PySem.W.view R.prog [92]) hk 12000 loose w := fun os => by
  have h0 : endF (stepT (denote treeTable) R.prog w) 12000 R.prog w os = some (K45Z.sEnd w os) := by
    rw [stepQ_eq, denQ_eq, tabQ_eq]
    exact zRunE w os
  have hv : (looksF R.prog (boot_heap w.params) (K45Z.sEnd w os).abs, seenQ (PySem.W.view R.prog [92]) loose (importedModules R.prog.main.body) (fun s => xlAt (PySem.W.view R.prog [92]) [] s && recOk R.toRowW.records s) (K45Z.sEnd w os).abs, ob (K45Z.sEnd w os)) = (true, openGood (PySem.W.view R.prog [92]) loose, hk.val w) :=
    Prod.ext (zLk w os) (Prod.ext (zSq w os) (zOq w os))
  rw [ob_eq] at hv
  exact ⟨_, 12000, Nat.le_refl _, endF_ok h0, hv⟩
end K45

/-! a def called with keywords, by the names alone -/
namespace XB
open PySem PySem.Spec PyProof.Rows L2 PySem.W
theorem looks_for {α β : Type} {M : Model} {h : Heap} {f : α → β → Sem (ForInStep β)} (R : List α → β → Prop) (hs : ∀ a l b, R (a :: l) b → ∃ b', Looks M h (f a b) (.yield b') ∧ R l b') : ∀ (l : List α) (b : β), R l b → ∃ b', Looks M h (forIn l b f) b' ∧ R [] b'
  | [], b, r => ⟨b, by rw [List.forIn_nil]; exact .of_pure rfl, r⟩
  | a :: l, b, r => by
    obtain ⟨b1, l1, r1⟩ := hs a l b r
    obtain ⟨b2, l2, r2⟩ := looks_for R hs l b1 r1
    refine ⟨b2, ?_, r2⟩
    rw [List.forIn_cons]
    exact l1.andThen l2
theorem looks_forThen {α β γ : Type} {M : Model} {h : Heap} {f : α → β → Sem (ForInStep β)} {k : β → Sem γ} {l : List α} {b : β} {r : γ} (R : List α → β → Prop) (hs : ∀ a l b, R (a :: l) b → ∃ b', Looks M h (f a b) (.yield b') ∧ R l b') (r0 : R l b) (hk : ∀ b', R [] b' → Looks M h (k b') r) : Looks M h (forIn l b f >>= k) r := by
  obtain ⟨b', l1, r1⟩ := looks_for R hs l b r0
  exact l1.andThen (hk b' r1)
/-- those that lack, behind -/
def addM (S : List (Str × Value)) (l : List (Str × Value)) : List (Str × Value) := l.foldl (fun s q => if (s.lookup q.1).isNone then s ++ [q] else s) S
def bindsOf (ns ko : List Str) (us its : List Value) (kw : List (Str × Value)) (mv : List Value) : List (Str × Value) :=
  (ns ++ ko).filterMap fun n => ((addM (addM (ns.zip us ++ kw) ((ns.drop (ns.length - its.length)).zip its)) (ko.zip mv)).lookup n).map fun v => (n, v)
theorem lookup_isSome (k : Str) : ∀ l : List (Str × Value), (l.lookup k).isSome = (l.map (·.1)).contains k
  | [] => rfl
  | (j, v) :: l => by
    have ih := lookup_isSome k l
    rw [List.lookup_cons, List.map_cons, List.contains_cons]
    cases e : (k == j) with
    | true => rfl
    | false => rw [Bool.false_or]; exact ih
theorem zip_fst : ∀ (a : List Str) (b : List Value), b.length ≤ a.length → (a.zip b).map (·.1) = a.take b.length
  | [], [], _ => rfl
  | [], _ :: _, h => absurd h (Nat.not_succ_le_zero _)
  | _ :: _, [], _ => rfl
  | x :: a, y :: b, h => by
    rw [List.zip_cons_cons, List.map_cons, zip_fst a b (Nat.le_of_succ_le_succ h)]
    rfl
theorem looks_bind {K : Frag} {M : Model} {h : Heap} {fd : FuncData} {T D : Addr} {o : Obj} {m : Nat} {ns ko ks : List Str} {us its ws mv : List Value} (X : K.In h) (h1 : fd.params.posonlyargs = []) (h2 : fd.params.vararg = none) (h3 : fd.params.kwarg = none) (h4 : fd.params.args.map (·.arg) = ns) (h5 : fd.params.kwonlyargs.map (·.arg) = ko)
    (hd : fd.defaults = .ref T) (lT : K.lookup T = some o) (oT : o.data = .seq its.toArray m) (hk : fd.kwdefaults = .ref D) (hks : ∀ q ∈ ko.zip mv, nsIn K D q.1 = some (some q.2)) (lm : mv.length = ko.length)
    (lu : us.length ≤ ns.length) (lw : ws.length = ks.length) (li : its.length ≤ ns.length) (hc : ∀ k ∈ ks, (ns.contains k || ko.contains k) = true) (nd : (ns.take us.length ++ ks).Nodup) (hm : ∀ x ∈ ns.take (ns.length - its.length), (ns.take us.length ++ ks).contains x = true) :
    Looks M h (bindArgs fd ⟨us, ks.zip ws⟩) (bindsOf ns ko us its (ks.zip ws) mv) := by
  unfold bindArgs
  simp only [h1, h2, h3, h4, h5, List.map_nil, List.nil_append]
  have kz := zip_fst ns us lu
  have kk : (ks.zip ws).map (·.1) = ks := by
    rw [zip_fst ks ws (by omega), lw, List.take_length]
  -- the keywords
  refine looks_forThen (fun (l : List (Str × Value)) (b : List (Str × Value) × List (Str × Value)) => ∃ pre, ks.zip ws = pre ++ l ∧ b = (ns.zip us ++ pre, [])) ?_ ⟨[], rfl, by rw [List.append_nil]⟩ ?_
  · rintro a l b ⟨pre, e1, rfl⟩
    refine ⟨(ns.zip us ++ (pre ++ [a]), []), ?_, pre ++ [a], by rw [e1]; simp, rfl⟩
    have ea : ks = pre.map (·.1) ++ a.1 :: l.map (·.1) := by rw [← kk, e1]; simp
    have hin : a.1 ∈ ks := by rw [ea]; simp
    have hno : ((ns.zip us ++ pre).lookup a.1).isSome = false := by
      rw [lookup_isSome, List.map_append, kz]
      have h6 := nd
      rw [ea, ← List.append_assoc] at h6
      have h7 := (List.nodup_append.mp h6).2.2
      cases q : (ns.take us.length ++ pre.map (·.1)).contains a.1 with
      | false => rfl
      | true => exact absurd rfl (h7 a.1 (by simpa using q) a.1 List.mem_cons_self)
    rw [if_pos (hc a.1 hin), if_neg (by rw [hno]; exact Bool.false_ne_true)]
    exact .of_pure (by rw [List.append_assoc])
  rintro _ ⟨pre, e1, rfl⟩
  rw [List.append_nil] at e1
  subst e1
  rw [hd]
  refine looks_items X lT oT ?_
  have hg : ¬ ((decide (us.length > ns.length) && (none : Option Arg).isNone) = true) := by
    rw [decide_eq_false (by omega)]
    exact Bool.false_ne_true
  rw [if_neg hg]
  have ed : List.drop (((some its.toArray).getD #[]).toList.length - ns.length) ((some its.toArray).getD #[]).toList = its := by
    have e0 : ((some its.toArray).getD #[]).toList = its := rfl
    rw [e0, show its.length - ns.length = 0 by omega, List.drop_zero]
  rw [ed]
  have hmiss : List.filter (fun n => (List.lookup n ((ns.zip us ++ ks.zip ws, ([] : List (Str × Value))).fst)).isNone) (List.take (ns.length - its.length) ns) = [] := by
    rw [List.filter_eq_nil_iff]
    intro x hx
    have h6 := hm x hx
    have h7 := lookup_isSome x (ns.zip us ++ ks.zip ws)
    rw [List.map_append, kz, kk, h6] at h7
    show ¬ (List.lookup x (ns.zip us ++ ks.zip ws)).isNone = true
    cases e : List.lookup x (ns.zip us ++ ks.zip ws) with
    | none =>
      rw [e] at h7
      cases h7
    | some v => exact Bool.false_ne_true
  rw [hmiss]
  rw [if_neg (by simp)]
  -- defaults
  refine looks_forThen (fun (l : List (Str × Value)) (b : List (Str × Value)) => ∃ pre, (ns.drop (ns.length - its.length)).zip its = pre ++ l ∧ b = addM (ns.zip us ++ ks.zip ws) pre) ?_ ⟨[], rfl, rfl⟩ ?_
  · rintro a l b ⟨pre, e1, rfl⟩
    refine ⟨addM (ns.zip us ++ ks.zip ws) (pre ++ [a]), ?_, pre ++ [a], by rw [e1]; simp, rfl⟩
    have ea : addM (ns.zip us ++ ks.zip ws) (pre ++ [a]) = if ((addM (ns.zip us ++ ks.zip ws) pre).lookup a.1).isNone then addM (ns.zip us ++ ks.zip ws) pre ++ [a] else addM (ns.zip us ++ ks.zip ws) pre := by
      unfold addM
      rw [List.foldl_append]
      rfl
    rw [ea]
    by_cases q : ((addM (ns.zip us ++ ks.zip ws) pre).lookup a.1).isNone = true
    · rw [if_pos q, if_pos q]
      exact .of_pure rfl
    · rw [if_neg q, if_neg q]
      exact .of_pure rfl
  rintro _ ⟨pre, e1, rfl⟩
  rw [List.append_nil] at e1
  subst e1
  generalize hS : addM (ns.zip us ++ ks.zip ws) ((ns.drop (ns.length - its.length)).zip its) = S2
  -- keyword-only ones
  refine looks_forThen (fun (l : List Str) (b : List (Str × Value) × List Str) => ∃ pre m1 m2, ko = pre ++ l ∧ mv = m1 ++ m2 ∧ m1.length = pre.length ∧ b = (addM S2 (pre.zip m1), [])) ?_ ⟨[], [], mv, rfl, rfl, rfl, rfl⟩ ?_
  · rintro a l b ⟨pre, m1, m2, e1, e2, e3, rfl⟩
    cases m2 with
    | nil =>
      rw [e1, e2] at lm
      simp at lm
      omega
    | cons v m2 =>
      have ez : ko.zip mv = pre.zip m1 ++ (a, v) :: l.zip m2 := by
        rw [e1, e2, List.zip_append e3.symm]
        rfl
      have hq := hks (a, v) (by rw [ez]; simp)
      have ea : addM S2 ((pre ++ [a]).zip (m1 ++ [v])) = if ((addM S2 (pre.zip m1)).lookup a).isNone then addM S2 (pre.zip m1) ++ [(a, v)] else addM S2 (pre.zip m1) := by
        rw [List.zip_append e3.symm]
        unfold addM
        rw [List.foldl_append]
        rfl
      refine ⟨(addM S2 ((pre ++ [a]).zip (m1 ++ [v])), []), ?_, pre ++ [a], m1 ++ [v], m2, by rw [e1]; simp, by rw [e2]; simp, by rw [List.length_append, List.length_append, e3]; rfl, rfl⟩
      rw [ea]
      by_cases q : ((addM S2 (pre.zip m1)).lookup a).isNone = true
      · rw [if_pos q, if_pos q, hk]
        exact (looks_nsIn X hq).andThen (.of_pure rfl)
      · rw [if_neg q, if_neg q]
        exact .of_pure rfl
  rintro _ ⟨pre, m1, m2, e1, e2, e3, rfl⟩
  rw [List.append_nil] at e1
  subst e1
  have em : m2 = [] := by
    rw [e2, List.length_append] at lm
    exact List.length_eq_zero_iff.mp (by omega)
  subst em
  rw [List.append_nil] at e2
  subst e2
  rw [if_neg (by simp)]
  refine .of_pure ?_
  unfold bindsOf
  rw [hS]
/-- the keywords of a call with all keyword-only defaults told: what it binds -/
theorem kbn {K : Frag} {x qual : Str} {params : Arguments} {body : List Stmt} {scope : Scope} {dvs : List V} {kws : List (Str × V)} {f : Addr} {fd : FuncData} (F : FunD K x qual params body scope dvs kws f fd) {ns ko ps : List Str} (n : Nat) (ks : List Str) (hd : dvs ≠ []) (hk : kws ≠ []) (h1 : params.posonlyargs = []) (h2 : params.vararg = none) (h3 : params.kwarg = none) (h4 : params.args.map (·.arg) = ns) (h5 : params.kwonlyargs.map (·.arg) = ko) (hko : kws.map (·.1) = ko)
    (ln : n ≤ ns.length) (ld : dvs.length ≤ ns.length) (hc : ∀ k ∈ ks, (ns.contains k || ko.contains k) = true) (nd : (ns.take n ++ ks).Nodup) (hm : ∀ x ∈ ns.take (ns.length - dvs.length), (ns.take n ++ ks).contains x = true)
    (g : {α : Type} → List α → List α → List α → List α → List α) (hrel : ∀ {vs ds mz zs : List V} {us its mv ws : List Value}, Vals vs us → Vals ds its → Vals mz mv → Vals zs ws → Vals (g vs ds mz zs) (g us its mv ws))
    (hb : ∀ us its mv ws : List Value, us.length = n → its.length = dvs.length → mv.length = kws.length → ws.length = ks.length → bindsOf ns ko us its (ks.zip ws) mv = ps.zip (g us its mv ws)) :
    ∃ its mv : List Value, KBn K fd ps n ks (fun us ws => g us its mv ws) (fun vs zs => g vs dvs (kws.map (·.2)) zs) := by
  obtain ⟨oc, od, dV, kV, doc, pm, an, cdv, ct, osl, rfl, lk, hcd, hD, hK⟩ := F.ex
  rcases hD with ⟨e, _⟩ | ⟨_, T, o, its, m, rfl, lT, oT, rT⟩
  · exact absurd e hd
  · rcases hK with e | ⟨D, rfl, hq⟩
    · exact absurd e hk
    · obtain ⟨mv, hl, rk, hks⟩ := kwd_vals hq
      have li := rT.length
      refine ⟨its, mv, ⟨fun s us ws X l1 l2 => ?_, fun r1 r2 => hrel r1 rT rk r2⟩⟩
      rw [← hb us its mv ws l1 li.symm hl l2]
      rw [hko] at hks
      refine BindsTo.of_looks fun M => looks_bind X h1 h2 h3 h4 h5 rfl lT oT rfl hks ?_ (by omega) l2 (by omega) hc (by rw [l1]; exact nd) (by rw [l1, ← li]; exact hm)
      rw [hl, ← hko, List.length_map]
end XB

namespace K45
open PySem PySem.Spec PyProof.Rows L2
theorem fun_ofD {K : PySem.W.Frag} {x qual : Str} {st : Stmt} {f : Addr} {fd : FuncData} {kws : List (Str × V)} (F : FunD K x qual (defArgs st) (defBody st) (defScope st) [] kws f fd) : Fun K x qual st f fd := by
  obtain ⟨oc, od, dV, kV, doc, pm, an, cdv, ct, osl, e, lk, cd, hD, _⟩ := F.ex
  rcases hD with ⟨_, rfl⟩ | ⟨q, _⟩
  · exact ⟨⟨oc, od, kV, doc, pm, an, cdv, ct, osl, e, lk, cd⟩, F.kp⟩
  · exact absurd rfl q
/-- the parameters of a parser in their order -/
def gParA {α : Type} (vs _ds mz zs : List α) : List α := vs ++ (mz.take 1 ++ ((zs.drop 1).take 2 ++ ((mz.drop 3).take 2 ++ (zs.take 1 ++ ((mz.drop 6).take 5 ++ (zs.drop 3 ++ mz.drop 12))))))
def gParB {α : Type} (vs _ds mz zs : List α) : List α := vs ++ (mz.take 1 ++ (zs.take 1 ++ ((mz.drop 2).take 9 ++ (zs.drop 1 ++ mz.drop 12))))
theorem facts {P : Program} {w : World} {K : PySem.W.Frag} {h : Heap} {mg : Str → Option Value} {f : Addr} (X : K.In h) (G : h.Ns mainGlobals mg) (hfa : mg ("law" : Str) = some (.ref f)) (c : He.SaysD fa fn K) (cx : ex K = true) :
    ∃ fd : FuncData, (∀ (s : Shared) (v : Value), BindsTo s fd ⟨[v], []⟩ [("_law_script", v)]) ∧ ∀ base : Heap, K.In base → base.Ns mainGlobals mg → FnOk P w K mg base CX0 7 f fd ["_law_script"] (spLaw K) := by
  have z_int : mg "int" = none := He.free_ok X G (c.fact 0 (f := .free "int") rfl)
  have z_list : mg "list" = none := He.free_ok X G (c.fact 1 (f := .free "list") rfl)
  have z_tuple : mg "tuple" = none := He.free_ok X G (c.fact 2 (f := .free "tuple") rfl)
  have z_len : mg "len" = none := He.free_ok X G (c.fact 3 (f := .free "len") rfl)
  have z_isinstance : mg "isinstance" = none := He.free_ok X G (c.fact 4 (f := .free "isinstance") rfl)
  have z_dict : mg "dict" = none := He.free_ok X G (c.fact 5 (f := .free "dict") rfl)
  have z_sorted : mg "sorted" = none := He.free_ok X G (c.fact 6 (f := .free "sorted") rfl)
  have z_all : mg "all" = none := He.free_ok X G (c.fact 7 (f := .free "all") rfl)
  have z_zip : mg "zip" = none := He.free_ok X G (c.fact 8 (f := .free "zip") rfl)
  have z_range : mg "range" = none := He.free_ok X G (c.fact 9 (f := .free "range") rfl)
  have z_bool : mg "bool" = none := He.free_ok X G (c.fact 10 (f := .free "bool") rfl)
  have z_str : mg "str" = none := He.free_ok X G (c.fact 11 (f := .free "str") rfl)
  have z_any : mg "any" = none := He.free_ok X G (c.fact 12 (f := .free "any") rfl)
  have z_max : mg "max" = none := He.free_ok X G (c.fact 13 (f := .free "max") rfl)
  have z_min : mg "min" = none := He.free_ok X G (c.fact 14 (f := .free "min") rfl)
  have B : TxtB mg := ⟨z_int, z_list, z_tuple, z_len, z_isinstance, z_dict, z_sorted, z_all, z_zip, z_range, z_bool⟩
  have m_cop : mg "copied" = some (.ref (He.ga K "copied")) := He.glo_ok X G (c.fact 15 (f := .glo "copied") rfl)
  obtain ⟨fd_cop, D_cop⟩ := c.def_ 0 (d := d_cop) rfl
  have F_cop : Fun K "copied" "copied" sCop (He.ga K "copied") fd_cop := fun_ofD D_cop
  have b_cop := F_cop.binds (ps := ["value"]) fun _ _ _ _ _ _ us hl => match us, hl with | [_], _ => rfl
  have m_isr : mg "is_row" = some (.ref (He.ga K "is_row")) := He.glo_ok X G (c.fact 16 (f := .glo "is_row") rfl)
  obtain ⟨fd_isr, D_isr⟩ := c.def_ 1 (d := d_isr) rfl
  have F_isr : Fun K "is_row" "is_row" sIsRow (He.ga K "is_row") fd_isr := fun_ofD D_isr
  have b_isr := F_isr.binds (ps := ["thing"]) fun _ _ _ _ _ _ us hl => match us, hl with | [_], _ => rfl
  have m_isi : mg "is_integer" = some (.ref (He.ga K "is_integer")) := He.glo_ok X G (c.fact 17 (f := .glo "is_integer") rfl)
  obtain ⟨fd_isi, D_isi⟩ := c.def_ 2 (d := d_isi) rfl
  have F_isi : Fun K "is_integer" "is_integer" sIsInt (He.ga K "is_integer") fd_isi := fun_ofD D_isi
  have b_isi := F_isi.binds (ps := ["thing"]) fun _ _ _ _ _ _ us hl => match us, hl with | [_], _ => rfl
  have m_sig : mg "is_signs" = some (.ref (He.ga K "is_signs")) := He.glo_ok X G (c.fact 18 (f := .glo "is_signs") rfl)
  obtain ⟨fd_sig, D_sig⟩ := c.def_ 3 (d := d_sig) rfl
  have F_sig : Fun K "is_signs" "is_signs" sIsSigns (He.ga K "is_signs") fd_sig := fun_ofD D_sig
  have b_sig := F_sig.binds (ps := ["thing"]) fun _ _ _ _ _ _ us hl => match us, hl with | [_], _ => rfl
  have m_fil : mg "filled_in" = some (.ref (He.ga K "filled_in")) := He.glo_ok X G (c.fact 19 (f := .glo "filled_in") rfl)
  obtain ⟨fd_fil, D_fil⟩ := c.def_ 4 (d := d_fil) rfl
  have F_fil : Fun K "filled_in" "filled_in" sFilled (He.ga K "filled_in") fd_fil := fun_ofD D_fil
  have b_fil := F_fil.binds (ps := ["text", "values"]) fun _ _ _ _ _ _ us hl => match us, hl with | [_, _], _ => rfl
  have m_lai : mg "laid_out" = some (.ref (He.ga K "laid_out")) := He.glo_ok X G (c.fact 20 (f := .glo "laid_out") rfl)
  obtain ⟨fd_lai, D_lai⟩ := c.def_ 5 (d := d_lai) rfl
  have F_lai : Fun K "laid_out" "laid_out" sLaidOut (He.ga K "laid_out") fd_lai := fun_ofD D_lai
  have b_lai := F_lai.binds (ps := ["text", "size"]) fun _ _ _ _ _ _ us hl => match us, hl with | [_, _], _ => rfl
  have m_des : mg "described" = some (.ref (He.ga K "described")) := He.glo_ok X G (c.fact 21 (f := .glo "described") rfl)
  obtain ⟨fd_des, D_des⟩ := c.def_ 6 (d := d_des) rfl
  have F_des : Fun K "described" "described" sDescribed (He.ga K "described") fd_des := fun_ofD D_des
  have b_des := F_des.binds (ps := ["text", "parser", "indent"]) fun _ _ _ _ _ _ us hl => match us, hl with | [_, _, _], _ => rfl
  have m_squ : mg "squeezed" = some (.ref (He.ga K "squeezed")) := He.glo_ok X G (c.fact 22 (f := .glo "squeezed") rfl)
  obtain ⟨fd_squ, D_squ⟩ := c.def_ 7 (d := d_squ) rfl
  have F_squ : Fun K "squeezed" "squeezed" sSqueezed (He.ga K "squeezed") fd_squ := fun_ofD D_squ
  have b_squ := F_squ.binds (ps := ["text"]) fun _ _ _ _ _ _ us hl => match us, hl with | [_], _ => rfl
  have m_tak : mg "taken" = some (.ref (He.ga K "taken")) := He.glo_ok X G (c.fact 23 (f := .glo "taken") rfl)
  obtain ⟨fd_tak, D_tak⟩ := c.def_ 8 (d := d_tak) rfl
  have F_tak : Fun K "taken" "taken" sTaken (He.ga K "taken") fd_tak := fun_ofD D_tak
  have b_tak := F_tak.binds (ps := ["first", "parts", "indent", "size"]) fun _ _ _ _ _ _ us hl => match us, hl with | [_, _, _, _], _ => rfl
  have m_usl : mg "usage_lines" = some (.ref (He.ga K "usage_lines")) := He.glo_ok X G (c.fact 24 (f := .glo "usage_lines") rfl)
  obtain ⟨fd_usl, D_usl⟩ := c.def_ 9 (d := d_usl) rfl
  have F_usl : Fun K "usage_lines" "usage_lines" sUsageLines (He.ga K "usage_lines") fd_usl := fun_ofD D_usl
  have b_usl := F_usl.binds (ps := ["start", "options", "positionals", "size"]) fun _ _ _ _ _ _ us hl => match us, hl with | [_, _, _, _], _ => rfl
  have m_pao : mg "parts_of" = some (.ref (He.ga K "parts_of")) := He.glo_ok X G (c.fact 25 (f := .glo "parts_of") rfl)
  obtain ⟨fd_pao, D_pao⟩ := c.def_ 10 (d := d_pao) rfl
  have F_pao : Fun K "parts_of" "parts_of" sPartsOf (He.ga K "parts_of") fd_pao := fun_ofD D_pao
  have b_pao := F_pao.binds (ps := ["arguments", "exclusives", "layout"]) fun _ _ _ _ _ _ us hl => match us, hl with | [_, _, _], _ => rfl
  have m_ust : mg "usage_text" = some (.ref (He.ga K "usage_text")) := He.glo_ok X G (c.fact 26 (f := .glo "usage_text") rfl)
  obtain ⟨fd_ust, D_ust⟩ := c.def_ 11 (d := d_ust) rfl
  have F_ust : Fun K "usage_text" "usage_text" sUsageText (He.ga K "usage_text") fd_ust := fun_ofD D_ust
  have b_ust := F_ust.binds (ps := ["parser"]) fun _ _ _ _ _ _ us hl => match us, hl with | [_], _ => rfl
  have m_ser : mg "section_rows" = some (.ref (He.ga K "section_rows")) := He.glo_ok X G (c.fact 27 (f := .glo "section_rows") rfl)
  obtain ⟨fd_ser, D_ser⟩ := c.def_ 12 (d := d_ser) rfl
  have F_ser : Fun K "section_rows" "section_rows" sSecRows (He.ga K "section_rows") fd_ser := fun_ofD D_ser
  have b_ser := F_ser.binds (ps := ["section", "parser"]) fun _ _ _ _ _ _ us hl => match us, hl with | [_, _], _ => rfl
  have m_set : mg "section_text" = some (.ref (He.ga K "section_text")) := He.glo_ok X G (c.fact 28 (f := .glo "section_text") rfl)
  obtain ⟨fd_set, D_set⟩ := c.def_ 13 (d := d_set) rfl
  have F_set : Fun K "section_text" "section_text" sSecText (He.ga K "section_text") fd_set := fun_ofD D_set
  have b_set := F_set.binds (ps := ["section", "rows", "column", "parser"]) fun _ _ _ _ _ _ us hl => match us, hl with | [_, _, _, _], _ => rfl
  have m_foh : mg "format_help_helping" = some (.ref (He.ga K "format_help_helping")) := He.glo_ok X G (c.fact 29 (f := .glo "format_help_helping") rfl)
  obtain ⟨fd_foh, D_foh⟩ := c.def_ 14 (d := d_foh) rfl
  have F_foh : Fun K "format_help" "format_help" sFormatHelp (He.ga K "format_help_helping") fd_foh := fun_ofD D_foh
  have b_foh := F_foh.binds (ps := ["parser"]) fun _ _ _ _ _ _ us hl => match us, hl with | [_], _ => rfl
  have m_drw : mg "_law_draw" = some (.ref (He.ga K "_law_draw")) := He.glo_ok X G (c.fact 30 (f := .glo "_law_draw") rfl)
  obtain ⟨fd_drw, D_drw⟩ := c.def_ 15 (d := d_drw) rfl
  have F_drw : Fun K "_law_draw" "_law_draw" sDraw (He.ga K "_law_draw") fd_drw := fun_ofD D_drw
  have b_drw := F_drw.binds (ps := ["_law_stream", "_law_many"]) fun _ _ _ _ _ _ us hl => match us, hl with | [_, _], _ => rfl
  have m_sta : mg "_law_start" = some (.ref (He.ga K "_law_start")) := He.glo_ok X G (c.fact 31 (f := .glo "_law_start") rfl)
  obtain ⟨fd_sta, D_sta⟩ := c.def_ 16 (d := d_sta) rfl
  have F_sta : Fun K "_law_start" "_law_start" sStart (He.ga K "_law_start") fd_sta := fun_ofD D_sta
  have b_sta := F_sta.binds (ps := ["_law_script"]) fun _ _ _ _ _ _ us hl => match us, hl with | [_], _ => rfl
  have m_pck : mg "_law_pick" = some (.ref (He.ga K "_law_pick")) := He.glo_ok X G (c.fact 32 (f := .glo "_law_pick") rfl)
  obtain ⟨fd_pck, D_pck⟩ := c.def_ 17 (d := d_pck) rfl
  have F_pck : Fun K "_law_pick" "_law_pick" sPick (He.ga K "_law_pick") fd_pck := fun_ofD D_pck
  have b_pck := F_pck.binds (ps := ["_law_stream", "_law_some"]) fun _ _ _ _ _ _ us hl => match us, hl with | [_, _], _ => rfl
  have m_wor : mg "_law_words" = some (.ref (He.ga K "_law_words")) := He.glo_ok X G (c.fact 33 (f := .glo "_law_words") rfl)
  obtain ⟨fd_wor, D_wor⟩ := c.def_ 18 (d := d_wor) rfl
  have F_wor : Fun K "_law_words" "_law_words" sLWords (He.ga K "_law_words") fd_wor := fun_ofD D_wor
  have b_wor := F_wor.binds (ps := ["_law_stream"]) fun _ _ _ _ _ _ us hl => match us, hl with | [_], _ => rfl
  have m_lin : mg "_law_lines_right" = some (.ref (He.ga K "_law_lines_right")) := He.glo_ok X G (c.fact 34 (f := .glo "_law_lines_right") rfl)
  obtain ⟨fd_lin, D_lin⟩ := c.def_ 19 (d := d_lin) rfl
  have F_lin : Fun K "_law_lines_right" "_law_lines_right" sLines (He.ga K "_law_lines_right") fd_lin := fun_ofD D_lin
  have b_lin := F_lin.binds (ps := ["_law_rows", "_law_text", "_law_size"]) fun _ _ _ _ _ _ us hl => match us, hl with | [_, _, _], _ => rfl
  have m_law : mg "law" = some (.ref (He.ga K "law")) := He.glo_ok X G (c.fact 35 (f := .glo "law") rfl)
  obtain ⟨fd_law, D_law⟩ := c.def_ 20 (d := d_law) rfl
  have F_law : Fun K "law" "law" sLaw (He.ga K "law") fd_law := fun_ofD D_law
  have b_law := F_law.binds (ps := ["_law_script"]) fun _ _ _ _ _ _ us hl => match us, hl with | [_], _ => rfl
  obtain ⟨fd_secI, D_secI⟩ := c.def_ 21 (d := d_secI) rfl
  have F_secI : Fun K "__init__" "Section.__init__" sSecI (He.ma K (He.ga K "Section") "__init__") fd_secI := fun_ofD D_secI
  have b_secI := F_secI.binds (ps := ["self", "home", "title", "description"]) fun _ _ _ _ _ _ us hl => match us, hl with | [_, _, _, _], _ => rfl
  obtain ⟨fd_pfh, D_pfh⟩ := c.def_ 22 (d := d_pfh) rfl
  have F_pfh : Fun K "format_help" "Parser.format_help" sParFH (He.ma K (He.ga K "Parser") "format_help") fd_pfh := fun_ofD D_pfh
  have b_pfh := F_pfh.binds (ps := ["self"]) fun _ _ _ _ _ _ us hl => match us, hl with | [_], _ => rfl
  have m_Section : mg "Section" = some (.ref (He.ga K "Section")) := He.glo_ok X G (c.fact 36 (f := .glo "Section") rfl)
  have m_Parser : mg "Parser" = some (.ref (He.ga K "Parser")) := He.glo_ok X G (c.fact 37 (f := .glo "Parser") rfl)
  unfold ex at cx
  simp only [Bool.and_eq_true] at cx
  obtain ⟨cn1, cn2⟩ := cx
  obtain ⟨tS, m_STA⟩ := He.str_ok X G (c.fact 38 (f := .str "START" "usage: ") rfl)
  obtain ⟨tn, m_NOS⟩ := He.str_ok X G (c.fact 39 (f := .str "NO_SIGNS" "abcdefghijklmnopqrstuvwxyzABCDEFGHIJKLMNOPQRSTUVWXYZ0123456789 \n=") rfl)
  have cP : ClsN K (He.ga K "Parser") parF := by
    refine ⟨He.cls_ok (c.fact 40 (f := .cls "Parser") rfl), fun f hf => ?_⟩
    simp only [parF, List.mem_cons, List.not_mem_nil, or_false] at hf
    rcases hf with rfl | rfl | rfl | rfl | rfl | rfl | rfl | rfl | rfl | rfl | rfl | rfl | rfl | rfl | rfl | rfl | rfl | rfl | rfl
    · exact He.noat_ok (c.fact 42 (f := .noat "Parser" "prog") rfl)
    · exact He.noat_ok (c.fact 43 (f := .noat "Parser" "usage") rfl)
    · exact He.noat_ok (c.fact 44 (f := .noat "Parser" "description") rfl)
    · exact He.noat_ok (c.fact 45 (f := .noat "Parser" "epilog") rfl)
    · exact He.noat_ok (c.fact 46 (f := .noat "Parser" "layout") rfl)
    · exact He.noat_ok (c.fact 47 (f := .noat "Parser" "width") rfl)
    · exact He.noat_ok (c.fact 48 (f := .noat "Parser" "prefix_chars") rfl)
    · exact He.noat_ok (c.fact 49 (f := .noat "Parser" "file_signs") rfl)
    · exact He.noat_ok (c.fact 50 (f := .noat "Parser" "files") rfl)
    · exact He.noat_ok (c.fact 51 (f := .noat "Parser" "argument_default") rfl)
    · exact He.noat_ok (c.fact 52 (f := .noat "Parser" "conflict_handler") rfl)
    · exact He.noat_ok (c.fact 53 (f := .noat "Parser" "allow_abbrev") rfl)
    · exact He.noat_ok (c.fact 54 (f := .noat "Parser" "exit_on_error") rfl)
    · exact He.noat_ok (c.fact 55 (f := .noat "Parser" "arguments") rfl)
    · exact He.noat_ok (c.fact 56 (f := .noat "Parser" "flags") rfl)
    · exact He.noat_ok (c.fact 57 (f := .noat "Parser" "exclusives") rfl)
    · exact He.noat_ok (c.fact 58 (f := .noat "Parser" "defaults") rfl)
    · exact He.noat_ok (c.fact 59 (f := .noat "Parser" "commands_argument") rfl)
    · exact He.noat_ok (c.fact 60 (f := .noat "Parser" "sections") rfl)
  have mk_Parser : Mk K (He.ga K "Parser") (He.ma K (He.ga K "Parser") "__init__") := He.mkr_ok (c.fact 41 (f := .mkr "Parser") rfl)
  have cS : ClsN K (He.ga K "Section") secF := by
    refine ⟨He.cls_ok (c.fact 61 (f := .cls "Section") rfl), fun f hf => ?_⟩
    simp only [secF, List.mem_cons, List.not_mem_nil, or_false] at hf
    rcases hf with rfl | rfl | rfl | rfl
    · exact He.noat_ok (c.fact 63 (f := .noat "Section" "home") rfl)
    · exact He.noat_ok (c.fact 64 (f := .noat "Section" "title") rfl)
    · exact He.noat_ok (c.fact 65 (f := .noat "Section" "description") rfl)
    · exact He.noat_ok (c.fact 66 (f := .noat "Section" "members") rfl)
  have mk_Section : Mk K (He.ga K "Section") (He.ma K (He.ga K "Section") "__init__") := He.mkr_ok (c.fact 62 (f := .mkr "Section") rfl)
  have mt_add_argument_group : Meth K (He.ga K "Parser") "add_argument_group" (He.ma K (He.ga K "Parser") "add_argument_group") := He.meth_ok (c.fact 67 (f := .meth "Parser" "add_argument_group") rfl)
  have mt_format_help : Meth K (He.ga K "Parser") "format_help" (He.ma K (He.ga K "Parser") "format_help") := He.meth_ok (c.fact 68 (f := .meth "Parser" "format_help") rfl)
  obtain ⟨hP, _⟩ := nilB_ok cn1
  obtain ⟨hL, tL⟩ := nilB_ok cn2
  obtain ⟨fd_add, D_add⟩ := c.def_ 23 (d := d_add) rfl
  obtain ⟨fd_par, D_par⟩ := c.def_ 24 (d := d_parI) rfl
  obtain ⟨ds, vd, b_add⟩ := FunD.binds1 D_add (ps := ["self", "title", "description"]) 3 2 (fun z => nomatch z) rfl fun T kV doc pm an cdv ct us its h1 h2 => match us, its, h1, h2 with | [_, _, _], [_, _], _, _ => ⟨_, rfl, rfl⟩
  cases vd
  have hkbA : ∃ its mv : List Value, KBn K fd_par pParI 2 ["width", "description", "epilog", "add_help"] (fun us ws => gParA us its mv ws) (fun vs zs => gParA vs [.str "program"] [.non, .non, .non, .ref (kwAt ("Parser", some "__init__") "parents" K), .ref (kwAt ("Parser", some "__init__") "layout" K), .int 78, .str "-", .str "", .non, .non, .str "error", .bl true, .bl true, .bl true] zs) := by
    refine XB.kbn D_par (ns := ["self", "prog"]) (ko := ["usage", "description", "epilog", "parents", "layout", "width", "prefix_chars", "fromfile_prefix_chars", "files", "argument_default", "conflict_handler", "add_help", "allow_abbrev", "exit_on_error"]) (ps := pParI) 2 ["width", "description", "epilog", "add_help"] (fun z => nomatch z) (fun z => nomatch z) rfl rfl rfl rfl rfl rfl (by decide) (by show 1 ≤ 2; decide) (by decide +kernel) (by decide +kernel) ?_ (fun a b c d => gParA a b c d) (fun r1 r2 r3 r4 => r1.append ((r3.take 1).append (((r4.drop 1).take 2).append (((r3.drop 3).take 2).append ((r4.take 1).append (((r3.drop 6).take 5).append ((r4.drop 3).append (r3.drop 12)))))))) ?_
    · show ∀ x ∈ (["self", "prog"] : List Str).take (2 - 1), ((["self", "prog"] : List Str).take 2 ++ (["width", "description", "epilog", "add_help"] : List Str)).contains x = true
      decide +kernel
    · intro us its mv ws h1 h2 h3 h4
      match us, its, mv, ws, h1, h2, h3, h4 with
      | [_, _], [_], [_, _, _, _, _, _, _, _, _, _, _, _, _, _], [_, _, _, _], _, _, _, _ => kernel_rfl
  obtain ⟨itskbA, mvkbA, kbA⟩ := hkbA
  have hkbB : ∃ its mv : List Value, KBn K fd_par pParI 2 ["description", "add_help"] (fun us ws => gParB us its mv ws) (fun vs zs => gParB vs [.str "program"] [.non, .non, .non, .ref (kwAt ("Parser", some "__init__") "parents" K), .ref (kwAt ("Parser", some "__init__") "layout" K), .int 78, .str "-", .str "", .non, .non, .str "error", .bl true, .bl true, .bl true] zs) := by
    refine XB.kbn D_par (ns := ["self", "prog"]) (ko := ["usage", "description", "epilog", "parents", "layout", "width", "prefix_chars", "fromfile_prefix_chars", "files", "argument_default", "conflict_handler", "add_help", "allow_abbrev", "exit_on_error"]) (ps := pParI) 2 ["description", "add_help"] (fun z => nomatch z) (fun z => nomatch z) rfl rfl rfl rfl rfl rfl (by decide) (by show 1 ≤ 2; decide) (by decide +kernel) (by decide +kernel) ?_ (fun a b c d => gParB a b c d) (fun r1 r2 r3 r4 => r1.append ((r3.take 1).append ((r4.take 1).append (((r3.drop 2).take 9).append ((r4.drop 1).append (r3.drop 12)))))) ?_
    · show ∀ x ∈ (["self", "prog"] : List Str).take (2 - 1), ((["self", "prog"] : List Str).take 2 ++ (["description", "add_help"] : List Str)).contains x = true
      decide +kernel
    · intro us its mv ws h1 h2 h3 h4
      match us, its, mv, ws, h1, h2, h3, h4 with
      | [_, _], [_], [_, _, _, _, _, _, _, _, _, _, _, _, _, _], [_, _], _, _, _, _ => kernel_rfl
  obtain ⟨itskbB, mvkbB, kbB⟩ := hkbB
  have e := hfa.symm.trans m_law
  cases e
  refine ⟨fd_law, fun s v => ?_, fun base _ _ => ?_⟩
  · exact FunD.bindsA (ps := ["_law_script"]) D_law (fun _ _ _ _ _ _ us hl => match us, hl with | [_], _ => rfl) s [v] rfl
  have A_cop : At P w K mg base "copied" 4 ["value"] (spCop 3) _ fd_cop := ⟨okCop F_cop B m_cop F_cop.kp b_cop 3, m_cop, F_cop.kp, b_cop⟩
  have A_isr : At P w K mg base "is_row" 1 ["thing"] (spIsRow K) _ fd_isr := ⟨ok_isRow F_isr B, m_isr, F_isr.kp, b_isr⟩
  have A_isi : At P w K mg base "is_integer" 1 ["thing"] (spIsInt K) _ fd_isi := ⟨ok_isInt F_isi B, m_isi, F_isi.kp, b_isi⟩
  have g_secI := ok_secI (P := P) (w := w) (mg := mg) (base := base) F_secI cS
  have A_sig : At P w K mg base "is_signs" 1 ["thing"] spSigns _ fd_sig := ⟨ok_signs F_sig B z_str z_any m_NOS (by decide +kernel), m_sig, F_sig.kp, b_sig⟩
  have g_par : FnOk P w K mg base CX0 5 (He.ma K (He.ga K "Parser") "__init__") fd_par pParI (spParI (He.ga K "Parser") (He.ga K "Section") (kwAt ("Parser", some "__init__") "parents" K) (kwAt ("Parser", some "__init__") "layout" K)) := ok_parI D_par B z_str cP hP hL tL A_isr A_isi A_sig A_cop m_Section mk_Section g_secI b_secI
  have A_fil : At P w K mg base "filled_in" 2 ["text", "values"] spFill _ fd_fil := ⟨ok_fill F_fil B, m_fil, F_fil.kp, b_fil⟩
  have A_lai : At P w K mg base "laid_out" 1 ["text", "size"] spLaid _ fd_lai := ⟨ok_laid F_lai B z_max, m_lai, F_lai.kp, b_lai⟩
  have A_des : At P w K mg base "described" 3 ["text", "parser", "indent"] (spDesc K (He.ga K "Parser")) _ fd_des := ⟨ok_desc F_des B z_max cP A_fil A_lai, m_des, F_des.kp, b_des⟩
  have A_squ : At P w K mg base "squeezed" 1 ["text"] spSq _ fd_squ := ⟨ok_sq F_squ, m_squ, F_squ.kp, b_squ⟩
  have A_tak : At P w K mg base "taken" 1 ["first", "parts", "indent", "size"] spTaken0 _ fd_tak := ⟨ok_taken0 F_tak, m_tak, F_tak.kp, b_tak⟩
  have A_usl : At P w K mg base "usage_lines" 2 ["start", "options", "positionals", "size"] spLines0 _ fd_usl := ⟨ok_lines0 F_usl B m_STA A_tak, m_usl, F_usl.kp, b_usl⟩
  have A_pao : At P w K mg base "parts_of" 1 ["arguments", "exclusives", "layout"] spParts0 _ fd_pao := ⟨ok_parts0 F_pao B, m_pao, F_pao.kp, b_pao⟩
  have A_ust : At P w K mg base "usage_text" 3 ["parser"] (spUsage0 K (He.ga K "Parser")) _ fd_ust := ⟨ok_usage0 F_ust B cP m_STA A_pao A_usl, m_ust, F_ust.kp, b_ust⟩
  have A_ser : At P w K mg base "section_rows" 1 ["section", "parser"] (spRows0 (He.ga K "Section")) _ fd_ser := ⟨ok_rows0 F_ser cS, m_ser, F_ser.kp, b_ser⟩
  have A_set : At P w K mg base "section_text" 4 ["section", "rows", "column", "parser"] (spSecT K (He.ga K "Parser") (He.ga K "Section")) _ fd_set := ⟨ok_secT F_set cS A_des, m_set, F_set.kp, b_set⟩
  have A_foh : At P w K mg base "format_help_helping" 5 ["parser"] (spFH K (He.ga K "Parser") (He.ga K "Section")) _ fd_foh := ⟨ok_fh F_foh B z_max z_min cP cS A_ser A_ust A_des A_set A_squ, m_foh, F_foh.kp, b_foh⟩
  have g_pfh : FnOk P w K mg base CX0 6 (He.ma K (He.ga K "Parser") "format_help") fd_pfh ["self"] (spFH K (He.ga K "Parser") (He.ga K "Section")) := ok_pfh F_pfh A_foh
  have g_add : FnOk P w K mg base CX0 5 (He.ma K (He.ga K "Parser") "add_argument_group") fd_add ["self", "title", "description"] (spAddG (He.ga K "Parser") (He.ga K "Section")) := ok_addG D_add cP m_Section mk_Section g_secI b_secI
  have A_drw : At P w K mg base "_law_draw" 1 ["_law_stream", "_law_many"] spDraw _ fd_drw := ⟨ok_draw F_drw B, m_drw, F_drw.kp, b_drw⟩
  have A_sta : At P w K mg base "_law_start" 1 ["_law_script"] (spStart K) _ fd_sta := ⟨ok_start F_sta B, m_sta, F_sta.kp, b_sta⟩
  have A_pck : At P w K mg base "_law_pick" 2 ["_law_stream", "_law_some"] spPick _ fd_pck := ⟨ok_pick F_pck B A_drw.ok m_drw F_drw.kp b_drw, m_pck, F_pck.kp, b_pck⟩
  have A_wor : At P w K mg base "_law_words" 3 ["_law_stream"] spWords _ fd_wor := ⟨ok_words F_wor B A_drw A_pck, m_wor, F_wor.kp, b_wor⟩
  have A_lin : At P w K mg base "_law_lines_right" 1 ["_law_rows", "_law_text", "_law_size"] spLR _ fd_lin := ⟨ok_lines F_lin B z_any, m_lin, F_lin.kp, b_lin⟩
  exact ok_law F_law ⟨B, z_max, z_any, ⟨_, _, A_sta⟩, ⟨_, _, A_drw⟩, ⟨_, _, A_wor⟩, ⟨_, _, A_lin⟩, m_Parser, cP, hL, ⟨_, _, mk_Parser, g_par, ⟨_, _, kbA, fun _ _ _ _ _ _ => rfl⟩, _, _, kbB, fun _ _ _ _ => rfl⟩, ⟨_, _, g_add, mt_add_argument_group, b_add⟩, ⟨_, _, g_pfh, mt_format_help, b_pfh⟩⟩
end K45

open PySem PySem.W PySem.Calls PyProof.Rows
theorem PySem.Challenge.cw_optwright_k45_descriptions_and_epilogs_holds : PySem.Challenge.rw_optwright_k45_descriptions_and_epilogs.Holds := by
  refine K45.head K45.run ?_
  refine L2.walk_ofE (l := PySem.Challenge.rw_optwright_k45_descriptions_and_epilogs) (n := 63) (k := 7) (x := "_law_script") (CX := L2.CX0) rfl (by decide) (by kernel_rfl) ⟨rfl, by decide, by decide⟩ ?F (fun _ _ _ _ z => z)
  intro w mg fa h Y G hmg0
  obtain ⟨K, KX, c, cx⟩ := Y
  have hmg : mg ("law" : PySem.Str) = some (.ref fa) := by
    have e : (HandSHeadRun.topDef (OpenLaw.row PySem.Challenge.rw_optwright_k45_descriptions_and_epilogs).prog 92).name = ("law" : PySem.Str) := by kernel_rfl
    rw [← e]
    exact hmg0
  obtain ⟨fd, hb, hF⟩ := K45.facts (P := (PySem.Challenge.rw_optwright_k45_descriptions_and_epilogs).prog) (w := w) KX G hmg c cx
  exact ⟨K, fd, K45.spLaw K, KX, hb, fun H a ns hl _ hS => ⟨a, ns, rfl, hS, fun _ => rfl⟩, hF⟩

