import PyProof.Rows.All
import Wide.All
import OpenK.AllK
import Wide.FinOn
import HandS.Base
import HandS.Call
import HandS.List
import HandS.Comp
import HandS.Dict
import HandS.Words
import KE.KEqDict
import PySem.Challenge.RW_optwright_k01_letters_told
import HandS.IsInst
import HandS.Zip
import HandS.Walk
import HandS.Style
import HandS.Iter
import HandS.StrMore
import HandS.Text
import KE.GoesMore
import HandS.WordsDict
import HandS.Defaults
import HandS.MakeKwOnly
import KE.KRevSl
import HandS.Steps
import HandS.WordsExc
import HandS.TryOnly
import HandS.Head0
import HandS.Head1
import HandS.Head2
import HandS.HeadEnd
import HandS.HeadHook1
import HandS.HeadHook2
import HandS.HeadHook3
import HandS.HeadHook4
set_option Elab.async false
set_option linter.all false
set_option maxRecDepth 100000
set_option maxHeartbeats 0
namespace L2
open PySem PySem.Spec PyProof.Rows
/-- what == of two dicts tells, by their data -/
def eqHits (ld : List (Key × PyData)) : List (Key × PyData) → Bool
  | [] => true
  | (k, d) :: r => match (ld.find? fun kv => decide (kv.1 = k)).map (·.2) with
    | none => false
    | some e => PyData.eqv d e && eqHits ld r
/-- a dict's values by their data -/
def DPairs (K : PySem.W.Frag) (H : Hp) : List (Key × V) → List (Key × PyData) → Prop := Paired fun p q => p.1 = q.1 ∧ Dp K H p.2 q.2 ∧ SeqAt.shaped q.2 = true
theorem DPairs.val {K : PySem.W.Frag} {H : Hp} {ls : List (Key × V)} {ld : List (Key × PyData)} (r : DPairs K H ls ld) (k : Key) :
    (valV ls k = none ∧ (ld.find? fun kv => decide (kv.1 = k)).map (·.2) = none) ∨ ∃ v e, valV ls k = some v ∧ (ld.find? fun kv => decide (kv.1 = k)).map (·.2) = some e ∧ Dp K H v e ∧ SeqAt.shaped e = true := by
  unfold DPairs at r
  unfold valV
  induction r with
  | nil => exact .inl ⟨rfl, rfl⟩
  | @cons p q ps qs h t ih =>
    obtain ⟨h1, h2, h3⟩ := h
    rw [List.find?_cons, List.find?_cons, ← h1]
    by_cases e : p.1 = k
    · rw [decide_eq_true e]
      exact .inr ⟨p.2, q.2, rfl, rfl, h2, h3⟩
    · rw [decide_eq_false e]
      exact ih
section
variable {X : Cx} {pins : List (Addr × Obj)} {σ : St} {H : Hp} {s : Shared}
theorem hits_of (I : Inv X pins σ H s) {A : Around} (hu : A.in1.units + 64 < cLine) {ls : List (Key × V)} {ld : List (Key × PyData)} (rl : DPairs X.K H ls ld) {vb : List (Key × Value)} (rb : KV ls vb) {ks : List (Key × V)} {kd : List (Key × PyData)} (rk : DPairs X.K H ks kd) :
    ∀ {va : List (Key × Value)}, KV ks va → PySem.W.KeqHits A.in1 s vb va (eqHits ld kd) := by
  unfold DPairs at rk
  induction rk with
  | nil =>
    intro va ra
    cases ra
    exact .nil
  | @cons p q ps qs h t ih =>
    intro va ra
    cases ra with
    | @cons _ u _ us r1 r2 =>
      obtain ⟨key, v⟩ := u
      obtain ⟨pk, pv'⟩ := p
      obtain ⟨qk, qd⟩ := q
      obtain ⟨h1, h2, h3⟩ := h
      obtain ⟨e1, rv⟩ := r1
      dsimp only at h1 h2 h3 e1 rv
      subst h1
      subst e1
      have rr := rb.val pk
      show PySem.W.KeqHits A.in1 s vb ((pk, v) :: us) (match (ld.find? fun kv => decide (kv.1 = pk)).map (·.2) with
        | none => false
        | some e => PyData.eqv qd e && eqHits ld qs)
      rcases rl.val pk with ⟨n1, n2⟩ | ⟨y, e, s1, s2, s3, s4⟩
      · rw [n2]
        rw [n1] at rr
        refine .miss ?_
        cases hz : valueAt vb pk with
        | none => rfl
        | some z =>
          rw [hz] at rr
          exact rr.elim
      · rw [s2]
        rw [s1] at rr
        obtain ⟨yu, hy, ry⟩ := rr.some_of
        obtain ⟨as, q1⟩ := Dp.reads I qd pv' v h2 rv
        obtain ⟨bs, q2⟩ := Dp.reads I e y yu s3 ry
        exact .hit hy (PySem.W.keq_at q1 q2 h3 s4 hu) (ih r2)
end
section
variable {X : Cx}
/-- a == b of two dicts of data -/
def rEqDD (K : PySem.W.Frag) : R2 := fun x y H Q => ∃ a b ks ls kd ld, x = .ref a ∧ y = .ref b ∧ H a = some (.dK ks) ∧ H b = some (.dK ls) ∧ DPairs K H ks kd ∧ DPairs K H ls ld ∧ Q (.bl (kd.length == ld.length && eqHits ld kd)) H
theorem op_eqDD (hu : X.A.units + 70 < cLine) : OpR X (compareOp .Eq) (rEqDD X.K) := by
  intro pins s σ H x y v u Q I rx ry h
  obtain ⟨a, b, ks, ls, kd, ld, rfl, rfl, ha, hb, dk, dl, q⟩ := h
  cases rx
  cases ry
  obtain ⟨_, ya, va, ra, da⟩ := (show ObjOk X.prog X.w H s.heap a (.dK ks) from I.hok a _ ha)
  obtain ⟨_, yb, vb, rb, db⟩ := (show ObjOk X.prog X.w H s.heap b (.dK ls) from I.hok b _ hb)
  show wpAny (model X.prog X.w) X.A (richCompare .Eq (.ref a) (.ref b)) (EP X pins σ Q) X.xe s
  refine PySem.W.keq_eq (knd := mixKind X.prog X.w) (r := eqHits ld kd) ya yb da db (by omega) (fun _ => hits_of I (by show X.A.units + 1 + 64 < cLine; omega) dl rb dk ra) ?_
  have e1 : va.length = kd.length := by rw [← ra.length]; exact Paired.length dk
  have e2 : vb.length = ld.length := by rw [← rb.length]; exact Paired.length dl
  rw [e1, e2]
  exact ⟨.bl _, H, I, rfl, q⟩
/-- what stands right of an own == -/
inductive TyE (H : Hp) : V → Value → Prop where
  | ins {b C dy : Addr} {gs : List (Str × V)} (h : H b = some (.ins C dy gs)) : TyE H (.ref b) (.ref C)
  | lst {b : Addr} {xs : List V} (h : H b = some (.lst xs)) : TyE H (.ref b) (.type "list")
  | dct {b : Addr} {kvs : List (Key × V)} (h : H b = some (.dK kvs)) : TyE H (.ref b) (.type "dict")
theorem looks_obj {M : Model} {h : Heap} {a : Addr} {o : Obj} (e : h.get? a = some o) : PySem.W.Looks M h (typeOf (.ref a)) o.cls := (PySem.W.Looks.ld e).andThen .now
/-- x == y, x an instance of the class at C with its own == -/
def rOwnEq (K : PySem.W.Frag) (C : Addr) (sp : Sp) : R2 := fun x y H Q => ∃ a dx fs tb, x = .ref a ∧ H a = some (.ins C dx fs) ∧ TyE H y tb ∧ PySem.W.notFirst K C tb = true ∧ sp [x, y] H (fun v H' => ∃ b, v = .bl b ∧ Q v H') (fun _ _ _ => False)
theorem op_ownEq {CX : CXT} {n : Nat} {C f : Addr} {fd : FuncData} {ps : List Str} {sp : Sp} (F : FnOk X.prog X.w X.K X.mg X.base CX n f fd ps sp) (hr : Room n X.A)
    (hs : PySem.W.findIn X.K (.ref C) "__eq__" = some (some (.ref f))) (hf : PySem.W.isFn X.K (.ref f) = true) (hb : Binds X.K fd ps []) (hx : Passes CX X (fun _ _ _ => False)) : OpR X (compareOp .Eq) (rOwnEq X.K C sp) := by
  intro pins s σ H x y u v Q I rx ry h
  obtain ⟨a, dx, fs, tb, rfl, ha, ty, nf, hsp⟩ := h
  cases rx
  obtain ⟨mA, J, _⟩ := ins_get I.hok ha
  obtain ⟨od, J, _⟩ := J.look
  obtain ⟨m, hF⟩ := I.fr
  have hty : PySem.W.Looks (model X.prog X.w) s.heap (typeOf v) tb := by
    cases ty with
    | @ins b C dy gs hb' =>
      cases ry
      obtain ⟨mB, J', _⟩ := ins_get I.hok hb'
      obtain ⟨od', J', _⟩ := J'.look
      exact J'.type
    | @lst b xs e =>
      cases ry
      obtain ⟨_, _, n, _, h1⟩ := (show ObjOk X.prog X.w H s.heap b (.lst xs) from I.hok b _ e)
      exact looks_obj h1
    | @dct b kvs e =>
      cases ry
      obtain ⟨_, _, vs, _, o, es, ep, h1, h2, _⟩ := (show ObjOk X.prog X.w H s.heap b (.dK kvs) from I.hok b _ e)
      rw [← h2.1]
      exact looks_obj h1
  show wpAny (model X.prog X.w) X.A (richCompare .Eq (.ref a) v) (EP X pins σ Q) X.xe s
  refine PySem.W.cmp_K (op := .Eq) (tb := tb) hr.units0 hF I.ok.mod.kin J hty nf hs hf ?_
  have hl := F.len _ _ _ _ hsp
  have r2 : Vals [V.ref a, y] [Value.ref a, v] := .cons rfl (.cons ry .nil)
  refine wpAny_call (codeAny_mono (F.run X.A X.stack s H ⟨[.ref a, v], []⟩ [.ref a, v] [.ref a, y] _ _ hr I.env0 (by
    have := hb s [.ref a, v] I.kIn (by simpa using hl)
    simpa using this) r2 hsp) fun r s' hq => ?_)
  cases r with
  | error e => exact hx pins σ H s e s' I hq
  | ok fl =>
    cases fl with
    | ret w =>
      obtain ⟨z, H', I', rz, b, ez, ex⟩ := I.after hq
      subst ez
      cases rz
      exact ⟨.bl b, H', I', rfl, ex⟩
    | next => exact False.elim hq
    | brk => exact False.elim hq
    | cont => exact False.elim hq
/-- a walk over a list or a tuple -/
def iLT (wa wb : TI) : TI := fun σ H R => wa σ H R ∨ wb σ H R
theorem pi_or {tg it : Expr} {wa wb : TI} (ha : PI X tg it wa) (hb : PI X tg it wb) : PI X tg it (iLT wa wb) :=
  ⟨fun pins s σ H R I h => h.elim (ha.run pins s σ H R I) (hb.run pins s σ H R I)⟩
end
end L2

namespace K01
open PySem L2
/-! ### the text by places -/
def top (i : Nat) : Stmt := PySem.Challenge.pw_optwright_k01_letters_told.main.body.getD i (.Pass ⟨0, 0, 0, 0⟩)
abbrev sIsInt : Stmt := top 11
abbrev sIsRow : Stmt := top 12
abbrev sIsVal : Stmt := top 13
abbrev sCop : Stmt := top 14
abbrev sIsKind : Stmt := top 15
abbrev sMeantBy : Stmt := top 31
abbrev sKeys : Stmt := top 48
abbrev sIsFlag : Stmt := top 49
abbrev sHasGap : Stmt := top 50
abbrev sChkFlags : Stmt := top 51
abbrev sNamed : Stmt := top 52
abbrev sFits : Stmt := top 54
abbrev sChkWords : Stmt := top 55
abbrev sChkOpts : Stmt := top 56
abbrev sDflt : Stmt := top 57
abbrev sMadeArg : Stmt := top 58
abbrev sIsSigns : Stmt := top 83
abbrev sModel : Stmt := top 86
abbrev sRFlags : Stmt := top 87
abbrev sRMeant : Stmt := top 89
abbrev sRKind : Stmt := top 93
abbrev sPutO : Stmt := top 97
abbrev sPut : Stmt := top 98
abbrev sDraw : Stmt := top 100
abbrev sStart : Stmt := top 101
abbrev sPick : Stmt := top 102
abbrev sMixed : Stmt := top 103
abbrev sSame : Stmt := top 104
abbrev sLaw : Stmt := top 105
abbrev sLines : Stmt := top 28
abbrev sExpanded : Stmt := top 29
abbrev sAreD : Stmt := top 32
abbrev sIsNum : Stmt := top 33
abbrev sLetOf : Stmt := top 34
abbrev sLetsOf : Stmt := top 35
abbrev sLetters : Stmt := top 37
abbrev sWbf : Stmt := top 38
abbrev sROption : Stmt := top 88
abbrev sRIsNum : Stmt := top 90
abbrev sRLetter : Stmt := top 91
abbrev sRLetters : Stmt := top 92
abbrev sRDrawn : Stmt := top 94
abbrev sRSome : Stmt := top 95
abbrev sRLine : Stmt := top 96
abbrev sRMade : Stmt := top 99
abbrev sArgI : Stmt := inClass (top 47) 0
abbrev sSecI : Stmt := inClass (top 78) 0
abbrev sParI : Stmt := inClass (top 84) 0
abbrev sAdd : Stmt := inClass (top 84) 2
abbrev sAddTo : Stmt := inClass (top 84) 3
abbrev sJoin : Stmt := inClass (top 84) 4
abbrev sTake : Stmt := inClass (top 84) 5
/-! ### what is never reached -/
theorem pss_never {X : Cx} {ss : List Stmt} : PSs X ss (fun _ _ _ => False) := ⟨fun _ _ _ _ _ _ h => h.elim⟩
theorem ps_never {X : Cx} {st : Stmt} : PS X st (fun _ _ _ => False) := ⟨fun _ _ _ _ _ _ h => h.elim⟩
theorem pe_never {X : Cx} {e : Expr} : PE X e (fun _ _ _ => False) := ⟨fun _ _ _ _ _ _ h => h.elim⟩
/-! ### cut: a statement, then the rest, with a word between them -/
def tMid (t u : TS) : TS := fun D σ H => ∃ M : St → Hp → Prop, t { D with nx := M } σ H ∧ ∀ σ' H', M σ' H' → u D σ' H'
theorem pss_mid {X : Cx} {st : Stmt} {rest : List Stmt} {t u : TS} (h1 : PS X st t) (h2 : PSs X rest u) : PSs X (st :: rest) (tMid t u) := by
  refine ⟨fun pins s σ H D I h => ?_⟩
  rcases h with ⟨M, hm, hu⟩
  refine wpAny_execs_cons (thn (h1.run pins s σ H _ I hm) fun fl s1 q => ?_)
  cases fl <;> first
    | exact q
    | (obtain ⟨σ1, H1, I1, q1⟩ := q
       exact h2.run pins s1 σ1 H1 D I1 (hu σ1 H1 q1))
/-! ### the stream -/
/-- a stream of draws at st, its cells at cl, n draws made -/
structure Strm (H : Hp) (st cl : Addr) (n : Nat) : Prop where
  ex : ∃ (c a : Int) (ns : List Int), H st = some (.lst [.ref cl, .int c, .int (n : Int), .int a]) ∧ H cl = some (.lst (ns.map V.int)) ∧ 0 ≤ a ∧ a < 2147483647 ∧ 0 ≤ c
/-- all but what stands at two places is kept -/
def Kp2 (a b : Addr) (H H' : Hp) : Prop := ∀ q o, H q = some o → q ≠ a → q ≠ b → H' q = some o
theorem Strm.ne {H : Hp} {st cl : Addr} {n : Nat} (S : Strm H st cl n) : st ≠ cl := by
  obtain ⟨c, a, ns, h1, h2, _⟩ := S.ex
  refine ne_of h1 h2 fun e => ?_
  have e2 : [V.ref cl, .int c, .int (n : Int), .int a] = ns.map V.int := HO.lst.inj e
  cases ns with
  | nil => cases e2
  | cons x xs => cases (List.cons.inj e2).1
def SAt (H : Hp) (st cl : Addr) (c : Int) (n : Nat) (a : Int) (ns : List Int) : Prop := H st = some (.lst [.ref cl, .int c, .int (n : Int), .int a]) ∧ H cl = some (.lst (ns.map V.int)) ∧ 0 ≤ a ∧ a < 2147483647 ∧ 0 ≤ c
theorem fmod_lo {i j : Int} (h : 0 < j) : 0 ≤ i.fmod j := by
  rw [Int.fmod_eq_emod_of_nonneg _ (by omega)]
  exact Int.emod_nonneg _ (by omega)
theorem fmod_hi {i j : Int} (h : 0 < j) : i.fmod j < j := by
  rw [Int.fmod_eq_emod_of_nonneg _ (by omega)]
  exact Int.emod_lt_of_pos _ h
theorem fdiv_nn {i j : Int} (h : 0 ≤ i) (hj : 0 < j) : 0 ≤ i.fdiv j := by
  rw [Int.fdiv_eq_ediv_of_nonneg _ (by omega)]
  exact Int.ediv_nonneg h (by omega)
theorem seq0 {α : Type} (x : α) (xs : List α) : seqIndex? 0 (x :: xs).length = some 0 := by
  unfold seqIndex?
  simp
def spDraw : Sp := fun vs H Q _ => ∃ (st cl : Addr) (n : Nat) (m : Int), vs = [.ref st, .int m] ∧ Strm H st cl n ∧ 0 < m ∧ m < 1000000 ∧ n ≤ 100000 ∧
  ∀ (k : Int) (H' : Hp), 0 ≤ k → k < m → Strm H' st cl (n + 1) → Kp2 st cl H H' → Q (.int k) H'
/-- names of the top that the walk asks -/
structure TxtB (mg : Str → Option Value) : Prop where
  int : mg "int" = none
  list : mg "list" = none
  tuple : mg "tuple" = none
  len : mg "len" = none
  isinstance : mg "isinstance" = none
  dict : mg "dict" = none
  sorted : mg "sorted" = none
  all : mg "all" = none
  zip : mg "zip" = none
  range : mg "range" = none
  bool : mg "bool" = none
theorem shaped_ints (ns : List Int) : SeqAt.shaped (.list (ns.map PyData.int)) = true := PySem.W.shaped_ints ns
theorem dpAll_ints {K : PySem.W.Frag} {H : Hp} : ∀ ns : List Int, DpAll K H (ns.map V.int) (ns.map PyData.int)
  | [] => .nil
  | n :: ns => .cons (.int n) (dpAll_ints ns)
section
variable {P : Program} {w : World} {K : PySem.W.Frag} {mg : Str → Option Value} {base : Heap}
theorem scDraw : FnScope ["_law_stream", "_law_many", "_law_digit", "_law_mixed_here"] ["_law_stream", "_law_many"] (defScope sDraw) := ⟨rfl, rfl, rfl, by decide +kernel, rfl, by decide +kernel, by decide +kernel⟩
theorem ok_draw {f : Addr} {fd : FuncData} (F : Fun K "_law_draw" "_law_draw" sDraw f fd) (T : TxtB mg) : FnOk P w K mg base CX0 1 f fd ["_law_stream", "_law_many"] spDraw := by
  refine F.ok scDraw (fun vs H Q E h => ?_) (fun cdv A outer s H vs Q E hr h => ?_)
  · obtain ⟨st, cl, n, m, rfl, _⟩ := h
    rfl
  · obtain ⟨st, cl, n, m, rfl, S, m0, m1, hn, k⟩ := h
    have ne := S.ne
    obtain ⟨c, a, ns, h1, h2, a0, a1, c0⟩ := S.ex
    have hu : (Cx.A (cxOf CX0 P w K mg base ["_law_stream", "_law_many", "_law_digit", "_law_mixed_here"] "_law_draw" (defScope sDraw) f cdv A outer s H E)).units + 64 < cLine := hr.units
    refine ⟨_, pss_mid (ps_asg (pe_op op_add (pe_ix ix_list (pv 0) pe_int (fun _ _ => rfl)) pe_int) (pg_sub (pv 0) pe_int set_list))
      (pss_mid (ps_if (PW.pt (pw_and (pt_cmpR op_eq (pe_ix ix_list (pv 0) pe_int (fun _ _ => rfl)) pe_int (nomark _)) (pw_and1 (pt_cmpR (op_neD hu) (pe_ix ix_list (pv 0) pe_int (fun _ _ => rfl)) (pe_lst pa_nil) (nomark _)))))
        (pss_mid (ps_asg (pe_bm PySem.F.plainAttrs_list PySem.F.slot_list_pop PySem.F.type_list_pop mt_popAt (pe_ix ix_list (pv 0) pe_int (fun _ _ => rfl)) (pa_cons pe_int pa_nil)) (pg_sub (pv 0) pe_int set_list))
          (pss_one (ps_if (pt_cmpR op_lt (pe_ix ix_list (pv 0) pe_int (fun _ _ => rfl)) (pe_op op_pow pe_int pe_int) (nomark _))
            (pss_mid (ps_asg (pe_op op_modN (pe_callTy call_int1 (by rfl) T.int (by decide +kernel) (pa_cons (pe_op op_add (pe_op op_add (pe_op op_mul (pe_ix ix_list (pv 0) pe_int (fun _ _ => rfl)) pe_int) (pe_ix ix_list (pv 0) pe_int (fun _ _ => rfl))) pe_int) pa_nil)) pe_int) (pg_sub (pv 0) pe_int set_list))
              (pss_one (ps_asg pe_int (pg_sub (pv 0) pe_int set_list)))) pss_nil))) pss_nil)
      (pss_cons (ps_if (pt_cmpR op_gt (pe_ix ix_list (pv 0) pe_int (fun _ _ => rfl)) pe_int (nomark _))
        (pss_cons (ps_set (i := 2) scDraw.nd rfl (Or.inl rfl) (pe_op op_modN (pe_callTy call_int1 (by rfl) T.int (by decide +kernel) (pa_cons (pe_ix ix_list (pv 0) pe_int (fun _ _ => rfl)) pa_nil)) (pv 1)))
          (pss_cons (ps_asg (pe_op op_fdivN (pe_ix ix_list (pv 0) pe_int (fun _ _ => rfl)) (pv 1)) (pg_sub (pv 0) pe_int set_list)) (pss_one (ps_ret (pv 2))))) pss_nil)
      (pss_cons (ps_set (i := 3) scDraw.nd rfl (Or.inl rfl) (pe_op op_modN (pe_op op_pow (pe_op op_add (pe_op op_add (pe_ix ix_list (pv 0) pe_int (fun _ _ => rfl)) (pe_op op_mul pe_int (pe_ix ix_list (pv 0) pe_int (fun _ _ => rfl)))) pe_int) pe_int) pe_int))
      (pss_one (ps_ret (pe_op op_modN (pe_op op_modN (pe_op op_pow (pe_op op_add (pe_op op_add (pe_op op_mul (pv 3) pe_int) (pe_op op_mul (pe_op op_mul pe_int (pe_ix ix_list (pv 0) pe_int (fun _ _ => rfl))) (pe_ix ix_list (pv 0) pe_int (fun _ _ => rfl)))) pe_int) pe_int) pe_int) (pv 1))))))), ?_⟩
    -- stream[2] = stream[2] + 1
    refine ⟨fun σ' H' => σ' = [some (.ref st), some (.int m), none, none] ∧ Kp2 st cl H H' ∧ SAt H' st cl c (n + 1) a ns, ?_, ?_⟩
    · refine ⟨_, rfl, st, _, _, _, rfl, rfl, SqL.of h1, rfl, _, _, rfl, rfl, _, rfl, st, _, _, 2, rfl, rfl, h1, rfl, rfl, ?_, upd_same, ?_, a0, a1, c0⟩
      · intro q o e n1 n2
        rw [upd_ne n1]
        exact e
      · rw [upd_ne ne.symm]
        exact h2
    rintro _ G ⟨rfl, gk, g1, g2, _, _, _⟩
    -- the cell
    refine ⟨fun σ' H' => σ' = [some (.ref st), some (.int m), none, none] ∧ Kp2 st cl H H' ∧ ∃ (c a : Int) (ns : List Int), SAt H' st cl c (n + 1) a ns, ?_, ?_⟩
    · refine ⟨_, rfl, st, _, _, _, rfl, rfl, SqL.of g1, rfl, rfl, _, rfl, ?_⟩
      refine ite2 (fun hc => ?_) (fun hc => ?_)
      · have c0' : c = 0 := by simpa using hc
        refine ⟨_, rfl, st, _, _, _, rfl, rfl, SqL.of g1, rfl, Nat.zero_le _, fun p hp => ?_⟩
        have np : st ≠ p := ne_of_none g1 hp
        have np2 : cl ≠ p := ne_of_none g2 hp
        have q1 : (upd G p (.lst [])) st = some (.lst [.ref cl, .int c, .int ((n + 1 : Nat) : Int), .int a]) := by rw [upd_ne np]; exact g1
        have q2 : (upd G p (.lst [])) cl = some (.lst (ns.map V.int)) := by rw [upd_ne np2]; exact g2
        have qk : Kp2 st cl H (upd G p (.lst [])) := fun q o e n1 n2 => by
          have e1 := gk q o e n1 n2
          rw [upd_ne (ne_of_none e1 hp)]
          exact e1
        refine ⟨_, _, .lst (SqL.of q2) (dpAll_ints ns), .lst (SqL.of upd_same) .nil, shaped_ints ns, by decide, _, rfl, ?_⟩
        cases ns with
        | nil => exact iteF ⟨rfl, qk, c, a, [], q1, q2, a0, a1, c0⟩
        | cons z zs =>
          refine iteT ?_
          generalize upd G p (.lst []) = G1 at q1 q2 qk
          -- stream[1] = stream[0].pop(0)
          refine ⟨fun σ' H' => σ' = [some (.ref st), some (.int m), none, none] ∧ Kp2 st cl H H' ∧ H' st = some (.lst [.ref cl, .int z, .int ((n + 1 : Nat) : Int), .int a]) ∧ H' cl = some (.lst (zs.map V.int)), ?_, ?_⟩
          · refine ⟨_, rfl, st, _, _, _, rfl, rfl, SqL.of q1, rfl, .inl ⟨rfl, _, SqL.of q2⟩, cl, _, 0, 0, .int z, rfl, rfl, q2, by decide, by decide, seq0 _ _, rfl, _, rfl, st, _, _, 1, rfl, rfl, (by rw [upd_ne ne]; exact q1), rfl, rfl, ?_, upd_same, ?_⟩
            · intro q o e n1 n2
              rw [upd_ne n1, upd_ne n2]
              exact qk q o e n1 n2
            · rw [upd_ne ne.symm, upd_same]
              rfl
          rintro _ G2 ⟨rfl, k2, u1, u2⟩
          refine ⟨_, rfl, st, _, _, _, rfl, rfl, SqL.of u1, rfl, _, _, rfl, rfl, ⟨by decide, by decide, by decide⟩, _, _, rfl, rfl, _, rfl, ?_⟩
          refine ite2 (fun hz => ?_) (fun hz => ?_)
          · refine ⟨fun σ' H' => σ' = [some (.ref st), some (.int m), none, none] ∧ Kp2 st cl H H' ∧ H' cl = some (.lst (zs.map V.int)) ∧ ∃ b, 0 ≤ b ∧ b < 2147483647 ∧ H' st = some (.lst [.ref cl, .int z, .int ((n + 1 : Nat) : Int), .int b]), ?_, ?_⟩
            · refine ⟨_, rfl, st, _, _, _, rfl, rfl, SqL.of u1, rfl, _, _, rfl, rfl, .inr ⟨by decide, by decide⟩, _, rfl, st, _, _, _, rfl, rfl, SqL.of u1, rfl, _, _, rfl, rfl, _, _, rfl, rfl, .inl ⟨_, rfl, _, _, rfl, rfl, (by show (2147483647 : Int) ≠ 0; decide), ?_⟩⟩
              refine ⟨_, rfl, st, _, _, 3, rfl, rfl, u1, rfl, rfl, ?_, ?_, _, ?_, ?_, upd_same⟩
              · intro q o e n1 n2
                rw [upd_ne n1]
                exact k2 q o e n1 n2
              · rw [upd_ne ne.symm]
                exact u2
              · exact fmod_lo (by decide)
              · exact fmod_hi (by decide)
            · rintro _ G3 ⟨rfl, k3, v2, b, b0, b1, v1⟩
              refine ⟨_, rfl, st, _, _, 1, rfl, rfl, v1, rfl, rfl, ?_, 0, b, zs, upd_same, ?_, b0, b1, Int.le_refl 0⟩
              · intro q o e n1 n2
                rw [upd_ne n1]
                exact k3 q o e n1 n2
              · rw [upd_ne ne.symm]
                exact v2
          · refine ⟨rfl, k2, z, a, zs, u1, u2, a0, a1, ?_⟩
            have hz' : ¬ z < (10 : Int) ^ (18 : Int).toNat := by simpa using hz
            have : (0 : Int) ≤ (10 : Int) ^ (18 : Int).toNat := by decide
            omega
      · exact iteF ⟨rfl, gk, c, a, ns, g1, g2, a0, a1, c0⟩
    rintro _ G2 ⟨rfl, kk, c, a, ns, h1, h2, a0, a1, c0⟩
    -- a digit
    refine ⟨_, rfl, st, _, _, _, rfl, rfl, SqL.of h1, rfl, _, _, rfl, rfl, _, rfl, ?_⟩
    refine ite2 (fun hc => ?_) (fun hc => ?_)
    · refine ⟨_, rfl, st, _, _, _, rfl, rfl, SqL.of h1, rfl, .inl ⟨_, rfl, _, rfl, _, _, rfl, rfl, (by show m ≠ 0; omega), ?_⟩⟩
      refine ⟨_, rfl, st, _, _, _, rfl, rfl, SqL.of h1, rfl, _, rfl, _, _, rfl, rfl, ⟨(by show m ≠ 0; omega), (by show m.natAbs < 1073741824; omega)⟩, _, rfl, st, _, _, 1, rfl, rfl, h1, rfl, ?_⟩
      refine ⟨_, rfl, k _ _ (fmod_lo m0) (fmod_hi m0) ⟨Int.fdiv c m, a, ns, upd_same, ?_, a0, a1, fdiv_nn c0 m0⟩ ?_⟩
      · rw [upd_ne ne.symm]
        exact h2
      · intro q o e n1 n2
        rw [upd_ne n1]
        exact kk q o e n1 n2
    -- mixed
    have nb : ((n + 1 : Nat) : Int) ≤ 100001 := by omega
    have n0 : (0 : Int) ≤ ((n + 1 : Nat) : Int) := by omega
    refine ⟨_, rfl, st, _, _, _, rfl, rfl, SqL.of h1, rfl, _, rfl, st, _, _, _, rfl, rfl, SqL.of h1, rfl, _, _, rfl, rfl, .inl ⟨by decide, by decide⟩, _, _, rfl, rfl, _, _, rfl, rfl, _, _, rfl, rfl, ⟨by decide, by decide, ?_⟩, _, _, rfl, rfl, (by show (2147483629 : Int) ≠ 0; decide), ?_⟩
    · show (a + 104729 * ((n + 1 : Nat) : Int) + 17).natAbs < 2 ^ 64
      omega
    have y0 : (0 : Int) ≤ ((a + 104729 * ((n + 1 : Nat) : Int) + 17) ^ (5 : Int).toNat).fmod 2147483629 := fmod_lo (by decide)
    have y1 : ((a + 104729 * ((n + 1 : Nat) : Int) + 17) ^ (5 : Int).toNat).fmod 2147483629 < 2147483629 := fmod_hi (by decide)
    -- the answer
    refine ⟨_, rfl, _, _, rfl, rfl, .inl ⟨?_, ?_⟩, _, rfl, st, _, _, _, rfl, rfl, SqL.of h1, rfl, _, _, rfl, rfl, .inl ⟨by decide, by decide⟩, _, rfl, st, _, _, _, rfl, rfl, SqL.of h1, rfl, _, _, rfl, rfl, .inl ⟨?_, ?_⟩, _, _, rfl, rfl, _, _, rfl, rfl, _, _, rfl, rfl, ⟨by decide, by decide, ?_⟩, _, _, rfl, rfl, (by show (1000000007 : Int) ≠ 0; decide), _, rfl, _, _, rfl, rfl, (by show m ≠ 0; omega), ?_⟩
    · show -(2 ^ 64) < ((a + 104729 * ((n + 1 : Nat) : Int) + 17) ^ (5 : Int).toNat).fmod 2147483629
      generalize ((a + 104729 * ((n + 1 : Nat) : Int) + 17) ^ (5 : Int).toNat).fmod 2147483629 = y at y0 y1 ⊢
      omega
    · show ((a + 104729 * ((n + 1 : Nat) : Int) + 17) ^ (5 : Int).toNat).fmod 2147483629 < 2 ^ 64
      generalize ((a + 104729 * ((n + 1 : Nat) : Int) + 17) ^ (5 : Int).toNat).fmod 2147483629 = y at y0 y1 ⊢
      omega
    · show -(2 ^ 64) < 40503 * ((n + 1 : Nat) : Int)
      omega
    · show 40503 * ((n + 1 : Nat) : Int) < 2 ^ 64
      omega
    · show (((a + 104729 * ((n + 1 : Nat) : Int) + 17) ^ (5 : Int).toNat).fmod 2147483629 * 48271 + 40503 * ((n + 1 : Nat) : Int) * ((n + 1 : Nat) : Int) + 13).natAbs < 2 ^ 64
      generalize ((a + 104729 * ((n + 1 : Nat) : Int) + 17) ^ (5 : Int).toNat).fmod 2147483629 = y at y0 y1 ⊢
      have e1 : 40503 * ((n + 1 : Nat) : Int) * ((n + 1 : Nat) : Int) ≤ 40503 * 100001 * 100001 :=
        Int.mul_le_mul (by omega) nb n0 (by omega)
      have e2 : 0 ≤ 40503 * ((n + 1 : Nat) : Int) * ((n + 1 : Nat) : Int) := Int.mul_nonneg (by omega) n0
      omega
    exact k _ _ (fmod_lo m0) (fmod_hi m0) ⟨c, a, ns, h1, h2, a0, a1, c0⟩ kk
end
end K01

namespace K01
open PySem L2
/-! ### data at addresses of its own -/
mutual
/-- v bears the data d, all its lists and tuples stand in N -/
inductive Dt (N : Hp) : V → PyData → Prop
  | non : Dt N .non .none
  | bl (b : Bool) : Dt N (.bl b) (.bool b)
  | int (i : Int) : Dt N (.int i) (.int i)
  | str (x : Str) : Dt N (.str x) (.str x)
  | lst {a : Addr} {xs : List V} {ds : List PyData} : N a = some (.lst xs) → DtAll N xs ds → Dt N (.ref a) (.list ds)
  | tup {a : Addr} {xs : List V} {ds : List PyData} : N a = some (.tup xs) → DtAll N xs ds → Dt N (.ref a) (.tuple ds)
inductive DtAll (N : Hp) : List V → List PyData → Prop
  | nil : DtAll N [] []
  | cons {v : V} {vs : List V} {d : PyData} {ds : List PyData} : Dt N v d → DtAll N vs ds → DtAll N (v :: vs) (d :: ds)
end
mutual
theorem Dt.mono {N M : Hp} (e : Same N M) : ∀ (d : PyData) (v : V), Dt N v d → Dt M v d
  | .none, _, h => by cases h; exact .non
  | .bool b, _, h => by cases h; exact .bl b
  | .int i, _, h => by cases h; exact .int i
  | .str x, _, h => by cases h; exact .str x
  | .list ds, _, h => by
    cases h with
    | lst h1 h2 => exact .lst (e _ _ h1) (DtAll.mono e ds _ h2)
  | .tuple ds, _, h => by
    cases h with
    | tup h1 h2 => exact .tup (e _ _ h1) (DtAll.mono e ds _ h2)
  | .dict _, _, h => by cases h
theorem DtAll.mono {N M : Hp} (e : Same N M) : ∀ (ds : List PyData) (vs : List V), DtAll N vs ds → DtAll M vs ds
  | [], _, h => by cases h; exact .nil
  | d :: ds, _, h => by
    cases h with
    | cons h1 h2 => exact .cons (Dt.mono e d _ h1) (DtAll.mono e ds _ h2)
end
mutual
theorem Dt.dp {K : PySem.W.Frag} {N : Hp} : ∀ (d : PyData) (v : V), Dt N v d → Dp K N v d
  | .none, _, h => by cases h; exact .non
  | .bool b, _, h => by cases h; exact .bl b
  | .int i, _, h => by cases h; exact .int i
  | .str x, _, h => by cases h; exact .str x
  | .list ds, _, h => by
    cases h with
    | lst h1 h2 => exact .lst (SqL.of h1) (DtAll.dp ds _ h2)
  | .tuple ds, _, h => by
    cases h with
    | tup h1 h2 => exact .tup (SqT.of h1) (DtAll.dp ds _ h2)
  | .dict _, _, h => by cases h
theorem DtAll.dp {K : PySem.W.Frag} {N : Hp} : ∀ (ds : List PyData) (vs : List V), DtAll N vs ds → DpAll K N vs ds
  | [], _, h => by cases h; exact .nil
  | d :: ds, _, h => by
    cases h with
    | cons h1 h2 => exact .cons (Dt.dp d _ h1) (DtAll.dp ds _ h2)
end
theorem DtAll.len {N : Hp} : ∀ {ds : List PyData} {vs : List V}, DtAll N vs ds → vs.length = ds.length
  | [], _, h => by cases h; rfl
  | d :: ds, _, h => by
    cases h with
    | cons h1 h2 => rw [List.length_cons, List.length_cons, DtAll.len h2]
theorem DtAll.get {N : Hp} : ∀ {ds : List PyData} {vs : List V} {i : Nat} {v : V}, DtAll N vs ds → vs[i]? = some v → ∃ d, ds[i]? = some d ∧ Dt N v d
  | [], _, i, v, h, e => by cases h; simp at e
  | d :: ds, _, i, v, h, e => by
    cases h with
    | cons h1 h2 =>
      cases i with
      | zero =>
        simp at e
        subst e
        exact ⟨d, rfl, h1⟩
      | succ i => exact DtAll.get (i := i) h2 (by simpa using e)
theorem DtAll.snoc {N : Hp} : ∀ {ds : List PyData} {vs : List V} {d : PyData} {v : V}, DtAll N vs ds → Dt N v d → DtAll N (vs ++ [v]) (ds ++ [d])
  | [], _, d, v, h, q => by cases h; exact .cons q .nil
  | _ :: ds, _, d, v, h, q => by
    cases h with
    | cons h1 h2 => exact .cons h1 (DtAll.snoc h2 q)
/-! ### heaps apart -/
def emp : Hp := fun _ => none
/-- N stands in H', and is new beside H -/
structure Fresh (H H' N : Hp) : Prop where
  sub : Same N H'
  new : ∀ b o, N b = some o → H b = none
theorem fresh_emp {H H' : Hp} : Fresh H H' emp := ⟨fun _ _ e => (nomatch e), fun _ _ e => (nomatch e)⟩
theorem Fresh.upd {H H' N : Hp} {p : Addr} {o : HO} (F : Fresh H H' N) (hp : H p = none) (h' : H' p = some o) : Fresh H H' (upd N p o) := by
  refine ⟨fun b u e => ?_, fun b u e => ?_⟩
  · by_cases hb : b = p
    · subst hb
      rw [upd_same] at e
      cases e
      exact h'
    · rw [upd_ne hb] at e
      exact F.sub b u e
  · by_cases hb : b = p
    · subst hb
      exact hp
    · rw [upd_ne hb] at e
      exact F.new b u e
def uni (N M : Hp) : Hp := fun b => match N b with
  | some o => some o
  | none => M b
theorem uni_l {N M : Hp} : Same N (uni N M) := fun b o e => by
  unfold uni
  rw [e]
theorem uni_r {N M : Hp} (d : ∀ b o, M b = some o → N b = none) : Same M (uni N M) := fun b o e => by
  unfold uni
  rw [d b o e]
  exact e
theorem uni_or {N M : Hp} {b : Addr} {o : HO} (e : uni N M b = some o) : N b = some o ∨ M b = some o := by
  unfold uni at e
  cases h : N b with
  | some u =>
    rw [h] at e
    exact .inl e
  | none =>
    rw [h] at e
    exact .inr e
theorem same_upd {H : Hp} {p : Addr} {o : HO} (h : H p = none) : Same H (upd H p o) := fun b u e => by
  rw [upd_ne (ne_of_none e h)]
  exact e
theorem same_upd2 {H H1 : Hp} {p : Addr} {o : HO} (x : Same H H1) (h : H1 p = none) : Same H (upd H1 p o) := L2.Same.trans x (same_upd h)
/-- what H does not track may change -/
theorem same_mut {H H1 : Hp} {p : Addr} {o : HO} (x : Same H H1) (h : H p = none) : Same H (upd H1 p o) := fun b u e => by
  rw [upd_ne (ne_of_none e h)]
  exact x b u e
theorem Kp2.same {a b : Addr} {H H' B : Hp} (k : Kp2 a b H H') (s : Same B H) (ha : B a = none) (hb : B b = none) : Same B H' := fun q o e =>
  k q o (s q o e) (ne_of_none e ha) (ne_of_none e hb)
theorem Strm.keep {H H' : Hp} {st cl : Addr} {n : Nat} (S : Strm H st cl n) (e : Same H H') : Strm H' st cl n := by
  obtain ⟨c, a, ns, h1, h2, h3⟩ := S.ex
  exact ⟨c, a, ns, e _ _ h1, e _ _ h2, h3⟩
theorem Kp2.of_same {a b : Addr} {H H' : Hp} (e : Same H H') : Kp2 a b H H' := fun q o h _ _ => e q o h
theorem Kp2.trans {a b : Addr} {H H1 H2 : Hp} (x : Kp2 a b H H1) (y : Kp2 a b H1 H2) : Kp2 a b H H2 := fun q o e n1 n2 => y q o (x q o e n1 n2) n1 n2
theorem Strm.st {H : Hp} {st cl : Addr} {n : Nat} (S : Strm H st cl n) : ∃ o, H st = some o := by
  obtain ⟨c, a, ns, h1, _⟩ := S.ex
  exact ⟨_, h1⟩
theorem Strm.cl {H : Hp} {st cl : Addr} {n : Nat} (S : Strm H st cl n) : ∃ o, H cl = some o := by
  obtain ⟨c, a, ns, _, h2, _⟩ := S.ex
  exact ⟨_, h2⟩
/-! ### start, pick -/
def spStart (K : PySem.W.Frag) : Sp := fun vs H Q _ => ∃ (a : Addr) (ns : List Int), vs = [.ref a] ∧ SqL K H a (ns.map V.int) ∧ ∀ (st cl : Addr) (H' : Hp), H st = none → H cl = none → Same H H' → Strm H' st cl 0 → Q (.ref st) H'
def spPick : Sp := fun vs H Q _ => ∃ (st cl : Addr) (n : Nat) (a : Addr) (xs : List V), vs = [.ref st, .ref a] ∧ Strm H st cl n ∧ H a = some (.lst xs) ∧ a ≠ st ∧ a ≠ cl ∧ xs ≠ [] ∧ xs.length < 1000 ∧ n ≤ 100000 ∧
  ∀ (x : V) (H' : Hp), x ∈ xs → Strm H' st cl (n + 1) → Kp2 st cl H H' → Q x H'
section
variable {P : Program} {w : World} {K : PySem.W.Frag} {mg : Str → Option Value} {base : Heap}
theorem scStart : FnScope ["_law_script"] ["_law_script"] (defScope sStart) := ⟨rfl, rfl, rfl, by decide +kernel, rfl, by decide +kernel, by decide +kernel⟩
theorem ok_start {f : Addr} {fd : FuncData} (F : Fun K "_law_start" "_law_start" sStart f fd) (T : TxtB mg) : FnOk P w K mg base CX0 1 f fd ["_law_script"] (spStart K) := by
  refine F.ok scStart (fun vs H Q E h => ?_) (fun cdv A outer s H vs Q E hr h => ?_)
  · obtain ⟨a, ns, rfl, _⟩ := h
    rfl
  · obtain ⟨a, ns, rfl, hS, k⟩ := h
    refine ⟨_, pss_one (ps_ret (pe_lst (pa_cons (pe_callTy call_list_of (by rfl) T.list (by decide +kernel) (pa_cons (pv 0) pa_nil)) (pa_cons pe_int (pa_cons pe_int (pa_cons pe_int pa_nil)))))), ?_⟩
    refine ⟨_, rfl, a, _, rfl, .inl hS, fun cl hc => ⟨(by show 4 ≤ sizeLine; decide), fun st hs => ?_⟩⟩
    have nc : cl ≠ st := ne_of_none upd_same hs
    have hs0 : H st = none := by
      rw [upd_ne nc.symm] at hs
      exact hs
    exact k st cl _ hs0 hc (same_upd2 (same_upd hc) hs) ⟨0, 0, ns, upd_same, by rw [upd_ne nc, upd_same], by decide, by decide, by decide⟩
theorem scPick : FnScope ["_law_stream", "_law_some"] ["_law_stream", "_law_some"] (defScope sPick) := ⟨rfl, rfl, rfl, by decide +kernel, rfl, by decide +kernel, by decide +kernel⟩
theorem ok_pick {f fD : Addr} {fd fdD : FuncData} (F : Fun K "_law_pick" "_law_pick" sPick f fd) (T : TxtB mg) (G : FnOk P w K mg base CX0 1 fD fdD ["_law_stream", "_law_many"] spDraw) (mD : mg "_law_draw" = some (.ref fD)) (kD : PySem.W.keepIn K (.ref fD) = true) (bD : Binds K fdD ["_law_stream", "_law_many"] []) :
    FnOk P w K mg base CX0 2 f fd ["_law_stream", "_law_some"] spPick := by
  refine F.ok scPick (fun vs H Q E h => ?_) (fun cdv A outer s H vs Q E hr h => ?_)
  · obtain ⟨st, cl, n, a, xs, rfl, _⟩ := h
    rfl
  · obtain ⟨st, cl, n, a, xs, rfl, S, ha, n1, n2, x0, xl, hn, k⟩ := h
    refine ⟨_, pss_one (ps_ret (pe_ix ix_list (pv 1) (pe_call G hr rfl mD kD bD .nil pass0 (pa_cons (pv 0) (pa_cons (pe_callB call_len_seq (by rfl) T.len PySem.boot_len (pa_cons (pv 1) pa_nil)) pa_nil))) (fun _ _ => rfl))), ?_⟩
    have hx : 0 < xs.length := List.length_pos_iff.mpr x0
    refine ⟨_, rfl, _, rfl, _, rfl, a, xs, rfl, .inl (SqL.of ha), st, cl, n, (xs.length : Int), rfl, S, by omega, by omega, hn, fun j H' j0 j1 S' kk => ?_⟩
    have hj : j.toNat < xs.length := by omega
    have ej : ((j.toNat : Nat) : Int) = j := by omega
    refine ⟨a, xs, j, xs[j.toNat], rfl, rfl, SqL.of (kk _ _ ha n1 n2), ?_, k _ _ (List.getElem_mem hj) S' kk⟩
    have q := atI_nat (xs := xs) (j := j.toNat) (List.getElem?_eq_getElem hj)
    rw [ej] at q
    exact q
end
end K01

namespace K01
open PySem L2
/-! ### copied -/
mutual
def small : PyData → Bool
  | .list xs => decide (xs.length ≤ 1000) && smallAll xs
  | .tuple xs => decide (xs.length ≤ 1000) && smallAll xs
  | _ => true
def smallAll : List PyData → Bool
  | [] => true
  | x :: xs => small x && smallAll xs
end
theorem smallAll_get : ∀ {ds : List PyData} {i : Nat} {d : PyData}, smallAll ds = true → ds[i]? = some d → small d = true
  | [], i, d, _, e => by simp at e
  | x :: xs, i, d, h, e => by
    simp only [smallAll, Bool.and_eq_true] at h
    cases i with
    | zero =>
      simp at e
      subst e
      exact h.1
    | succ i => exact smallAll_get h.2 (by simpa using e)
theorem depthAll_get : ∀ {ds : List PyData} {i : Nat} {d : PyData}, ds[i]? = some d → PyData.depth d ≤ PyData.depthAll ds
  | [], i, d, e => by simp at e
  | x :: xs, i, d, e => by
    simp only [PyData.depthAll]
    cases i with
    | zero =>
      simp at e
      subst e
      omega
    | succ i =>
      have := depthAll_get (ds := xs) (i := i) (d := d) (by simpa using e)
      omega
/-- copied(v), v of nesting below m -/
def spCop : Nat → Sp
  | 0 => fun _ _ _ _ => False
  | m + 1 => fun vs H Q _ => ∃ (v : V) (d : PyData), vs = [v] ∧ Dt H v d ∧ PyData.depth d ≤ m ∧ small d = true ∧ ∀ (v' : V) (N H' : Hp), Same H H' → Fresh H H' N → Dt N v' d → Q v' H'
theorem cop_child {m : Nat} {ds : List PyData} {i : Nat} {d : PyData} (dep : PyData.depth (.list ds) ≤ m) (sz : small (.list ds) = true) (e : ds[i]? = some d) : PyData.depth d + 1 ≤ m ∧ small d = true := by
  simp only [small, Bool.and_eq_true] at sz
  have := depthAll_get e
  simp only [PyData.depth] at dep
  exact ⟨by omega, smallAll_get sz.2 e⟩
theorem cop_child' {m : Nat} {ds : List PyData} {i : Nat} {d : PyData} (dep : PyData.depth (.tuple ds) ≤ m) (sz : small (.tuple ds) = true) (e : ds[i]? = some d) : PyData.depth d + 1 ≤ m ∧ small d = true := by
  simp only [small, Bool.and_eq_true] at sz
  have := depthAll_get e
  simp only [PyData.depth] at dep
  exact ⟨by omega, smallAll_get sz.2 e⟩
theorem cop_size {ds : List PyData} (sz : small (.list ds) = true) : ds.length ≤ 1000 := by
  simp only [small, Bool.and_eq_true] at sz
  simpa using sz.1
theorem cop_size' {ds : List PyData} (sz : small (.tuple ds) = true) : ds.length ≤ 1000 := by
  simp only [small, Bool.and_eq_true] at sz
  simpa using sz.1
theorem sz_lt1 {n i : Nat} (e : n = i) (h : i < 1001) : n < sizeLine := by
  rw [e, PySem.sizeLine_eq]
  omega
/-- behind i items of a copying comprehension: at D the copies, whose parts stand in N -/
def CopI (H : Hp) (D : Addr) (ds : List PyData) (i : Nat) (H' : Hp) : Prop := Same H H' ∧ ∃ (ys : List V) (N : Hp), H' D = some (.lst ys) ∧ N D = none ∧ Fresh H H' N ∧ DtAll N ys (ds.take i)
theorem copI0 {H : Hp} {D : Addr} {ds : List PyData} (hD : H D = none) : CopI H D ds 0 (upd H D (.lst [])) := ⟨same_upd hD, [], emp, upd_same, rfl, fresh_emp, .nil⟩
theorem take_more' {α : Type} : ∀ {l : List α} {i : Nat} {x : α}, l[i]? = some x → l.take (i + 1) = l.take i ++ [x]
  | [], i, x, h => by simp at h
  | a :: l, 0, x, h => by
    have e : a = x := Option.some.inj h
    subst e
    rfl
  | a :: l, i + 1, x, h => by
    have ih := take_more' (l := l) (i := i) (x := x) h
    show a :: l.take (i + 1) = a :: l.take i ++ [x]
    rw [ih]
    rfl
theorem copI_step {H H' H2 N : Hp} {D : Addr} {ds : List PyData} {i : Nat} {dx : PyData} {v' : V} (hD : H D = none) (hdx : ds[i]? = some dx) (h : CopI H D ds i H') (e2 : Same H' H2) (F2 : Fresh H' H2 N) (t2 : Dt N v' dx) :
    ∃ (ys : List V) (N0 : Hp), H2 D = some (.lst ys) ∧ ys.length = i ∧ CopI H D ds (i + 1) (upd H2 D (.lst (ys ++ [v']))) := by
  obtain ⟨s1, ys, N0, hy, nD, F1, t1⟩ := h
  have hlen : i < ds.length := (List.getElem?_eq_some_iff.mp hdx).1
  have hl : ys.length = i := by
    rw [t1.len, List.length_take]
    omega
  have ap : ∀ b o, N b = some o → N0 b = none := fun b o e => by
    have z := F2.new b o e
    cases q : N0 b with
    | none => rfl
    | some u =>
      rw [F1.sub b u q] at z
      cases z
  have nND : N D = none := by
    cases q : N D with
    | none => rfl
    | some u =>
      have z := F2.new D u q
      rw [hy] at z
      cases z
  refine ⟨ys, N0, e2 _ _ hy, hl, same_mut (s1.trans e2) hD, ys ++ [v'], uni N0 N, upd_same, ?_, ⟨fun b o e => ?_, fun b o e => ?_⟩, ?_⟩
  · unfold uni
    rw [nD]
    exact nND
  · have hb : b ≠ D := fun z => by
      rw [z] at e
      rcases uni_or e with q | q
      · rw [nD] at q
        cases q
      · rw [nND] at q
        cases q
    rw [upd_ne hb]
    rcases uni_or e with q | q
    · exact e2 _ _ (F1.sub b o q)
    · exact F2.sub b o q
  · rcases uni_or e with q | q
    · exact F1.new b o q
    · exact Same.free s1 (F2.new b o q)
  · rw [take_more' hdx]
    exact (DtAll.mono uni_l _ _ t1).snoc (Dt.mono (uni_r ap) _ _ t2)
theorem copI_end {H H' : Hp} {D : Addr} {ds : List PyData} {n : Nat} (hn : n = ds.length) (h : CopI H D ds n H') : Same H H' ∧ ∃ (ys : List V) (N : Hp), H' D = some (.lst ys) ∧ N D = none ∧ Fresh H H' N ∧ DtAll N ys ds := by
  obtain ⟨s1, ys, N0, hy, nD, F1, t1⟩ := h
  rw [hn, List.take_length] at t1
  exact ⟨s1, ys, N0, hy, nD, F1, t1⟩
section
variable {P : Program} {w : World} {K : PySem.W.Frag} {mg : Str → Option Value} {base : Heap}

theorem scCop : FnScope ["value", "part"] ["value"] (defScope sCop) := ⟨rfl, rfl, rfl, by decide +kernel, rfl, by decide +kernel, by decide +kernel⟩
theorem stepCop {f : Addr} {fd : FuncData} {m : Nat} (F : Fun K "copied" "copied" sCop f fd) (T : TxtB mg) (G : FnOk P w K mg base CX0 (m + 1) f fd ["value"] (spCop m)) (mC : mg "copied" = some (.ref f)) (kC : PySem.W.keepIn K (.ref f) = true) (bC : Binds K fd ["value"] []) :
    FnOk P w K mg base CX0 (m + 2) f fd ["value"] (spCop (m + 1)) := by
  refine F.ok scCop (fun vs H Q E h => ?_) (fun cdv A outer s H vs Q E hr h => ?_)
  · obtain ⟨v, d, rfl, _⟩ := h
    rfl
  · obtain ⟨v, d, rfl, hd, dep, sz, k⟩ := h
    refine ⟨_, pss_cons (ps_if (pt_val (pe_callB call_isi (by rfl) T.isinstance (by decide +kernel) (pa_cons (pv 0) (pa_cons (pe_bltn (v := .ty "list") (by rfl) T.list (by decide +kernel) rfl) pa_nil))))
        (pss_one (ps_ret (pe_lc (own := [("part", 1)]) (g := gName 1) (tt := tYes) rfl scCop.nd (pi_list (pv 0)) (blkOk_by (N := ["value", "part"]) (sc := defScope sCop) (by decide +kernel)) (fun _ _ _ _ _ => pg_name (i := 1) scCop.nd rfl (Or.inl rfl)) (fun _ _ _ _ _ => pts_nil) (fun _ _ _ _ _ => pe_call G hr rfl mC kC bC .nil pass0 (pa_cons (pv 1) pa_nil))))) pss_nil)
      (pss_one (ps_ret (pe_ifExp (pt_val (pe_callB call_isi (by rfl) T.isinstance (by decide +kernel) (pa_cons (pv 0) (pa_cons (pe_bltn (v := .ty "tuple") (by rfl) T.tuple (by decide +kernel) rfl) pa_nil))))
        (pe_callTy call_tuple_of (by rfl) T.tuple (by decide +kernel) (pa_cons (pe_lc (own := [("part", 1)]) (g := gName 1) (tt := tYes) rfl scCop.nd (pi_tup (pv 0)) (blkOk_by (N := ["value", "part"]) (sc := defScope sCop) (by decide +kernel)) (fun _ _ _ _ _ => pg_name (i := 1) scCop.nd rfl (Or.inl rfl)) (fun _ _ _ _ _ => pts_nil) (fun _ _ _ _ _ => pe_call G hr rfl mC kC bC .nil pass0 (pa_cons (pv 1) pa_nil))) pa_nil))
        (pv 0)))), ?_⟩
    -- isinstance(value, list)
    cases hd with
    | non => exact ⟨_, rfl, _, .ty "list", _, _, false, rfl, .ty _, .base (.non), kit_ty (by decide +kernel), _, rfl, iteF ⟨_, rfl, _, .ty "tuple", _, _, false, rfl, .ty _, .base (.non), kit_ty (by decide +kernel), _, rfl, iteF ⟨_, rfl, k _ emp H (Same.refl H) fresh_emp (.non)⟩⟩⟩
    | bl b => exact ⟨_, rfl, _, .ty "list", _, _, false, rfl, .ty _, .base (.bl b), kit_ty (by decide +kernel), _, rfl, iteF ⟨_, rfl, _, .ty "tuple", _, _, false, rfl, .ty _, .base (.bl b), kit_ty (by decide +kernel), _, rfl, iteF ⟨_, rfl, k _ emp H (Same.refl H) fresh_emp (.bl b)⟩⟩⟩
    | int i => exact ⟨_, rfl, _, .ty "list", _, _, false, rfl, .ty _, .base (.int i), kit_ty (by decide +kernel), _, rfl, iteF ⟨_, rfl, _, .ty "tuple", _, _, false, rfl, .ty _, .base (.int i), kit_ty (by decide +kernel), _, rfl, iteF ⟨_, rfl, k _ emp H (Same.refl H) fresh_emp (.int i)⟩⟩⟩
    | str x => exact ⟨_, rfl, _, .ty "list", _, _, false, rfl, .ty _, .base (.str x), kit_ty (by decide +kernel), _, rfl, iteF ⟨_, rfl, _, .ty "tuple", _, _, false, rfl, .ty _, .base (.str x), kit_ty (by decide +kernel), _, rfl, iteF ⟨_, rfl, k _ emp H (Same.refl H) fresh_emp (.str x)⟩⟩⟩
    | @lst a xs ds ha hds =>
      refine ⟨_, rfl, .ref a, .ty "list", _, _, true, rfl, .ty _, .base (.lst ha), kit_ty (by decide +kernel), _, rfl, iteT ?_⟩
      refine ⟨_, rfl, a, rfl, ⟨_, SqL.of ha⟩, fun D hD => ?_⟩
      refine lc_list (K := K) (a := a) (xs := xs) (CopI H D ds) (copI0 hD) (fun i H' _ h => SqL.of (h.1 _ _ ha)) (fun i x H' hx h => ?_) (fun H' h => ?_)
      · obtain ⟨dx, hdx, hx'⟩ := hds.get hx
        obtain ⟨d0, s0⟩ := cop_child dep sz hdx
        obtain ⟨m', rfl⟩ : ∃ m', m = m' + 1 := ⟨m - 1, by omega⟩
        refine ⟨rfl, _, rfl, x, dx, rfl, Dt.mono h.1 _ _ hx', by omega, s0, fun v' N H2 e2 F2 t2 => ?_⟩
        obtain ⟨ys, N0, h1, h2⟩ := copI_step hD hdx h e2 F2 t2
        exact ⟨ys, h1, by have := (List.getElem?_eq_some_iff.mp hx).1; have := hds.len; have := cop_size sz; exact sz_lt1 h2.1 (by omega), h2.2⟩
      · obtain ⟨s1, ys, N, hy, hl, F1, t1⟩ := copI_end hds.len h
        exact k (.ref D) (upd N D (.lst ys)) H' s1 (F1.upd hD hy) (.lst upd_same (DtAll.mono (same_upd hl) _ _ t1))
    | @tup a xs ds ha hds =>
      refine ⟨_, rfl, .ref a, .ty "list", _, _, false, rfl, .ty _, .base (.tup ha), kit_ty (by decide +kernel), _, rfl, iteF ?_⟩
      refine ⟨_, rfl, .ref a, .ty "tuple", _, _, true, rfl, .ty _, .base (.tup ha), kit_ty (by decide +kernel), _, rfl, iteT ?_⟩
      refine ⟨_, rfl, a, rfl, ⟨_, SqT.of ha⟩, fun D hD => ?_⟩
      refine lc_tup (K := K) (a := a) (xs := xs) (CopI H D ds) (copI0 hD) (fun i H' _ h => SqT.of (h.1 _ _ ha)) (fun i x H' hx h => ?_) (fun H' h => ?_)
      · obtain ⟨dx, hdx, hx'⟩ := hds.get hx
        obtain ⟨d0, s0⟩ := cop_child' dep sz hdx
        obtain ⟨m', rfl⟩ : ∃ m', m = m' + 1 := ⟨m - 1, by omega⟩
        refine ⟨rfl, _, rfl, x, dx, rfl, Dt.mono h.1 _ _ hx', by omega, s0, fun v' N H2 e2 F2 t2 => ?_⟩
        obtain ⟨ys, N0, h1, h2⟩ := copI_step hD hdx h e2 F2 t2
        exact ⟨ys, h1, by have := (List.getElem?_eq_some_iff.mp hx).1; have := hds.len; have := cop_size' sz; exact sz_lt1 h2.1 (by omega), h2.2⟩
      · obtain ⟨s1, ys, N, hy, hl, F1, t1⟩ := copI_end hds.len h
        refine ⟨D, ys, rfl, .inl ⟨SqL.of hy, fun l hl2 => ?_⟩⟩
        have nDl : N l = none := by
          cases e : N l with
          | none => rfl
          | some o =>
            rw [F1.sub _ _ e] at hl2
            cases hl2
        exact k (.ref l) (upd N l (.tup ys)) _ (same_upd2 s1 hl2) (Fresh.upd ⟨F1.sub.trans (same_upd hl2), F1.new⟩ (Same.free s1 hl2) upd_same) (.tup upd_same (DtAll.mono (same_upd nDl) _ _ t1))
theorem okCop {f : Addr} {fd : FuncData} (F : Fun K "copied" "copied" sCop f fd) (T : TxtB mg) (mC : mg "copied" = some (.ref f)) (kC : PySem.W.keepIn K (.ref f) = true) (bC : Binds K fd ["value"] []) :
    ∀ m, FnOk P w K mg base CX0 (m + 1) f fd ["value"] (spCop m)
  | 0 => ⟨fun _ _ _ _ h => h.elim, fun _ _ _ _ _ _ _ _ _ _ _ _ _ h => h.elim⟩
  | m + 1 => stepCop F T (okCop F T mC kC bC m) mC kC bC

end
end K01

namespace K01
open PySem L2
/-- the same data read twice, of nesting below m -/
def spSame : Nat → Sp
  | 0 => fun _ _ _ _ => False
  | m + 1 => fun vs H Q _ => ∃ (x y : V) (d : PyData), vs = [x, y] ∧ Dt H x d ∧ Dt H y d ∧ PyData.depth d ≤ m ∧ small d = true ∧ ∀ (H' : Hp), Same H H' → Q (.bl true) H'
theorem walk_zipT {K : PySem.W.Frag} {a b : Addr} {xs ys : List V} {n : Nat} (hn : n = min xs.length ys.length) : Walk (RZ.ItzT K a b) n (fun H => SqT K H a xs ∧ SqT K H b ys) (YPair (fun i => xs[i]?) (fun i => ys[i]?)) := by
  subst hn
  refine ⟨fun i _ hi q => ?_, fun _ q => ⟨xs, ys, q.1, q.2, by omega⟩, fun i H v H' _ q y => ?_⟩
  · exact ⟨xs, ys, xs[i], ys[i], q.1, q.2, by rw [List.getElem?_eq_getElem], by rw [List.getElem?_eq_getElem]⟩
  · obtain ⟨T, x, z, h1, h2, h3, h4, h5⟩ := y
    exact ⟨T, x, z, h1, h2, h3, h4 xs q.1, h5 ys q.2⟩
theorem all_true (n : Nat) : (List.replicate n true).all id = true := by
  rw [List.all_eq_true]
  intro x hx
  exact (List.mem_replicate.mp hx).2
theorem DtAll.at {N : Hp} : ∀ {ds : List PyData} {vs : List V} {i : Nat} {d : PyData}, DtAll N vs ds → ds[i]? = some d → ∃ v, vs[i]? = some v ∧ Dt N v d
  | [], _, i, v, h, e => by simp at e
  | d :: ds, _, i, v, h, e => by
    cases h with
    | cons h1 h2 =>
      cases i with
      | zero =>
        simp at e
        subst e
        exact ⟨_, rfl, h1⟩
      | succ i => exact DtAll.at (i := i) h2 (by simpa using e)
def kitsB (a : String) : List String → Option Bool
  | [] => some false
  | c :: cs => match kitB a c with
    | some true => some true
    | some false => kitsB a cs
    | none => none
theorem kits {K : PySem.W.Frag} {a : String} : ∀ {cs : List String} {r : Bool}, kitsB a cs = some r → PySem.W.kitAny K (.type a) (cs.map Value.type) = some r
  | [], r, h => by
    cases h
    exact kitAny_nil
  | c :: cs, r, h => by
    unfold kitsB at h
    cases e : kitB a c with
    | none =>
      rw [e] at h
      cases h
    | some b =>
      rw [e] at h
      cases b with
      | true =>
        cases h
        exact kitAny_cons (kit_ty e) (fun z => by cases z) (fun _ => rfl)
      | false => exact kitAny_cons (kit_ty e) (fun _ => kits h) (fun z => by cases z)
/-- at D so many True -/
def AllT (H : Hp) (D : Addr) (i : Nat) (H' : Hp) : Prop := Same H H' ∧ H' D = some (.lst ((List.replicate i true).map V.bl))
section
variable {P : Program} {w : World} {K : PySem.W.Frag} {mg : Str → Option Value} {base : Heap}
abbrev nSame : List Str := ["_law_found", "_law_due", "_law_one", "_law_other"]
theorem scSame : FnScope nSame ["_law_found", "_law_due"] (defScope sSame) := ⟨rfl, rfl, rfl, by decide +kernel, rfl, by decide +kernel, by decide +kernel⟩
theorem stepSame {f : Addr} {fd : FuncData} {m : Nat} (F : Fun K "_law_same" "_law_same" sSame f fd) (T : TxtB mg) (G : FnOk P w K mg base CX0 (m + 1) f fd ["_law_found", "_law_due"] (spSame m)) (mC : mg "_law_same" = some (.ref f)) (kC : PySem.W.keepIn K (.ref f) = true) (bC : Binds K fd ["_law_found", "_law_due"] []) :
    FnOk P w K mg base CX0 (m + 2) f fd ["_law_found", "_law_due"] (spSame (m + 1)) := by
  refine F.ok scSame (fun vs H Q E h => ?_) (fun cdv A outer s H vs Q E hr h => ?_)
  · obtain ⟨x, y, d, rfl, _⟩ := h
    rfl
  · obtain ⟨x, y, d, rfl, hx, hy, dep, sz, k⟩ := h
    refine ⟨_, pss_cons (ps_if (pt_val (pe_callB call_isiT (by rfl) T.isinstance (by decide +kernel) (pa_cons (pv 1) (pa_cons (pe_tup (pa_cons (pe_bltn (v := .ty "list") (by rfl) T.list (by decide +kernel) rfl) (pa_cons (pe_bltn (v := .ty "tuple") (by rfl) T.tuple (by decide +kernel) rfl) pa_nil))) pa_nil))))
        (pss_cons (ps_if (PW.pt (pw_or (pt_cmpR op_ne (pe_callB call_isi (by rfl) T.isinstance (by decide +kernel) (pa_cons (pv 0) (pa_cons (pe_bltn (v := .ty "list") (by rfl) T.list (by decide +kernel) rfl) pa_nil))) (pe_callB call_isi (by rfl) T.isinstance (by decide +kernel) (pa_cons (pv 1) (pa_cons (pe_bltn (v := .ty "list") (by rfl) T.list (by decide +kernel) rfl) pa_nil))) (nomark _))
            (pw_or1 (pt_cmpR op_ne (pe_callB call_isi (by rfl) T.isinstance (by decide +kernel) (pa_cons (pv 0) (pa_cons (pe_bltn (v := .ty "tuple") (by rfl) T.tuple (by decide +kernel) rfl) pa_nil))) (pe_callB call_isi (by rfl) T.isinstance (by decide +kernel) (pa_cons (pv 1) (pa_cons (pe_bltn (v := .ty "tuple") (by rfl) T.tuple (by decide +kernel) rfl) pa_nil))) (nomark _)))))
          (pss_one (ps_ret pe_bl)) pss_nil)
        (pss_one (ps_ret (pe_and (pe_cmpR op_eq (pe_callB call_len_seq (by rfl) T.len PySem.boot_len (pa_cons (pv 0) pa_nil)) (pe_callB call_len_seq (by rfl) T.len PySem.boot_len (pa_cons (pv 1) pa_nil)) (nomark _))
          (pe_one (pe_callB (cr_all rfl) (by rfl) T.all (by decide +kernel) (pa_cons
            (pe_lc (own := [("_law_one", 2), ("_law_other", 3)]) (g := gTup K 2 (gCons (gName 2) (gCons (gName 3) gNil))) (tt := tYes) rfl scSame.nd (RZ.pi_zipA (by rfl) T.zip (pa_cons (pv 0) (pa_cons (pv 1) pa_nil))) (blkOk_by (N := nSame) (sc := defScope sSame) (by decide +kernel)) (fun _ _ _ _ _ => pg_tup rfl (pgs_cons (pg_name (i := 2) scSame.nd rfl (Or.inl rfl)) (pgs_cons (pg_name (i := 3) scSame.nd rfl (Or.inl rfl)) pgs_nil))) (fun _ _ _ _ _ => pts_nil) (fun _ _ _ _ _ => pe_call G hr rfl mC kC bC .nil pass0 (pa_cons (pv 2) (pa_cons (pv 3) pa_nil)))) pa_nil))))))) pss_nil)
      (pss_cons (ps_if (pt_val (pe_callB call_isi (by rfl) T.isinstance (by decide +kernel) (pa_cons (pv 1) (pa_cons (pe_bltn (v := .ty "int") (by rfl) T.int (by decide +kernel) rfl) pa_nil))))
        (pss_one (ps_ret (pe_and (pe_callB call_isi (by rfl) T.isinstance (by decide +kernel) (pa_cons (pv 0) (pa_cons (pe_bltn (v := .ty "int") (by rfl) T.int (by decide +kernel) rfl) pa_nil)))
          (pe_and (pe_cmpR op_eq (pe_callB call_isi (by rfl) T.isinstance (by decide +kernel) (pa_cons (pv 0) (pa_cons (pe_bltn (v := .ty "bool") (by rfl) T.bool (by decide +kernel) rfl) pa_nil))) (pe_callB call_isi (by rfl) T.isinstance (by decide +kernel) (pa_cons (pv 1) (pa_cons (pe_bltn (v := .ty "bool") (by rfl) T.bool (by decide +kernel) rfl) pa_nil))) (nomark _))
          (pe_one (pe_cmpR op_eq (pv 0) (pv 1) (nomark _))))))) pss_nil)
      (pss_one (ps_ret (pe_and (pe_cmpR op_eq (pv 0) (pv 1) (nomark _)) (pe_one (pe_cmpR op_isBl (pe_callB call_isiT (by rfl) T.isinstance (by decide +kernel) (pa_cons (pv 0) (pa_cons (pe_tup (pa_cons (pe_bltn (v := .ty "int") (by rfl) T.int (by decide +kernel) rfl) (pa_cons (pe_bltn (v := .ty "list") (by rfl) T.list (by decide +kernel) rfl) (pa_cons (pe_bltn (v := .ty "tuple") (by rfl) T.tuple (by decide +kernel) rfl) pa_nil)))) pa_nil))) pe_bl (nomark _))))))), ?_⟩
    cases d with
    | dict _ => cases hx
    | none =>
      cases hx
      cases hy
      refine ⟨_, rfl, (by show 2 ≤ sizeLine; decide), fun p hp => ⟨_, p, _, _, _, false, rfl, upd_same, .cons (.ty _) (.cons (.ty _) .nil), .base (.non), kits (cs := ["list", "tuple"]) (by decide +kernel), _, rfl, iteF ?_⟩⟩
      refine ⟨_, rfl, _, .ty "int", _, _, false, rfl, .ty _, .base (.non), kit_ty (by decide +kernel), _, rfl, iteF ?_⟩
      refine ⟨_, rfl, _, rfl, rfl, true, (by rw [decide_eq_true rfl]), iteT ⟨_, rfl, (by show 3 ≤ sizeLine; decide), fun p2 hp2 => ⟨_, p2, _, _, _, false, rfl, upd_same, .cons (.ty _) (.cons (.ty _) (.cons (.ty _) .nil)), .base (.non), kits (cs := ["int", "list", "tuple"]) (by decide +kernel), _, _, rfl, rfl, k _ (same_upd2 (same_upd hp) hp2)⟩⟩⟩
    | str z =>
      cases hx
      cases hy
      refine ⟨_, rfl, (by show 2 ≤ sizeLine; decide), fun p hp => ⟨_, p, _, _, _, false, rfl, upd_same, .cons (.ty _) (.cons (.ty _) .nil), .base (.str z), kits (cs := ["list", "tuple"]) (by decide +kernel), _, rfl, iteF ?_⟩⟩
      refine ⟨_, rfl, _, .ty "int", _, _, false, rfl, .ty _, .base (.str z), kit_ty (by decide +kernel), _, rfl, iteF ?_⟩
      refine ⟨_, rfl, _, rfl, rfl, true, (by rw [decide_eq_true rfl]), iteT ⟨_, rfl, (by show 3 ≤ sizeLine; decide), fun p2 hp2 => ⟨_, p2, _, _, _, false, rfl, upd_same, .cons (.ty _) (.cons (.ty _) (.cons (.ty _) .nil)), .base (.str z), kits (cs := ["int", "list", "tuple"]) (by decide +kernel), _, _, rfl, rfl, k _ (same_upd2 (same_upd hp) hp2)⟩⟩⟩
    | bool q =>
      cases hx
      cases hy
      refine ⟨_, rfl, (by show 2 ≤ sizeLine; decide), fun p hp => ⟨_, p, _, _, _, false, rfl, upd_same, .cons (.ty _) (.cons (.ty _) .nil), .base (.bl q), kits (cs := ["list", "tuple"]) (by decide +kernel), _, rfl, iteF ?_⟩⟩
      refine ⟨_, rfl, _, .ty "int", _, _, true, rfl, .ty _, .base (.bl q), kit_ty (by decide +kernel), _, rfl, iteT ?_⟩
      refine ⟨_, rfl, _, .ty "int", _, _, true, rfl, .ty _, .base (.bl q), kit_ty (by decide +kernel), true, rfl, iteT ⟨_, rfl, _, .ty "bool", _, _, true, rfl, .ty _, .base (.bl q), kit_ty (by decide +kernel), _, rfl, _, .ty "bool", _, _, true, rfl, .ty _, .base (.bl q), kit_ty (by decide +kernel), rfl, true, (by rw [decide_eq_true rfl]), iteT ⟨_, rfl, _, rfl, rfl, ?_⟩⟩⟩
      rw [decide_eq_true rfl]
      exact k _ (same_upd hp)
    | int i =>
      cases hx
      cases hy
      refine ⟨_, rfl, (by show 2 ≤ sizeLine; decide), fun p hp => ⟨_, p, _, _, _, false, rfl, upd_same, .cons (.ty _) (.cons (.ty _) .nil), .base (.int i), kits (cs := ["list", "tuple"]) (by decide +kernel), _, rfl, iteF ?_⟩⟩
      refine ⟨_, rfl, _, .ty "int", _, _, true, rfl, .ty _, .base (.int i), kit_ty (by decide +kernel), _, rfl, iteT ?_⟩
      refine ⟨_, rfl, _, .ty "int", _, _, true, rfl, .ty _, .base (.int i), kit_ty (by decide +kernel), true, rfl, iteT ⟨_, rfl, _, .ty "bool", _, _, false, rfl, .ty _, .base (.int i), kit_ty (by decide +kernel), _, rfl, _, .ty "bool", _, _, false, rfl, .ty _, .base (.int i), kit_ty (by decide +kernel), rfl, true, (by rw [decide_eq_true rfl]), iteT ⟨_, rfl, _, rfl, rfl, ?_⟩⟩⟩
      rw [decide_eq_true rfl]
      exact k _ (same_upd hp)
    | list ds =>
      cases hx
      cases hy
      rename_i a xs ha hxs b ys hb hys
      refine ⟨_, rfl, (by show 2 ≤ sizeLine; decide), fun p hp => ⟨_, p, _, _, _, true, rfl, upd_same, .cons (.ty _) (.cons (.ty _) .nil), .base (.lst (same_upd hp _ _ hb)), kits (cs := ["list", "tuple"]) (by decide +kernel), _, rfl, iteT ?_⟩⟩
      have s1 := same_upd hp (o := .tup [.ty "list", .ty "tuple"])
      generalize upd H p (.tup [.ty "list", .ty "tuple"]) = H1 at s1
      have ha1 := s1 _ _ ha
      have hb1 := s1 _ _ hb
      refine ⟨_, rfl, _, .ty "list", _, _, true, rfl, .ty _, .base (.lst ha1), kit_ty (by decide +kernel), _, rfl, _, .ty "list", _, _, true, rfl, .ty _, .base (.lst hb1), kit_ty (by decide +kernel), rfl, false, rfl, iteF ?_⟩
      refine ⟨_, rfl, _, .ty "tuple", _, _, false, rfl, .ty _, .base (.lst ha1), kit_ty (by decide +kernel), _, rfl, _, .ty "tuple", _, _, false, rfl, .ty _, .base (.lst hb1), kit_ty (by decide +kernel), rfl, false, rfl, iteF ?_⟩
      have l1 := hxs.len
      have l2 := hys.len
      refine ⟨_, rfl, a, xs, rfl, Or.inl (SqL.of ha1), _, rfl, b, ys, rfl, Or.inl (SqL.of hb1), rfl, true, (by rw [l1, l2, decide_eq_true rfl]), iteT ?_⟩
      refine ⟨_, rfl, _, rfl, a, b, xs, ys, rfl, Or.inl ⟨SqL.of ha1, SqL.of hb1, fun D hD => ?_⟩⟩
      refine lc_it (walk_zip (n := ds.length) (by omega)) (AllT H1 D) ⟨same_upd hD, upd_same⟩ (fun i H' _ h => ⟨SqL.of (h.1 _ _ ha1), SqL.of (h.1 _ _ hb1)⟩) (fun i v H' H'' hi h y => ?_) (fun H' h => ?_)
      · obtain ⟨U, x, z, rfl, hU, rfl, hx, hz⟩ := y
        obtain ⟨dx, hdx, hx'⟩ := hxs.get hx
        obtain ⟨dz, hdz, hz'⟩ := hys.get hz
        rw [hdx] at hdz
        cases hdz
        obtain ⟨d0, s0⟩ := cop_child dep sz hdx
        obtain ⟨m', rfl⟩ : ∃ m', m = m' + 1 := ⟨m - 1, by omega⟩
        have s2 : Same H (upd H' U (.tup [x, z])) := same_upd2 (s1.trans h.1) hU
        refine ⟨U, _, rfl, SqT.of upd_same, rfl, _, _, rfl, _, _, rfl, rfl, rfl, _, rfl, _, rfl, x, z, dx, rfl, Dt.mono s2 _ _ hx', Dt.mono s2 _ _ hz', by omega, s0, fun H2 e2 => ?_⟩
        have nD : D ≠ U := ne_of_none h.2 hU
        refine ⟨_, e2 _ _ (by rw [upd_ne nD]; exact h.2), ?_, same_mut ((same_upd2 h.1 hU).trans e2) hD, ?_⟩
        · have := cop_size sz
          exact sz_lt1 (by rw [List.length_map, List.length_replicate]) (by omega)
        · rw [upd_same, List.replicate_succ', List.map_append]
          rfl
      · refine ⟨D, List.replicate ds.length true, rfl, SqL.of h.2, ?_⟩
        rw [all_true]
        exact k _ (s1.trans h.1)
    | tuple ds =>
      cases hx
      cases hy
      rename_i a xs ha hxs b ys hb hys
      refine ⟨_, rfl, (by show 2 ≤ sizeLine; decide), fun p hp => ⟨_, p, _, _, _, true, rfl, upd_same, .cons (.ty _) (.cons (.ty _) .nil), .base (.tup (same_upd hp _ _ hb)), kits (cs := ["list", "tuple"]) (by decide +kernel), _, rfl, iteT ?_⟩⟩
      have s1 := same_upd hp (o := .tup [.ty "list", .ty "tuple"])
      generalize upd H p (.tup [.ty "list", .ty "tuple"]) = H1 at s1
      have ha1 := s1 _ _ ha
      have hb1 := s1 _ _ hb
      refine ⟨_, rfl, _, .ty "list", _, _, false, rfl, .ty _, .base (.tup ha1), kit_ty (by decide +kernel), _, rfl, _, .ty "list", _, _, false, rfl, .ty _, .base (.tup hb1), kit_ty (by decide +kernel), rfl, false, rfl, iteF ?_⟩
      refine ⟨_, rfl, _, .ty "tuple", _, _, true, rfl, .ty _, .base (.tup ha1), kit_ty (by decide +kernel), _, rfl, _, .ty "tuple", _, _, true, rfl, .ty _, .base (.tup hb1), kit_ty (by decide +kernel), rfl, false, rfl, iteF ?_⟩
      have l1 := hxs.len
      have l2 := hys.len
      refine ⟨_, rfl, a, xs, rfl, Or.inr (SqT.of ha1), _, rfl, b, ys, rfl, Or.inr (SqT.of hb1), rfl, true, (by rw [l1, l2, decide_eq_true rfl]), iteT ?_⟩
      refine ⟨_, rfl, _, rfl, a, b, xs, ys, rfl, Or.inr ⟨SqT.of ha1, SqT.of hb1, fun D hD => ?_⟩⟩
      refine lc_it (walk_zipT (n := ds.length) (by omega)) (AllT H1 D) ⟨same_upd hD, upd_same⟩ (fun i H' _ h => ⟨SqT.of (h.1 _ _ ha1), SqT.of (h.1 _ _ hb1)⟩) (fun i v H' H'' hi h y => ?_) (fun H' h => ?_)
      · obtain ⟨U, x, z, rfl, hU, rfl, hx, hz⟩ := y
        obtain ⟨dx, hdx, hx'⟩ := hxs.get hx
        obtain ⟨dz, hdz, hz'⟩ := hys.get hz
        rw [hdx] at hdz
        cases hdz
        obtain ⟨d0, s0⟩ := cop_child' dep sz hdx
        obtain ⟨m', rfl⟩ : ∃ m', m = m' + 1 := ⟨m - 1, by omega⟩
        have s2 : Same H (upd H' U (.tup [x, z])) := same_upd2 (s1.trans h.1) hU
        refine ⟨U, _, rfl, SqT.of upd_same, rfl, _, _, rfl, _, _, rfl, rfl, rfl, _, rfl, _, rfl, x, z, dx, rfl, Dt.mono s2 _ _ hx', Dt.mono s2 _ _ hz', by omega, s0, fun H2 e2 => ?_⟩
        have nD : D ≠ U := ne_of_none h.2 hU
        refine ⟨_, e2 _ _ (by rw [upd_ne nD]; exact h.2), ?_, same_mut ((same_upd2 h.1 hU).trans e2) hD, ?_⟩
        · have := cop_size' sz
          exact sz_lt1 (by rw [List.length_map, List.length_replicate]) (by omega)
        · rw [upd_same, List.replicate_succ', List.map_append]
          rfl
      · refine ⟨D, List.replicate ds.length true, rfl, SqL.of h.2, ?_⟩
        rw [all_true]
        exact k _ (s1.trans h.1)
theorem okSame {f : Addr} {fd : FuncData} (F : Fun K "_law_same" "_law_same" sSame f fd) (T : TxtB mg) (mC : mg "_law_same" = some (.ref f)) (kC : PySem.W.keepIn K (.ref f) = true) (bC : Binds K fd ["_law_found", "_law_due"] []) :
    ∀ m, FnOk P w K mg base CX0 (m + 1) f fd ["_law_found", "_law_due"] (spSame m)
  | 0 => ⟨fun _ _ _ _ h => h.elim, fun _ _ _ _ _ _ _ _ _ _ _ _ _ h => h.elim⟩
  | m + 1 => stepSame F T (okSame F T mC kC bC m) mC kC bC
end
end K01

namespace K01
open PySem L2 PyProof.Rows
/-! ### a store into a field as a target -/
def gFld (K : PySem.W.Frag) (to : TE) (f : Str) : TG := fun v σ H Q => to σ H fun x H1 => ∃ a C dx fs, x = .ref a ∧ H1 a = some (.ins C dx fs) ∧ Cls K C ∧ NoAttr K C f ∧ fs.length < 1000 ∧ Q σ (upd H1 a (.ins C dx (putF f v fs)))
theorem pg_fld {X : Cx} {o : Expr} {to : TE} {f : Str} {pos : Pos} (ho : PE X o to) : PG X (.Attribute o f pos) (gFld X.K to f) := by
  refine ⟨fun pins s σ H v u Q I r h => PySem.W.kas_attr (thn (ho.run pins s σ H _ I h) fun ov s1 hh => ?_)⟩
  obtain ⟨x, H1, I1, rx, a, C, dx, fs, ex, ea, c, n, l, q⟩ := hh
  subst ex
  obtain rfl : ov = Value.ref a := rx
  exact setattr_ok I1 ea c n l r fun s3 I3 => ⟨σ, _, I3, q⟩
/-! ### comprehensions of bools -/
def BlI {α : Type} (f : α → Bool) (H1 : Hp) (D : Addr) (xs : List α) (i : Nat) (H' : Hp) : Prop := Same H1 H' ∧ H' D = some (.lst ((xs.take i).map fun x => V.bl (f x)))
theorem blI0 {α : Type} {f : α → Bool} {H1 : Hp} {D : Addr} {xs : List α} (hD : H1 D = none) : BlI f H1 D xs 0 (upd H1 D (.lst [])) := ⟨same_upd hD, upd_same⟩
theorem blI_step {α : Type} {f : α → Bool} {H1 H' H2 : Hp} {D : Addr} {xs : List α} {i : Nat} {x : α} {b : Bool} (hD : H1 D = none) (hx : xs[i]? = some x) (h : BlI f H1 D xs i H') (e : Same H' H2) (hb : b = f x) (hs : xs.length ≤ 1000) :
    ∃ acc, H2 D = some (.lst acc) ∧ acc.length < sizeLine ∧ BlI f H1 D xs (i + 1) (upd H2 D (.lst (acc ++ [.bl b]))) := by
  have hi : i < xs.length := (List.getElem?_eq_some_iff.mp hx).1
  refine ⟨_, e _ _ h.2, sz_lt1 (by rw [List.length_map, List.length_take]; omega) (show i < 1001 by omega), same_mut (h.1.trans e) hD, ?_⟩
  rw [upd_same, take_more' hx, List.map_append, hb]
  rfl
theorem blI_end {α : Type} {f : α → Bool} {H1 H' : Hp} {D : Addr} {xs : List α} {n : Nat} (hn : n = xs.length) (h : BlI f H1 D xs n H') : Same H1 H' ∧ H' D = some (.lst ((xs.map f).map V.bl)) := by
  have h2 := h.2
  rw [hn, List.take_length] at h2
  refine ⟨h.1, ?_⟩
  rw [h2, List.map_map]
  rfl
/-! ### is_row, is_integer -/
def spIsRow (K : PySem.W.Frag) : Sp := fun vs H Q _ => ∃ (x : V) (t : String) (b : Bool), vs = [x] ∧ TyX K H x (.type t) ∧ kitsB t ["list", "tuple"] = some b ∧ ∀ H', Same H H' → Q (.bl b) H'
def spIsInt (K : PySem.W.Frag) : Sp := fun vs H Q _ => ∃ (x : V) (t : String) (b c : Bool), vs = [x] ∧ TyX K H x (.type t) ∧ kitB t "int" = some b ∧ kitB t "bool" = some c ∧ Q (.bl (b && !c)) H
theorem TyX.keep {K : PySem.W.Frag} {H H' : Hp} {x : V} {t : String} (e : Same H H') (h : TyX K H x (.type t)) : TyX K H' x (.type t) := by
  cases h with
  | base h =>
    cases h with
    | non => exact .base .non
    | bl x => exact .base (.bl x)
    | int i => exact .base (.int i)
    | str x => exact .base (.str x)
    | flt x => exact .base (.flt x)
    | lst h => exact .base (.lst (e _ _ h))
    | frz h => exact .base (.frz (e _ _ h))
    | tup h => exact .base (.tup (e _ _ h))
    | dK h => exact .base (.dK (e _ _ h))
    | dT h => exact .base (.dT (e _ _ h))
  | byt b => exact .byt b
  | set h => exact .set (e _ _ h)
  | kList h c => exact .kList h c
  | kTuple h c => exact .kTuple h c
  | kDict h c => exact .kDict h c
  | fTuple h => exact .fTuple (e _ _ h)
  | fDict h => exact .fDict (e _ _ h)
section
variable {P : Program} {w : World} {K : PySem.W.Frag} {mg : Str → Option Value} {base : Heap}
theorem scIsRow : FnScope ["thing"] ["thing"] (defScope sIsRow) := ⟨rfl, rfl, rfl, by decide +kernel, rfl, by decide +kernel, by decide +kernel⟩
theorem ok_isRow {f : Addr} {fd : FuncData} (F : Fun K "is_row" "is_row" sIsRow f fd) (T : TxtB mg) : FnOk P w K mg base CX0 1 f fd ["thing"] (spIsRow K) := by
  refine F.ok scIsRow (fun vs H Q E h => ?_) (fun cdv A outer s H vs Q E hr h => ?_)
  · obtain ⟨x, t, b, rfl, _⟩ := h
    rfl
  · obtain ⟨x, t, b, rfl, tx, hb, k⟩ := h
    refine ⟨_, pss_one (ps_ret (pe_callB call_isiT (by rfl) T.isinstance (by decide +kernel) (pa_cons (pv 0) (pa_cons (pe_tup (pa_cons (pe_bltn (v := .ty "list") (by rfl) T.list (by decide +kernel) rfl) (pa_cons (pe_bltn (v := .ty "tuple") (by rfl) T.tuple (by decide +kernel) rfl) pa_nil))) pa_nil)))), ?_⟩
    exact ⟨_, rfl, (by show 2 ≤ sizeLine; decide), fun p hp => ⟨_, p, _, _, _, b, rfl, upd_same, .cons (.ty _) (.cons (.ty _) .nil), TyX.keep (same_upd hp) tx, kits hb, k _ (same_upd hp)⟩⟩
theorem scIsInt : FnScope ["thing"] ["thing"] (defScope sIsInt) := ⟨rfl, rfl, rfl, by decide +kernel, rfl, by decide +kernel, by decide +kernel⟩
theorem ok_isInt {f : Addr} {fd : FuncData} (F : Fun K "is_integer" "is_integer" sIsInt f fd) (T : TxtB mg) : FnOk P w K mg base CX0 1 f fd ["thing"] (spIsInt K) := by
  refine F.ok scIsInt (fun vs H Q E h => ?_) (fun cdv A outer s H vs Q E hr h => ?_)
  · obtain ⟨x, t, b, c, rfl, _⟩ := h
    rfl
  · obtain ⟨x, t, b, c, rfl, tx, hb, hc, k⟩ := h
    refine ⟨_, pss_one (ps_ret (pe_and (pe_callB call_isi (by rfl) T.isinstance (by decide +kernel) (pa_cons (pv 0) (pa_cons (pe_bltn (v := .ty "int") (by rfl) T.int (by decide +kernel) rfl) pa_nil))) (pe_one (pe_not (pe_callB call_isi (by rfl) T.isinstance (by decide +kernel) (pa_cons (pv 0) (pa_cons (pe_bltn (v := .ty "bool") (by rfl) T.bool (by decide +kernel) rfl) pa_nil))))))), ?_⟩
    refine ⟨_, rfl, _, .ty "int", _, _, b, rfl, .ty _, tx, kit_ty hb, b, rfl, ?_⟩
    cases b with
    | true => exact iteT ⟨_, rfl, _, .ty "bool", _, _, c, rfl, .ty _, tx, kit_ty hc, c, rfl, k⟩
    | false => exact iteF k
/-! ### has_gap, is_flag -/
def flagsAll : List Str := ["-a", "-b", "-c", "-x", "--all", "--alps", "--al", "--beta", "--b-c", "-foo", "-far"]
def spHasGap : Sp := fun vs H Q _ => ∃ x : Str, vs = [.str x] ∧ x ∈ flagsAll ∧ ∀ H', Same H H' → Q (.bl false) H'
def gapB (c : Nat) : Bool := !(Builtin.Str.occurrences (" \n=" : Str) (⟨#[c]⟩ : Str) 0 (" \n=" : Str).length 1).isEmpty
theorem flags_gap : ∀ x ∈ flagsAll, (x.cps.toList.map gapB).any id = false ∧ x.cps.toList.length ≤ 20 := by decide +kernel
theorem scHasGap : FnScope ["text", "sign"] ["text"] (defScope sHasGap) := ⟨rfl, rfl, rfl, by decide +kernel, rfl, by decide +kernel, by decide +kernel⟩
theorem ok_hasGap {f : Addr} {fd : FuncData} (F : Fun K "has_gap" "has_gap" sHasGap f fd) (zAny : mg "any" = none) : FnOk P w K mg base CX0 1 f fd ["text"] spHasGap := by
  refine F.ok scHasGap (fun vs H Q E h => ?_) (fun cdv A outer s H vs Q E hr h => ?_)
  · obtain ⟨x, rfl, _⟩ := h
    rfl
  · obtain ⟨x, rfl, hx, k⟩ := h
    obtain ⟨g1, g2⟩ := flags_gap x hx
    refine ⟨_, pss_one (ps_ret (pe_callB (cr_any rfl) (by rfl) zAny (by decide +kernel) (pa_cons (pe_lc (own := [("sign", 1)]) (g := gName 1) (tt := tYes) rfl scHasGap.nd (pi_str (pv 0)) (blkOk_by (N := ["text", "sign"]) (sc := defScope sHasGap) (by decide +kernel)) (fun _ _ _ _ _ => pg_name (i := 1) scHasGap.nd rfl (Or.inl rfl)) (fun _ _ _ _ _ => pts_nil)
      (fun _ _ _ _ _ => by exact pe_cmpR op_in_str (pv 1) pe_str (by rfl))) pa_nil))), ?_⟩
    refine ⟨_, rfl, x, rfl, fun D hD => ?_⟩
    refine lc_it walk_str (BlI gapB H D x.cps.toList) (blI0 hD) (fun _ _ _ _ => trivial) (fun i v H' H'' hi h y => ?_) (fun H' h => ?_)
    · obtain ⟨rfl, c, hc, rfl⟩ := y
      refine ⟨rfl, _, rfl, _, _, rfl, rfl, ?_⟩
      exact blI_step hD (by rw [Array.getElem?_toList]; exact hc) h (Same.refl _) rfl (by omega)
    · obtain ⟨e, hl⟩ := blI_end (by simp) h
      refine ⟨D, _, rfl, SqL.of hl, ?_⟩
      rw [g1]
      exact k _ e
def spIsFlag : Sp := fun vs H Q _ => ∃ x : Str, vs = [.str x, .str "-"] ∧ x ∈ flagsAll ∧ ∀ H', Same H H' → Q (.bl true) H'
theorem scIsFlag : FnScope ["text", "prefix_chars"] ["text", "prefix_chars"] (defScope sIsFlag) := ⟨rfl, rfl, rfl, by decide +kernel, rfl, by decide +kernel, by decide +kernel⟩
theorem flags_ok : ∀ x ∈ flagsAll, (!decide (V.str x = V.str ("" : Str))) = true ∧ atI x.cps.toList 0 = some 45 ∧ (!decide (V.str (Txt.lstripChars x "-") = V.str ("" : Str))) = true ∧ x.length ≤ 20 := by decide +kernel
theorem dash_in : (!(Builtin.Str.occurrences ("-" : Str) (⟨#[45]⟩ : Str) 0 ("-" : Str).length 1).isEmpty) = true := by decide +kernel
theorem ok_isFlag {f fG : Addr} {fd fdG : FuncData} (F : Fun K "is_flag" "is_flag" sIsFlag f fd) (G : FnOk P w K mg base CX0 1 fG fdG ["text"] spHasGap) (mG : mg "has_gap" = some (.ref fG)) (kG : PySem.W.keepIn K (.ref fG) = true) (bG : Binds K fdG ["text"] []) : FnOk P w K mg base CX0 2 f fd ["text", "prefix_chars"] spIsFlag := by
  refine F.ok scIsFlag (fun vs H Q E h => ?_) (fun cdv A outer s H vs Q E hr h => ?_)
  · obtain ⟨x, rfl, _⟩ := h
    rfl
  · obtain ⟨x, rfl, hx, k⟩ := h
    obtain ⟨g1, g2, g3, g4⟩ := flags_ok x hx
    refine ⟨_, pss_one (ps_ret (pe_and (pe_cmpR op_ne (pv 0) pe_str (nomark _)) (pe_and (pe_cmpR op_in_str (pe_ix ix_str (pv 0) pe_int (fun _ _ => rfl)) (pv 1) (by rfl)) (pe_and (pe_cmpR op_ne (pe_bm PySem.F.plainAttrs_str PySem.F.slot_str_lstrip PySem.F.type_str_lstrip mt_lstripChars (pv 0) (pa_cons (pv 1) pa_nil)) pe_str (nomark _)) (pe_one (pe_not (pe_call G hr rfl mG kG bG .nil pass0 (pa_cons (pv 0) pa_nil)))))))), ?_⟩
    refine ⟨_, rfl, rfl, _, rfl, ?_⟩
    rw [g1]
    refine iteT ⟨_, rfl, x, 0, 45, rfl, rfl, (by rw [PySem.sizeLine_eq]; omega), g2, _, rfl, _, _, rfl, rfl, _, rfl, ?_⟩
    rw [dash_in]
    refine iteT ⟨_, rfl, rfl, _, rfl, _, _, rfl, rfl, (by rw [PySem.sizeLine_eq]; omega), rfl, _, rfl, ?_⟩
    rw [g3]
    exact iteT ⟨_, rfl, x, rfl, hx, fun H' e => ⟨_, rfl, k H' e⟩⟩
end
end K01

namespace K01
open PySem L2 PyProof.Rows
theorem pt_never {X : Cx} {e : Expr} : PT X e (fun _ _ _ => False) := ⟨fun _ _ _ _ _ _ h => h.elim⟩
theorem pw_never {X : Cx} {e : Expr} : PW X e (fun _ _ _ => False) := ⟨fun _ _ _ _ _ _ _ h => h.elim⟩
/-- flags, a list of them -/
def okF (fl : List Str) : Prop := fl ≠ [] ∧ fl.length ≤ 20 ∧ ∀ x ∈ fl, x ∈ flagsAll
theorem okF_shaped {fl : List Str} (h : ∀ x ∈ fl, x ∈ flagsAll) : SeqAt.shaped (.tuple (fl.map PyData.str)) = true := by
  have key : PyData.canLayAll0 (fl.map PyData.str) = true ∧ PyData.depthAll (fl.map PyData.str) = 0 := by
    induction fl with
    | nil => exact ⟨rfl, rfl⟩
    | cons k ks ih =>
      obtain ⟨i1, i2⟩ := ih fun j hj => h j (List.mem_cons_of_mem _ hj)
      constructor
      · show (PyData.strOk k && PyData.canLayAll0 (ks.map PyData.str)) = true
        rw [i1, Bool.and_true]
        exact (by decide +kernel : ∀ k ∈ flagsAll, PyData.strOk k = true) k (h k List.mem_cons_self)
      · show max 0 (PyData.depthAll (ks.map PyData.str)) = 0
        rw [i2]
        rfl
  unfold SeqAt.shaped
  rw [Bool.and_eq_true]
  refine ⟨key.1, ?_⟩
  apply decide_eq_true
  show PyData.depthAll (fl.map PyData.str) + 1 ≤ 64
  rw [key.2]
  decide
theorem dpAll_strs {K : PySem.W.Frag} {H : Hp} : ∀ ks : List Str, DpAll K H (ks.map V.str) (ks.map PyData.str)
  | [] => .nil
  | k :: ks => .cons (.str k) (dpAll_strs ks)
theorem str_at {ys : List Str} {i : Nat} {x : V} (hx : (ys.map V.str)[i]? = some x) : ∃ k, ys[i]? = some k ∧ x = V.str k := by
  rw [List.getElem?_map] at hx
  cases e : ys[i]? with
  | none =>
    rw [e] at hx
    cases hx
  | some k =>
    rw [e] at hx
    exact ⟨k, rfl, (Option.some.inj hx).symm⟩
theorem all_tt {α : Type} (xs : List α) : (xs.map fun _ => true).all id = true := by
  induction xs with
  | nil => rfl
  | cons x xs ih => exact ih
/-- names of positionals -/
def goals : List Str := ["p", "q"]
/-- what is given as flags gs, what the flags are fl, what the options tell of the name, the name -/
def Named (gs fl : List Str) (d : Option Str) (r : Str) : Prop := (okF gs ∧ fl = gs ∧ d = some r ∧ r ≠ "") ∨ (r ∈ goals ∧ gs = [r] ∧ fl = [] ∧ d = none)
theorem goals_ok : ∀ g ∈ goals, (!decide (V.str g = V.str ("" : Str))) = true ∧ atI g.cps.toList 0 = some (g.cps.toList.getD 0 0) ∧ g.length ≤ 20 ∧ (Builtin.Str.occurrences ("-" : Str) (⟨#[g.cps.toList.getD 0 0]⟩ : Str) 0 ("-" : Str).length 1).isEmpty = true := by decide +kernel
theorem Named.len {gs fl : List Str} {d : Option Str} {r : Str} (h : Named gs fl d r) : gs ≠ [] ∧ gs.length ≤ 20 := by
  rcases h with ⟨h, _⟩ | ⟨_, rfl, _⟩
  · exact ⟨h.1, h.2.1⟩
  · exact ⟨(fun z => nomatch z), by show 1 ≤ 20; decide⟩
theorem Named.fls {gs fl : List Str} {d : Option Str} {r : Str} (h : Named gs fl d r) : fl.length ≤ 20 ∧ ∀ x ∈ fl, x ∈ flagsAll := by
  rcases h with ⟨h, rfl, _⟩ | ⟨_, _, rfl, _⟩
  · exact h.2
  · exact ⟨Nat.zero_le _, fun x hx => nomatch hx⟩
def spChk (K : PySem.W.Frag) : Sp := fun vs H Q _ => ∃ (a : Addr) (gs fl : List Str) (d : Option Str) (r : Str), vs = [.ref a, .str "-"] ∧ H a = some (.lst (gs.map V.str)) ∧ Named gs fl d r ∧ ∀ (T : Addr) (H' : Hp), Same H H' → H T = none → H' T = some (.tup (fl.map V.str)) → Q (.ref T) H'
section
variable {P : Program} {w : World} {K : PySem.W.Frag} {mg : Str → Option Value} {base : Heap}
/-- a function of the top, its promise at hand -/
structure At (P : Program) (w : World) (K : PySem.W.Frag) (mg : Str → Option Value) (base : Heap) (nm : Str) (k : Nat) (ps : List Str) (sp : Sp) (f : Addr) (fd : FuncData) : Prop where
  ok : FnOk P w K mg base CX0 k f fd ps sp
  m : mg nm = some (.ref f)
  k : PySem.W.keepIn K (.ref f) = true
  b : Binds K fd ps []
abbrev nChk : List Str := ["flags", "prefix_chars", "flag"]
theorem scChk : FnScope nChk ["flags", "prefix_chars"] (defScope sChkFlags) := ⟨rfl, rfl, rfl, by decide +kernel, rfl, by decide +kernel, by decide +kernel⟩
theorem ok_chk {f fR fF : Addr} {fd fdR fdF : FuncData} (F : Fun K "checked_flags" "checked_flags" sChkFlags f fd) (T : TxtB mg) (zStr : mg "str" = none) (R : At P w K mg base "is_row" 1 ["thing"] (spIsRow K) fR fdR) (G : At P w K mg base "is_flag" 2 ["text", "prefix_chars"] spIsFlag fF fdF) :
    FnOk P w K mg base CX0 3 f fd ["flags", "prefix_chars"] (spChk K) := by
  refine F.ok scChk (fun vs H Q E h => ?_) (fun cdv A outer s H vs Q E hr h => ?_)
  · obtain ⟨a, gs, fl, d, r, rfl, _⟩ := h
    rfl
  · obtain ⟨a, fl, ml, dd, rr, rfl, ha, hG, k⟩ := h
    obtain ⟨f0, fl20⟩ := hG.len
    have r1 : Room 1 (A.deeper (PyProof.Rows.envOfC "checked_flags" (defScope sChkFlags) s.heap.objs.size f cdv)) := hr.mono (by decide)
    refine ⟨_, pss_cons (ps_if (PW.pt (pw_or (pt_not (pt_val (pe_call R.ok r1 rfl R.m R.k R.b .nil pass0 (pa_cons (pv 0) pa_nil)))) (pw_or1 (pt_not (pt_val (pe_callB (cr_all rfl) (by rfl) T.all (by decide +kernel) (pa_cons (pe_lc (own := [("flag", 2)]) (g := gName 2) (tt := tYes) (te := tCB (rIsi K) (tCons (tVar 2) (tCons (tC (.ty "str")) tNil))) rfl scChk.nd (pi_list (pv 0)) (blkOk_by (N := nChk) (sc := defScope sChkFlags) (by decide +kernel)) (fun _ _ _ _ _ => pg_name (i := 2) scChk.nd rfl (Or.inl rfl)) (fun _ _ _ _ _ => pts_nil)
        (fun _ _ _ _ _ => by exact pe_callB call_isi (by rfl) T.isinstance (by decide +kernel) (pa_cons (pv 2) (pa_cons (pe_bltn (v := .ty "str") (by rfl) zStr (by decide +kernel) rfl) pa_nil)))) pa_nil))))))) pss_never pss_nil)
      (pss_cons (ps_if (PW.pt (pw_or (pt_cmpR op_eq (pe_callB call_len_seq (by rfl) T.len PySem.boot_len (pa_cons (pv 0) pa_nil)) pe_int (nomark _)) (pw_or1 (PW.pt (pw_and (pt_cmpR op_eq (pe_callB call_len_seq (by rfl) T.len PySem.boot_len (pa_cons (pv 0) pa_nil)) pe_int (nomark _)) (pw_and (pt_cmpR op_ne (pe_ix ix_list (pv 0) pe_int (fun _ _ => rfl)) pe_str (nomark _)) (pw_and1 (pt_cmpR op_notin_str (pe_ix ix_str (pe_ix ix_list (pv 0) pe_int (fun _ _ => rfl)) pe_int (fun _ _ => rfl)) (pv 1) (by rfl))))))))) (pss_one (ps_ret (pe_tup pa_nil))) pss_nil)
      (pss_cons (ps_if (pt_not (pt_val (pe_callB (cr_all rfl) (by rfl) T.all (by decide +kernel) (pa_cons (pe_lc (own := [("flag", 2)]) (g := gName 2) (tt := tYes) (te := tCall spIsFlag [] E0 (tCons (tVar 2) (tCons (tVar 1) tNil))) rfl scChk.nd (pi_list (pv 0)) (blkOk_by (N := nChk) (sc := defScope sChkFlags) (by decide +kernel)) (fun _ _ _ _ _ => pg_name (i := 2) scChk.nd rfl (Or.inl rfl)) (fun _ _ _ _ _ => pts_nil)
        (fun _ _ _ _ _ => by exact pe_call G.ok (by exact hr) rfl G.m G.k G.b .nil pass0 (pa_cons (pv 2) (pa_cons (pv 1) pa_nil)))) pa_nil)))) pss_never pss_nil)
      (pss_one (ps_ret (pe_callTy call_tuple_of (by rfl) T.tuple (by decide +kernel) (pa_cons (pv 0) pa_nil)))))), ?_⟩
    -- is_row
    refine ⟨_, rfl, _, "list", true, rfl, .base (.lst ha), by decide +kernel, fun H1 e1 => ⟨_, rfl, iteF ?_⟩⟩
    -- all isinstance
    refine ⟨_, rfl, a, rfl, ⟨_, SqL.of (e1 _ _ ha)⟩, fun D hD => ?_⟩
    refine lc_list (K := K) (a := a) (xs := fl.map V.str) (BlI (fun _ => true) H1 D fl) (blI0 hD) (fun i H' _ h => SqL.of (h.1 _ _ (e1 _ _ ha))) (fun i x H' hx h => ?_) (fun H2 h => ?_)
    · obtain ⟨z, hz, rfl⟩ := str_at hx
      exact ⟨rfl, _, rfl, _, .ty "str", _, _, true, rfl, .ty _, .base (.str z), kit_ty (by decide +kernel), blI_step hD hz h (Same.refl _) rfl (by omega)⟩
    obtain ⟨e2, hl⟩ := blI_end (by rw [List.length_map]) h
    refine ⟨D, _, rfl, SqL.of hl, ?_⟩
    rw [all_tt]
    refine ⟨_, rfl, iteF ?_⟩
    have e12 := e1.trans e2
    have ha2 := e12 _ _ ha
    -- lengths
    have hlen : (fl.map V.str).length ≠ 0 := by
      rw [List.length_map]
      exact fun z => f0 (List.length_eq_zero_iff.mp z)
    refine ⟨_, rfl, a, _, rfl, .inl (SqL.of ha2), rfl, false, ?_, iteF ?_⟩
    · exact congrArg V.bl (decide_eq_false fun z => hlen (by have := V.int.inj z; omega))
    rcases hG with ⟨okf, rfl, _⟩ | ⟨hg, rfl, rfl, _⟩
    rotate_left
    · obtain ⟨g1, g2, g3, g4⟩ := goals_ok rr hg
      refine ⟨_, rfl, a, _, rfl, .inl (SqL.of ha2), rfl, _, rfl, ?_⟩
      refine iteT ⟨_, rfl, a, _, _, _, rfl, rfl, SqL.of ha2, atI_nat (j := 0) rfl, rfl, _, rfl, ?_⟩
      rw [g1]
      refine iteT ⟨_, rfl, a, _, _, _, rfl, rfl, SqL.of ha2, atI_nat (j := 0) rfl, rr, 0, _, rfl, rfl, (by rw [PySem.sizeLine_eq]; omega), g2, _, rfl, _, _, rfl, rfl, _, rfl, ?_⟩
      rw [g4]
      exact iteT ⟨(by show 0 ≤ sizeLine; decide), fun T hT => k T _ (e12.trans (same_upd hT)) (Same.free e12 hT) upd_same⟩
    have fA := okf.2.2
    have h0 : ∃ z, ml[0]? = some z ∧ (ml.map V.str)[0]? = some (.str z) ∧ z ∈ flagsAll := by
      cases ml with
      | nil => exact absurd rfl f0
      | cons z zs => exact ⟨z, rfl, rfl, fA z List.mem_cons_self⟩
    obtain ⟨z, _, hz, hzA⟩ := h0
    obtain ⟨g1, g2, _, g4⟩ := flags_ok z hzA
    refine ⟨_, rfl, a, _, rfl, .inl (SqL.of ha2), rfl, _, rfl, ?_⟩
    have fin : tIfS (tNot (tB (tCB (rAll K) (tCons (tLc (iList K (tVar 0)) (gName 2) tYes (tCall spIsFlag [] E0 (tCons (tVar 2) (tCons (tVar 1) tNil))) [2]) tNil)))) (fun _ _ _ => False) tNext
        { nx := fun σ H' => tRet (tCB (fun xs H Q => ∃ p ys, xs = [V.ref p] ∧ ((SqL K H p ys ∧ ∀ l, H l = none → Q (V.ref l) (upd H l (.tup ys))) ∨ (SqT K H p ys ∧ Q (V.ref p) H))) (tCons (tVar 0) tNil)) { nx := fun _ H' => Q .non H', rt := Q } σ H', rt := Q } (start nChk [.ref a, .str "-"]) H2 := by
      refine ⟨_, rfl, a, rfl, ⟨_, SqL.of ha2⟩, fun D hD => ?_⟩
      refine lc_list (K := K) (a := a) (xs := ml.map V.str) (BlI (fun _ => true) H2 D ml) (blI0 hD) (fun i H' _ h => SqL.of (h.1 _ _ ha2)) (fun i x H' hx h => ?_) (fun H3 h => ?_)
      · obtain ⟨y, hy, rfl⟩ := str_at hx
        exact ⟨rfl, _, rfl, _, rfl, y, rfl, fA y (List.mem_of_getElem? hy), fun H4 e4 => blI_step hD hy h e4 rfl (by omega)⟩
      obtain ⟨e3, hl⟩ := blI_end (by rw [List.length_map]) h
      refine ⟨D, _, rfl, SqL.of hl, ?_⟩
      rw [all_tt]
      refine ⟨_, rfl, iteF ⟨_, rfl, a, _, rfl, .inl ⟨SqL.of (e3 _ _ ha2), fun T hT => ?_⟩⟩⟩
      exact k T _ (e12.trans (same_upd2 e3 hT)) (Same.free (e12.trans e3) hT) upd_same
    refine ite2 (fun hc => ?_) (fun hc => ?_)
    · refine ⟨_, rfl, a, _, _, _, rfl, rfl, SqL.of ha2, atI_nat (j := 0) hz, rfl, _, rfl, ?_⟩
      rw [g1]
      refine iteT ⟨_, rfl, a, _, _, _, rfl, rfl, SqL.of ha2, atI_nat (j := 0) hz, z, 0, 45, rfl, rfl, (by rw [PySem.sizeLine_eq]; omega), g2, _, rfl, _, _, rfl, rfl, _, rfl, ?_⟩
      rw [dash_in]
      exact iteF fin
    · exact iteF fin
end
end K01

namespace K01
open PySem L2 PyProof.Rows
/-- a constant tuple of the top -/
structure KT (K : PySem.W.Frag) (mg : Str → Option Value) (nm : Str) (a : Addr) (xs : List V) : Prop where
  m : mg nm = some (.ref a)
  q : ∀ H : Hp, SqT K H a xs
/-- what the options of an argument tell: dest, action, nargs -/
def optK (d a : Option Str) (n : Option V) : List (Key × V) := (match d with | some s => [(Sum.inr "dest", .str s)] | none => []) ++ ((match a with | some s => [(Sum.inr "action", .str s)] | none => []) ++ (match n with | some v => [(Sum.inr "nargs", v)] | none => []))
def acts : List Str := ["store", "append", "store_true", "count"]
/-- numbers of words, as they are handed -/
def okN : Option V → Prop
  | none => True
  | some v => v ∈ [V.str "?", V.str "*", V.str "+", V.str "...", V.int 1, V.int 2]
structure OpAt (H : Hp) (o : Addr) (d a : Option Str) (n : Option V) : Prop where
  at_ : H o = some (.dK (optK d a n))
  ok : ∀ s, a = some s → s ∈ acts
  nn : okN n
  nw : ∀ v, n = some v → a.getD "store" ∈ (["store", "append"] : List Str)
theorem OpAt.keep {H H' : Hp} {o : Addr} {d a : Option Str} {n : Option V} (h : OpAt H o d a n) (e : Same H H') : OpAt H' o d a n := ⟨e _ _ h.at_, h.ok, h.nn, h.nw⟩
theorem valV_cons {j k : Key} {v : V} {r : List (Key × V)} : valV ((j, v) :: r) k = if j = k then some v else valV r k := by
  unfold valV
  rw [List.find?_cons]
  by_cases e : j = k
  · rw [decide_eq_true e, if_pos e]
    rfl
  · rw [decide_eq_false e, if_neg e]
theorem ne_inr {a b : Str} (h : a ≠ b) : ¬ (Sum.inr a : Key) = Sum.inr b := fun z => h (Sum.inr.inj z)
theorem opt_dest {d a : Option Str} {n : Option V} : valV (optK d a n) (Sum.inr ("dest" : Str) : Key) = d.map V.str := by
  cases d <;> cases a <;> cases n <;> rfl
theorem opt_action {d a : Option Str} {n : Option V} : valV (optK d a n) (Sum.inr ("action" : Str) : Key) = a.map V.str := by
  cases d <;> cases a <;> cases n <;> rfl
theorem opt_nargs {d a : Option Str} {n : Option V} : valV (optK d a n) (Sum.inr ("nargs" : Str) : Key) = n := by
  cases d <;> cases a <;> cases n <;> rfl
theorem opt_else {d a : Option Str} {n : Option V} {k : Str} (h : ("dest" : Str) ≠ k) (h1 : ("action" : Str) ≠ k) (h2 : ("nargs" : Str) ≠ k) : valV (optK d a n) (Sum.inr k : Key) = none := by
  unfold optK
  cases d <;> cases a <;> cases n <;> simp [valV_cons, h, h1, h2] <;> rfl
def spNamed : Sp := fun vs H Q _ => ∃ (fa m o : Addr) (gs fl : List Str) (r : Str) (d a : Option Str) (n : Option V), vs = [.ref fa, .ref m, .ref o, .str "-"] ∧ H fa = some (.lst (gs.map V.str)) ∧ H m = some (.tup (fl.map V.str)) ∧ Named gs fl d r ∧ OpAt H o d a n ∧ ∀ H', Same H H' → Q (.str r) H'
def wW : List V := [.str "store", .str "append", .str "extend"]
def wC : List V := [.str "store_const", .str "append_const"]
def wO : List V := [.str "store_true", .str "store_false", .str "count", .str "yes_no"]
def wN : List V := [.str "?", .str "*", .str "+", .str "..."]
def wL : List V := [.str "append", .str "append_const", .str "extend"]
def wA : List V := [.str "action", .str "dest", .str "help"]
structure TxtK (K : PySem.W.Frag) (mg : Str → Option Value) (aW aC aO aN aL aA : Addr) : Prop where
  W : KT K mg "WITH_WORDS" aW wW
  C : KT K mg "WITH_CONST" aC wC
  O : KT K mg "WITHOUT" aO wO
  N : KT K mg "WORD_COUNTS" aN wN
  L : KT K mg "LISTS" aL wL
  A : KT K mg "ALWAYS" aA wA
  sup : ∃ t, mg "SUPPRESS" = some (.str "==SUPPRESS==" t)
  str : mg "str" = none
  any : mg "any" = none
  enum : mg "enumerate" = none
def keysOf (s : Str) : List V := if s ∈ (["store", "append"] : List Str) then wA ++ [.str "nargs", .str "const", .str "default", .str "kind", .str "choices", .str "required", .str "metavar"] else wA ++ [.str "default", .str "required"]
def spKeys : Sp := fun vs H Q _ => ∃ s : Str, vs = [.str s] ∧ s ∈ acts ∧ ∀ (T : Addr) (H' : Hp), Same H H' → H' T = some (.tup (keysOf s)) → Q (.ref T) H'
section
variable {P : Program} {w : World} {K : PySem.W.Frag} {mg : Str → Option Value} {base : Heap}
abbrev nNamed : List Str := ["flags", "made", "options", "prefix_chars", "given", "long", "flag"]
theorem scNamed : FnScope nNamed ["flags", "made", "options", "prefix_chars"] (defScope sNamed) := ⟨rfl, rfl, rfl, by decide +kernel, rfl, by decide +kernel, by decide +kernel⟩
theorem ok_named {f : Addr} {fd : FuncData} (F : Fun K "named" "named" sNamed f fd) (T : TxtB mg) (zStr : mg "str" = none) : FnOk P w K mg base CX0 1 f fd ["flags", "made", "options", "prefix_chars"] spNamed := by
  refine F.ok scNamed (fun vs H Q E h => ?_) (fun cdv A outer s H vs Q E hr h => ?_)
  · obtain ⟨fa, m, o, gs, fl, r, d, a, n, rfl, _⟩ := h
    rfl
  · obtain ⟨fa, m, o, gs, fl, r, d, a, n, rfl, hfa, hm, hG, hO, k⟩ := h
    have hu : (A.deeper (PyProof.Rows.envOfC "named" (defScope sNamed) s.heap.objs.size f cdv)).units + 64 < cLine := hr.units
    have hu1 := hu_of hr
    refine ⟨_, pss_cons (ps_set (i := 4) scNamed.nd rfl (Or.inl rfl) (pe_cmp (pc_din hu1 pe_str (pv 2)) rfl))
      (pss_cons (ps_if (PW.pt (pw_and (pt_val (pv 4)) (pw_and1 (PW.pt (pw_or (pt_not (pt_val (pe_callB call_isi (by rfl) T.isinstance (by decide +kernel) (pa_cons (pe_dget hu1 (pv 2) pe_str (fun _ _ => rfl)) (pa_cons (pe_bltn (v := .ty "str") (by rfl) zStr (by decide +kernel) rfl) pa_nil))))) (pw_or1 (pt_cmpR op_eq (pe_dget hu1 (pv 2) pe_str (fun _ _ => rfl)) pe_str (nomark _)))))))) pss_never pss_nil)
      (pss_cons (ps_if (PW.pt (pw_and (pt_cmpR (op_eqD hu) (pv 1) (pe_tup pa_nil) (nomark _)) (pw_and1 (pt_cmpR op_eq (pv 4) (pe_cmpR op_eq (pe_callB call_len_seq (by rfl) T.len PySem.boot_len (pa_cons (pv 0) pa_nil)) pe_int (nomark _)) (nomark _))))) pss_never pss_nil)
      (pss_cons (ps_if (pt_val (pv 4)) (pss_one (ps_ret (pe_dget hu1 (pv 2) pe_str (fun _ _ => rfl)))) pss_nil)
      (pss_cons (ps_if (pt_cmpR (op_eqD hu) (pv 1) (pe_tup pa_nil) (nomark _)) (pss_one (ps_ret (pe_ix ix_list (pv 0) pe_int (fun _ _ => rfl)))) pss_nil) pss_never)))), ?_⟩
    have g := fun (H' : Hp) (e : Same H H') => DGet.k (k := (Sum.inr ("dest" : Str) : Key)) (e _ _ hO.at_)
    rw [opt_dest] at g
    rcases hG with ⟨⟨f0, f20, fA⟩, rfl, rfl, r0⟩ | ⟨hg, rfl, rfl, rfl⟩
    · refine ⟨_, rfl, o, _, rfl, g H (Same.refl _), _, rfl, _, rfl, iteT ⟨_, rfl, o, _, rfl, g H (Same.refl _), _, .ty "str", _, _, true, rfl, .ty _, .base (.str r), kit_ty (by decide +kernel), _, rfl, iteF ⟨_, rfl, o, _, rfl, g H (Same.refl _), rfl, false, ?_, iteF ?_⟩⟩⟩
      · exact congrArg V.bl (decide_eq_false fun z => r0 (V.str.inj z))
      refine ⟨_, rfl, (by show 0 ≤ sizeLine; decide), fun p hp => ?_⟩
      have e1 := same_upd (o := .tup []) hp
      refine ⟨_, _, .tup (SqT.of (e1 _ _ hm)) (dpAll_strs fl), .tup (SqT.of upd_same) .nil, okF_shaped fA, by decide, false, ?_, iteF ?_⟩
      · cases fl with
        | nil => exact absurd rfl f0
        | cons x xs => rfl
      exact ⟨_, rfl, _, rfl, iteT ⟨_, rfl, o, _, rfl, g _ e1, k _ e1⟩⟩
    · refine ⟨_, rfl, o, _, rfl, g H (Same.refl _), _, rfl, _, rfl, iteF (iteF ?_)⟩
      refine ⟨_, rfl, (by show 0 ≤ sizeLine; decide), fun p hp => ?_⟩
      have e1 := same_upd (o := .tup []) hp
      refine ⟨_, _, .tup (SqT.of (e1 _ _ hm)) (dpAll_strs []), .tup (SqT.of upd_same) .nil, by decide, by decide, true, rfl, iteT ?_⟩
      refine ⟨_, rfl, _, rfl, fa, _, rfl, .inl (SqL.of (e1 _ _ hfa)), rfl, rfl, false, rfl, iteF ?_⟩
      refine ⟨_, rfl, _, rfl, iteF ?_⟩
      refine ⟨_, rfl, (by show 0 ≤ sizeLine; decide), fun q hq => ?_⟩
      have e2 := same_upd2 (o := .tup []) e1 hq
      exact ⟨_, _, .tup (SqT.of (e2 _ _ hm)) (dpAll_strs []), .tup (SqT.of upd_same) .nil, by decide, by decide, true, rfl, iteT ⟨_, rfl, fa, _, _, _, rfl, rfl, SqL.of (e2 _ _ hfa), atI_nat (j := 0) rfl, k _ e2⟩⟩
theorem scKeys : FnScope ["action"] ["action"] (defScope sKeys) := ⟨rfl, rfl, rfl, by decide +kernel, rfl, by decide +kernel, by decide +kernel⟩
theorem ok_keys {f aW aC aO aN aL aA : Addr} {fd : FuncData} (F : Fun K "keys_of" "keys_of" sKeys f fd) (Z : TxtK K mg aW aC aO aN aL aA) : FnOk P w K mg base CX0 1 f fd ["action"] spKeys := by
  refine F.ok scKeys (fun vs H Q E h => ?_) (fun cdv A outer s H vs Q E hr h => ?_)
  · obtain ⟨x, rfl, _⟩ := h
    rfl
  · obtain ⟨x, rfl, hx, k⟩ := h
    refine ⟨_, pss_cons (ps_if (pt_cmpR op_in_seq (pv 0) (pe_glob (v := .ref aW) rfl Z.W.m rfl) (by rfl)) (pss_one (ps_ret (pe_op op_catT (pe_glob (v := .ref aA) rfl Z.A.m rfl) (pe_tup (pa_cons pe_str (pa_cons pe_str (pa_cons pe_str (pa_cons pe_str (pa_cons pe_str (pa_cons pe_str (pa_cons pe_str pa_nil)))))))))))
        pss_nil)
      (pss_cons (ps_if (pt_cmpR op_in_seq (pv 0) (pe_glob (v := .ref aC) rfl Z.C.m rfl) (by rfl)) pss_never pss_nil)
      (pss_cons (ps_if (pt_cmpR op_in_seq (pv 0) (pe_glob (v := .ref aO) rfl Z.O.m rfl) (by rfl)) (pss_one (ps_ret (pe_op op_catT (pe_glob (v := .ref aA) rfl Z.A.m rfl) (pe_tup (pa_cons pe_str (pa_cons pe_str pa_nil))))))
        pss_nil) pss_never)), ?_⟩
    unfold acts at hx
    simp only [List.mem_cons, List.not_mem_nil, or_false] at hx
    have eA : ∀ (s : Str) (H' : Hp), H' = H → SqT K H' aA wA := fun _ H' _ => Z.A.q H'
    rcases hx with rfl | rfl | rfl | rfl
    · refine ⟨_, rfl, aW, wW, rfl, .inr (Z.W.q _), rfl, by decide +kernel, true, by decide +kernel, iteT ?_⟩
      exact ⟨(by show 7 ≤ sizeLine; decide), fun p hp => ⟨aA, p, wA, _, rfl, rfl, Z.A.q _, SqT.of upd_same, (fun z => nomatch z), (by show 3 + 7 ≤ sizeLine; decide), (fun z => nomatch z), fun _ q hq => k q _ (same_upd2 (same_upd hp) hq) upd_same⟩⟩
    · refine ⟨_, rfl, aW, wW, rfl, .inr (Z.W.q _), rfl, by decide +kernel, true, by decide +kernel, iteT ?_⟩
      exact ⟨(by show 7 ≤ sizeLine; decide), fun p hp => ⟨aA, p, wA, _, rfl, rfl, Z.A.q _, SqT.of upd_same, (fun z => nomatch z), (by show 3 + 7 ≤ sizeLine; decide), (fun z => nomatch z), fun _ q hq => k q _ (same_upd2 (same_upd hp) hq) upd_same⟩⟩
    · refine ⟨_, rfl, aW, wW, rfl, .inr (Z.W.q _), rfl, by decide +kernel, false, by decide +kernel, iteF ?_⟩
      refine ⟨_, rfl, aC, wC, rfl, .inr (Z.C.q _), rfl, by decide +kernel, false, by decide +kernel, iteF ?_⟩
      refine ⟨_, rfl, aO, wO, rfl, .inr (Z.O.q _), rfl, by decide +kernel, true, by decide +kernel, iteT ?_⟩
      exact ⟨(by show 2 ≤ sizeLine; decide), fun p hp => ⟨aA, p, wA, _, rfl, rfl, Z.A.q _, SqT.of upd_same, (fun z => nomatch z), (by show 3 + 2 ≤ sizeLine; decide), (fun z => nomatch z), fun _ q hq => k q _ (same_upd2 (same_upd hp) hq) upd_same⟩⟩
    · refine ⟨_, rfl, aW, wW, rfl, .inr (Z.W.q _), rfl, by decide +kernel, false, by decide +kernel, iteF ?_⟩
      refine ⟨_, rfl, aC, wC, rfl, .inr (Z.C.q _), rfl, by decide +kernel, false, by decide +kernel, iteF ?_⟩
      refine ⟨_, rfl, aO, wO, rfl, .inr (Z.O.q _), rfl, by decide +kernel, true, by decide +kernel, iteT ?_⟩
      exact ⟨(by show 2 ≤ sizeLine; decide), fun p hp => ⟨aA, p, wA, _, rfl, rfl, Z.A.q _, SqT.of upd_same, (fun z => nomatch z), (by show 3 + 2 ≤ sizeLine; decide), (fun z => nomatch z), fun _ q hq => k q _ (same_upd2 (same_upd hp) hq) upd_same⟩⟩
end
end K01

namespace K01
open PySem L2 PyProof.Rows
/-! ### kind, metavar, words -/
def spIsKind : Sp := fun vs H Q _ => vs = [.non] ∧ ∀ H', Same H H' → Q (.bl true) H'
def spFits : Sp := fun vs H Q _ => ∃ n : V, vs = [.non, n] ∧ ∀ H', Same H H' → Q (.bl true) H'
def spWords : Sp := fun vs H Q _ => ∃ (o : Addr) (s : Str) (d a : Option Str) (n : Option V), vs = [.str s, .ref o] ∧ OpAt H o d a n ∧ s ∈ (["store", "append"] : List Str) ∧ ∀ H', Same H H' → Q .non H'
section
variable {P : Program} {w : World} {K : PySem.W.Frag} {mg : Str → Option Value} {base : Heap}
theorem scIsKind : FnScope ["thing"] ["thing"] (defScope sIsKind) := ⟨rfl, rfl, rfl, by decide +kernel, rfl, by decide +kernel, by decide +kernel⟩
theorem ok_isKind {f : Addr} {fd : FuncData} (F : Fun K "is_kind" "is_kind" sIsKind f fd) : FnOk P w K mg base CX0 1 f fd ["thing"] spIsKind := by
  refine F.ok scIsKind (fun vs H Q E h => ?_) (fun cdv A outer s H vs Q E hr h => ?_)
  · obtain ⟨rfl, _⟩ := h
    rfl
  · obtain ⟨rfl, k⟩ := h
    refine ⟨_, pss_cons (ps_if (PW.pt (pw_or (pt_cmp (pc_isN (pv 0))) pw_never)) (pss_one (ps_ret (pe_cmpR op_in_seq (pv 0) (pe_tup (pa_cons pe_non (pa_cons pe_str (pa_cons pe_str pa_nil)))) (by rfl)))) pss_nil) pss_never, ?_⟩
    refine ⟨_, rfl, true, rfl, iteT (iteT ?_)⟩
    exact ⟨_, rfl, (by show 3 ≤ sizeLine; decide), fun p hp => ⟨p, _, rfl, .inr (SqT.of upd_same), rfl, by decide +kernel, k _ (same_upd hp)⟩⟩
theorem scFits : FnScope ["metavar", "nargs", "part", "wanted"] ["metavar", "nargs"] (defScope sFits) := ⟨rfl, rfl, rfl, by decide +kernel, rfl, by decide +kernel, by decide +kernel⟩
theorem ok_fits {f : Addr} {fd : FuncData} (F : Fun K "fits_metavar" "fits_metavar" sFits f fd) : FnOk P w K mg base CX0 1 f fd ["metavar", "nargs"] spFits := by
  refine F.ok scFits (fun vs H Q E h => ?_) (fun cdv A outer s H vs Q E hr h => ?_)
  · obtain ⟨n, rfl, _⟩ := h
    rfl
  · obtain ⟨n, rfl, k⟩ := h
    refine ⟨_, pss_cons (ps_if (PW.pt (pw_or (pt_cmp (pc_isN (pv 0))) pw_never)) (pss_one (ps_ret (pe_cmpR op_ne (pv 0) pe_str (nomark _)))) pss_nil) pss_never, ?_⟩
    exact ⟨_, rfl, true, rfl, iteT (iteT ⟨_, rfl, rfl, k _ (Same.refl _)⟩)⟩
abbrev nWords : List Str := ["action", "options", "nargs", "fits", "choices"]
theorem scWords : FnScope nWords ["action", "options"] (defScope sChkWords) := ⟨rfl, rfl, rfl, by decide +kernel, rfl, by decide +kernel, by decide +kernel⟩
theorem ok_words {f fI fK fM aW aC aO aN aL aA : Addr} {fd fdI fdK fdM : FuncData} (F : Fun K "check_words" "check_words" sChkWords f fd) (T : TxtB mg) (Z : TxtK K mg aW aC aO aN aL aA) (I : At P w K mg base "is_integer" 1 ["thing"] (spIsInt K) fI fdI) (G : At P w K mg base "is_kind" 1 ["thing"] spIsKind fK fdK) (M : At P w K mg base "fits_metavar" 1 ["metavar", "nargs"] spFits fM fdM) :
    FnOk P w K mg base CX0 2 f fd ["action", "options"] spWords := by
  refine F.ok scWords (fun vs H Q E h => ?_) (fun cdv A outer s H vs Q E hr h => ?_)
  · obtain ⟨o, z, d, a, n, rfl, _⟩ := h
    rfl
  · obtain ⟨o, z, d, a, n, rfl, hO, hz, k⟩ := h
    have hu1 := hu_of hr
    have g1 := fun (H' : Hp) (e : Same H H') => DGet.k (k := (Sum.inr ("nargs" : Str) : Key)) (e _ _ hO.at_)
    have g2 := fun (H' : Hp) (e : Same H H') => DGet.k (k := (Sum.inr ("const" : Str) : Key)) (e _ _ hO.at_)
    have g3 := fun (H' : Hp) (e : Same H H') => DGet.k (k := (Sum.inr ("kind" : Str) : Key)) (e _ _ hO.at_)
    have g4 := fun (H' : Hp) (e : Same H H') => DGet.k (k := (Sum.inr ("choices" : Str) : Key)) (e _ _ hO.at_)
    have g5 := fun (H' : Hp) (e : Same H H') => DGet.k (k := (Sum.inr ("metavar" : Str) : Key)) (e _ _ hO.at_)
    rw [opt_nargs] at g1
    rw [opt_else (by decide) (by decide) (by decide)] at g2 g3 g4 g5
    have iD : ∀ H', Same H H' → IsD H' o := fun H' e => .inl ⟨_, .inl (e _ _ hO.at_)⟩
    refine ⟨_, pss_mid (ps_set (i := 2) scWords.nd rfl (Or.inl rfl) (pe_dget1 hu1 (pv 1) pe_str ⟨rfl, rfl, rfl, rfl⟩))
      (pss_mid (ps_set (i := 3) scWords.nd rfl (Or.inl rfl) (pe_or (pe_cmp (pc_isN (pv 2)) rfl) (pe_or (pe_and (pe_call I.ok hr rfl I.m I.k I.b .nil pass0 (pa_cons (pv 2) pa_nil)) (pe_one (pe_cmpR op_gt (pv 2) pe_int (nomark _)))) (pe_one (pe_and (pe_callB call_isi (by rfl) T.isinstance (by decide +kernel) (pa_cons (pv 2) (pa_cons (pe_bltn (v := .ty "str") (by rfl) Z.str (by decide +kernel) rfl) pa_nil))) (pe_one (pe_cmpR op_in_seq (pv 2) (pe_glob (v := .ref aN) rfl Z.N.m rfl) (by rfl))))))))
      (pss_cons (ps_if (PW.pt (pw_or (pt_not (pt_val (pv 3))) (pw_or1 (PW.pt (pw_and (pt_cmpR op_eq (pv 0) pe_str (nomark _)) pw_never))))) pss_never pss_nil)
      (pss_cons (ps_if (PW.pt (pw_and (pt_cmp (pc_din hu1 pe_str (pv 1))) pw_never)) pss_never pss_nil)
      (pss_cons (ps_if (pt_not (pt_val (pe_call G.ok hr rfl G.m G.k G.b .nil pass0 (pa_cons (pe_dget1 hu1 (pv 1) pe_str ⟨rfl, rfl, rfl, rfl⟩) pa_nil)))) pss_never pss_nil)
      (pss_cons (ps_set (i := 4) scWords.nd rfl (Or.inl rfl) (pe_dget1 hu1 (pv 1) pe_str ⟨rfl, rfl, rfl, rfl⟩))
      (pss_cons (ps_if (PW.pt (pw_and (pt_cmp (pc_notN (pv 4))) pw_never)) pss_never pss_nil)
      (pss_one (ps_if (pt_not (pt_val (pe_call M.ok hr rfl M.m M.k M.b .nil pass0 (pa_cons (pe_dget1 hu1 (pv 1) pe_str ⟨rfl, rfl, rfl, rfl⟩) (pa_cons (pv 2) pa_nil))))) pss_never pss_nil)))))))), ?_⟩
    have sR := Same.refl H
    refine ⟨fun σ' H' => σ' = [some (.str z), some (.ref o), some (n.getD .non), none, none] ∧ H = H', ⟨_, rfl, o, rfl, iD H sR, _, g1 H sR, rfl, rfl⟩, ?_⟩
    rintro _ _ ⟨rfl, rfl⟩
    refine ⟨fun σ' H' => σ' = [some (.str z), some (.ref o), some (n.getD .non), some (.bl true), none] ∧ H = H', ?_, ?_⟩
    · have nn := hO.nn
      cases n with
      | none => exact ⟨_, rfl, true, rfl, iteT ⟨rfl, rfl⟩⟩
      | some v =>
        simp only [okN, List.mem_cons, List.not_mem_nil, or_false] at nn
        rcases nn with rfl | rfl | rfl | rfl | rfl | rfl
        · exact ⟨_, rfl, false, rfl, iteF ⟨_, rfl, _, "str", false, false, rfl, .base (.str _), by decide +kernel, by decide +kernel, false, rfl, iteF ⟨false, rfl, iteF ⟨_, rfl, _, .ty "str", _, _, true, rfl, .ty _, .base (.str _), kit_ty (by decide +kernel), true, rfl, iteT ⟨_, rfl, aN, wN, rfl, .inr (Z.N.q _), rfl, by decide +kernel, rfl, rfl⟩⟩⟩⟩⟩
        · exact ⟨_, rfl, false, rfl, iteF ⟨_, rfl, _, "str", false, false, rfl, .base (.str _), by decide +kernel, by decide +kernel, false, rfl, iteF ⟨false, rfl, iteF ⟨_, rfl, _, .ty "str", _, _, true, rfl, .ty _, .base (.str _), kit_ty (by decide +kernel), true, rfl, iteT ⟨_, rfl, aN, wN, rfl, .inr (Z.N.q _), rfl, by decide +kernel, rfl, rfl⟩⟩⟩⟩⟩
        · exact ⟨_, rfl, false, rfl, iteF ⟨_, rfl, _, "str", false, false, rfl, .base (.str _), by decide +kernel, by decide +kernel, false, rfl, iteF ⟨false, rfl, iteF ⟨_, rfl, _, .ty "str", _, _, true, rfl, .ty _, .base (.str _), kit_ty (by decide +kernel), true, rfl, iteT ⟨_, rfl, aN, wN, rfl, .inr (Z.N.q _), rfl, by decide +kernel, rfl, rfl⟩⟩⟩⟩⟩
        · exact ⟨_, rfl, false, rfl, iteF ⟨_, rfl, _, "str", false, false, rfl, .base (.str _), by decide +kernel, by decide +kernel, false, rfl, iteF ⟨false, rfl, iteF ⟨_, rfl, _, .ty "str", _, _, true, rfl, .ty _, .base (.str _), kit_ty (by decide +kernel), true, rfl, iteT ⟨_, rfl, aN, wN, rfl, .inr (Z.N.q _), rfl, by decide +kernel, rfl, rfl⟩⟩⟩⟩⟩
        · exact ⟨_, rfl, false, rfl, iteF ⟨_, rfl, _, "int", true, false, rfl, .base (.int _), by decide +kernel, by decide +kernel, true, rfl, iteT ⟨_, rfl, _, _, rfl, rfl, true, rfl, iteT ⟨rfl, rfl⟩⟩⟩⟩
        · exact ⟨_, rfl, false, rfl, iteF ⟨_, rfl, _, "int", true, false, rfl, .base (.int _), by decide +kernel, by decide +kernel, true, rfl, iteT ⟨_, rfl, _, _, rfl, rfl, true, rfl, iteT ⟨rfl, rfl⟩⟩⟩⟩
    rintro _ _ ⟨rfl, rfl⟩
    have ne : decide (V.str z = V.str ("extend" : Str)) = false := by
      simp only [List.mem_cons, List.not_mem_nil, or_false] at hz
      rcases hz with rfl | rfl <;> decide +kernel
    refine ⟨_, rfl, true, rfl, iteF ⟨_, rfl, rfl, _, rfl, ?_⟩⟩
    rw [ne]
    refine iteF (iteF ?_)
    refine ⟨_, rfl, o, _, rfl, g2 H sR, _, rfl, iteF (iteF ?_)⟩
    refine ⟨_, rfl, o, rfl, iD H sR, _, g3 H sR, rfl, fun H1 e1 => ⟨_, rfl, iteF ?_⟩⟩
    refine ⟨_, rfl, o, rfl, iD H1 e1, _, g4 H1 e1, ?_⟩
    refine ⟨_, rfl, false, rfl, iteF (iteF ?_)⟩
    exact ⟨_, rfl, o, rfl, iD H1 e1, _, g5 H1 e1, _, rfl, _, rfl, fun H2 e2 => ⟨_, rfl, iteF (k _ (e1.trans e2))⟩⟩
end
end K01

namespace K01
open PySem L2 PyProof.Rows
theorem acts_of {H : Hp} {o : Addr} {d a : Option Str} {n : Option V} (h : OpAt H o d a n) : a.getD "store" ∈ acts := by
  cases a with
  | none => exact (by decide +kernel : ("store" : Str) ∈ acts)
  | some s => exact h.ok s rfl
theorem key_in {H : Hp} {o : Addr} {d a : Option Str} {n : Option V} (h : OpAt H o d a n) {i : Nat} {k : Key} {v : V} (e : (optK d a n)[i]? = some (k, v)) : flatV (kV k) = true ∧ inV (kV k) (keysOf (a.getD "store")) = true := by
  have hm := List.mem_of_getElem? e
  have hs := acts_of h
  have c1 : ∀ s ∈ acts, inV (.str "dest") (keysOf s) = true ∧ inV (.str "action") (keysOf s) = true := by decide +kernel
  have c2 : ∀ s ∈ (["store", "append"] : List Str), inV (.str "nargs") (keysOf s) = true := by decide +kernel
  unfold optK at hm
  rcases List.mem_append.mp hm with hm | hm
  · cases d with
    | none => cases hm
    | some s =>
      cases List.mem_singleton.mp hm
      exact ⟨rfl, (c1 _ hs).1⟩
  rcases List.mem_append.mp hm with hm | hm
  · cases a with
    | none => cases hm
    | some s =>
      cases List.mem_singleton.mp hm
      exact ⟨rfl, (c1 _ hs).2⟩
  · cases n with
    | none => cases hm
    | some v =>
      cases List.mem_singleton.mp hm
      exact ⟨rfl, c2 _ (h.nw v rfl)⟩
def spChkO : Sp := fun vs H Q _ => ∃ (o : Addr) (s : Str) (d a : Option Str) (n : Option V) (ip : Bool), vs = [.str s, .ref o, .bl ip] ∧ OpAt H o d a n ∧ s = a.getD "store" ∧ (ip = true → s = "store") ∧ ∀ H', Same H H' → Q .non H'
section
variable {P : Program} {w : World} {K : PySem.W.Frag} {mg : Str → Option Value} {base : Heap}
abbrev nChkO : List Str := ["action", "options", "is_positional", "default", "key"]
theorem scChkO : FnScope nChkO ["action", "options", "is_positional"] (defScope sChkOpts) := ⟨rfl, rfl, rfl, by decide +kernel, rfl, by decide +kernel, by decide +kernel⟩
theorem ok_chkO {f fY fW aW aC aO aN aL aA : Addr} {fd fdY fdW : FuncData} (F : Fun K "check_options" "check_options" sChkOpts f fd) (T : TxtB mg) (Z : TxtK K mg aW aC aO aN aL aA) (Y : At P w K mg base "keys_of" 1 ["action"] spKeys fY fdY) (W : At P w K mg base "check_words" 2 ["action", "options"] spWords fW fdW) :
    FnOk P w K mg base CX0 3 f fd ["action", "options", "is_positional"] spChkO := by
  refine F.ok scChkO (fun vs H Q E h => ?_) (fun cdv A outer s H vs Q E hr h => ?_)
  · obtain ⟨o, z, d, a, n, ip, rfl, _⟩ := h
    rfl
  · obtain ⟨o, z, d, a, n, ip, rfl, hO, hz, hip, k⟩ := h
    have hu1 := hu_of hr
    have r1 : Room 1 (A.deeper (PyProof.Rows.envOfC "check_options" (defScope sChkOpts) s.heap.objs.size f cdv)) := hr.mono (by decide)
    obtain ⟨ts, hsup⟩ := Z.sup
    refine ⟨_, pss_cons (ps_if (PW.pt (pw_or (pt_not (pt_val (pe_callB call_isi (by rfl) T.isinstance (by decide +kernel) (pa_cons (pv 0) (pa_cons (pe_bltn (v := .ty "str") (by rfl) Z.str (by decide +kernel) rfl) pa_nil))))) (pw_or1 (pt_cmpR op_notIn_seq (pv 0) (pe_op op_catT (pe_op op_catT (pe_op op_catT (pe_glob (v := .ref aW) rfl Z.W.m rfl) (pe_glob (v := .ref aC) rfl Z.C.m rfl)) (pe_glob (v := .ref aO) rfl Z.O.m rfl)) (pe_tup (pa_cons pe_str (pa_cons pe_str pa_nil)))) (by rfl))))) pss_never pss_nil)
      (pss_mid (ps_if (PW.pt (pw_and (pt_val (pv 2)) (pw_and1 (pt_cmpR op_notIn_seq (pv 0) (pe_glob (v := .ref aW) rfl Z.W.m rfl) (by rfl))))) pss_never pss_nil)
      (pss_mid (ps_if (pt_not (pt_val (pe_callB (cr_all rfl) (by rfl) T.all (by decide +kernel) (pa_cons (pe_lock (pe_lc (own := [("key", 4)]) (g := gName 4) (tt := tYes) (te := tOp (rIn K false) (tVar 4) (tCall spKeys [] E0 (tCons (tVar 0) tNil))) rfl scChkO.nd (pi_keys (pv 1)) (blkOk_by (N := nChkO) (sc := defScope sChkOpts) (by decide +kernel)) (fun _ _ _ _ _ => pg_name (i := 4) scChkO.nd rfl (Or.inl rfl)) (fun _ _ _ _ _ => pts_nil)
        (fun _ _ _ _ _ => by exact pe_cmpR op_in_seq (pv 4) (by exact pe_call Y.ok (by exact r1) rfl Y.m Y.k Y.b .nil pass0 (pa_cons (pv 0) pa_nil)) (by rfl)))) pa_nil)))) pss_never pss_nil)
      (pss_cons (ps_if (PW.pt (pw_and (pt_cmp (pc_din hu1 pe_str (pv 1))) pw_never)) pss_never pss_nil)
      (pss_cons (ps_if (PW.pt (pw_and (pt_cmpR op_eq (pv 0) pe_str (nomark _)) pw_never)) pss_never pss_nil)
      (pss_mid (ps_if (pt_cmpR op_in_seq (pv 0) (pe_glob (v := .ref aW) rfl Z.W.m rfl) (by rfl)) (pss_one (ps_expr (pe_call W.ok hr rfl W.m W.k W.b .nil pass0 (pa_cons (pv 0) (pa_cons (pv 1) pa_nil))))) pss_nil)
      (pss_cons (ps_set (i := 3) scChkO.nd rfl (Or.inl rfl) (pe_dget1 hu1 (pv 1) pe_str ⟨rfl, rfl, rfl, rfl⟩))
      (pss_mid (ps_if (PW.pt (pw_and (pt_cmpR op_in_seq (pv 0) (pe_glob (v := .ref aL) rfl Z.L.m rfl) (by rfl)) (pw_and (pt_cmpR op_notIn_seq (pv 3) (pe_tup (pa_cons pe_non (pa_cons (pe_glob (v := .str "==SUPPRESS==") rfl hsup ⟨ts, rfl⟩) pa_nil))) (by rfl)) pw_never))) pss_never pss_nil)
      (pss_one (ps_if (PW.pt (pw_and (pt_cmp (pc_notN (pe_dget1 hu1 (pv 1) pe_str ⟨rfl, rfl, rfl, rfl⟩))) pw_never)) pss_never pss_nil))))))))), ?_⟩
    have hA : z ∈ acts := by rw [hz]; exact acts_of hO
    have iD : ∀ H', Same H H' → IsD H' o := fun H' e => .inl ⟨_, .inl (e _ _ hO.at_)⟩
    have g2 := fun (H' : Hp) (e : Same H H') => DGet.k (k := (Sum.inr ("required" : Str) : Key)) (e _ _ hO.at_)
    have g3 := fun (H' : Hp) (e : Same H H') => DGet.k (k := (Sum.inr ("default" : Str) : Key)) (e _ _ hO.at_)
    have g4 := fun (H' : Hp) (e : Same H H') => DGet.k (k := (Sum.inr ("help" : Str) : Key)) (e _ _ hO.at_)
    rw [opt_else (by decide) (by decide) (by decide)] at g2 g3 g4
    have m1 : ∀ s ∈ acts, inV (.str s) (((wW ++ wC) ++ wO) ++ [.str "help", .str "version"]) = true ∧ decide (V.str s = V.str ("version" : Str)) = false ∧ inV (.str s) wW = decide (s ∈ (["store", "append"] : List Str)) := by decide +kernel
    obtain ⟨q1, q2, q3⟩ := m1 z hA
    refine ⟨_, rfl, _, .ty "str", _, _, true, rfl, .ty _, .base (.str z), kit_ty (by decide +kernel), _, rfl, iteF ?_⟩
    refine ⟨_, rfl, aW, aC, wW, wC, rfl, rfl, Z.W.q _, Z.C.q _, (fun z => nomatch z), (by show 3 + 2 ≤ sizeLine; decide), (fun z => nomatch z), fun _ p1 h1 => ⟨p1, aO, _, wO, rfl, rfl, SqT.of upd_same, Z.O.q _, (fun z => nomatch z), (by show 5 + 4 ≤ sizeLine; decide), (fun z => nomatch z), fun _ p2 h2 => ⟨(by show 2 ≤ sizeLine; decide), fun p3 h3 => ⟨p2, p3, _, _, rfl, rfl, SqT.of (same_upd h3 _ _ upd_same), SqT.of upd_same, (fun z => nomatch z), (by show 9 + 2 ≤ sizeLine; decide), (fun z => nomatch z), fun _ p4 h4 => ?_⟩⟩⟩⟩
    have e1 := same_upd2 (o := .tup (((wW ++ wC) ++ wO) ++ [.str "help", .str "version"])) (same_upd2 (o := .tup [.str "help", .str "version"]) (same_upd2 (o := .tup ((wW ++ wC) ++ wO)) (same_upd (o := .tup (wW ++ wC)) h1) h2) h3) h4
    refine ⟨p4, _, rfl, .inr (SqT.of upd_same), rfl, by decide +kernel, _, rfl, ?_⟩
    rw [if_pos rfl, q1]
    generalize upd (upd (upd (upd H p1 (.tup (wW ++ wC))) p2 (.tup ((wW ++ wC) ++ wO))) p3 (.tup [.str "help", .str "version"])) p4 (.tup (((wW ++ wC) ++ wO) ++ [.str "help", .str "version"])) = H1 at e1 ⊢
    refine iteF ?_
    refine ⟨fun σ' H' => σ' = [some (.str z), some (.ref o), some (.bl ip), none, none] ∧ H1 = H', ?_, ?_⟩
    · refine ⟨_, rfl, _, rfl, ?_⟩
      refine ite2 (fun hb => ?_) (fun _ => iteF ⟨rfl, rfl⟩)
      refine ⟨_, rfl, aW, wW, rfl, .inr (Z.W.q _), rfl, by decide +kernel, false, ?_, iteF ⟨rfl, rfl⟩⟩
      rw [if_pos rfl, hip hb]
      decide +kernel
    rintro _ _ ⟨rfl, rfl⟩
    -- the keys
    refine ⟨fun σ' H' => σ' = [some (.str z), some (.ref o), some (.bl ip), none, none] ∧ Same H H', ?_, ?_⟩
    · refine ⟨o, .dK (optK d a n), e1 _ _ hO.at_, trivial, fun od => ?_⟩
      have fz : (upd H1 o (.frz od (.dK (optK d a n)))) o = some (.frz od (.dK (optK d a n))) := upd_same
      have fr : ∀ b u, H b = some u → b ≠ o → (upd H1 o (.frz od (.dK (optK d a n)))) b = some u := fun b u e nb => by rw [upd_ne nb]; exact e1 _ _ e
      generalize upd H1 o (.frz od (.dK (optK d a n))) = G at fz fr
      refine ⟨_, rfl, o, od, rfl, .inl ⟨_, fz, fun D hD => ?_⟩⟩
      have hl : (optK d a n).length ≤ 1000 := by
        unfold optK
        cases d <;> cases a <;> cases n <;> exact Nat.le_of_ble_eq_true rfl
      refine lc_it walk_keys (BlI (fun _ => true) G D (optK d a n)) (blI0 hD) (fun i H' _ h => h.1 _ _ fz) (fun i v H' H'' hi h y => ?_) (fun H' h => ?_)
      · obtain ⟨rfl, kk, vv, hk, rfl⟩ := y
        obtain ⟨f1, f2⟩ := key_in hO hk
        rw [← hz] at f2
        refine ⟨rfl, _, rfl, _, rfl, z, rfl, hA, fun U H2 e2 hU => ?_⟩
        refine ⟨U, keysOf z, rfl, .inr (SqT.of hU), f1, (by decide +kernel : ∀ s ∈ acts, (keysOf s).all flatV = true) z hA, ?_⟩
        rw [f2]
        exact blI_step hD hk h e2 rfl hl
      · obtain ⟨e2, hD2⟩ := blI_end rfl h
        refine ⟨e2 _ _ fz, ?_⟩
        have nDo : D ≠ o := (ne_of_none fz hD).symm
        have e3 : Same H (upd H' o (.dK (optK d a n))) := fun b u e => by
          by_cases hb : b = o
          · subst hb
            rw [upd_same, ← e]
            exact hO.at_.symm
          · rw [upd_ne hb]
            exact e2 _ _ (fr _ _ e hb)
        refine ⟨D, _, rfl, SqL.of (by rw [upd_ne nDo]; exact hD2), ?_⟩
        rw [all_tt]
        exact ⟨_, rfl, iteF ⟨rfl, e3⟩⟩
    rintro _ H2 ⟨rfl, e2⟩
    refine ⟨_, rfl, o, _, rfl, g2 H2 e2, _, rfl, iteF (iteF ?_)⟩
    refine ⟨_, rfl, rfl, _, rfl, ?_⟩
    rw [q2]
    refine iteF (iteF ?_)
    -- words
    refine ⟨fun σ' H' => σ' = [some (.str z), some (.ref o), some (.bl ip), none, none] ∧ Same H H', ?_, ?_⟩
    · refine ⟨_, rfl, aW, wW, rfl, .inr (Z.W.q _), rfl, by decide +kernel, _, rfl, ?_⟩
      rw [if_neg Bool.false_ne_true, q3]
      refine ite2 (fun hc => ?_) (fun _ => ⟨rfl, e2⟩)
      exact ⟨_, rfl, _, rfl, o, z, d, a, n, rfl, hO.keep e2, of_decide_eq_true hc, fun H' e => ⟨rfl, e2.trans e⟩⟩
    rintro _ H3 ⟨rfl, e3⟩
    refine ⟨_, rfl, o, rfl, iD H3 e3, _, g3 H3 e3, ?_⟩
    refine ⟨fun σ' H' => σ' = [some (.str z), some (.ref o), some (.bl ip), some .non, none] ∧ Same H H', ?_, ?_⟩
    · refine ⟨_, rfl, aL, wL, rfl, .inr (Z.L.q _), rfl, by decide +kernel, _, rfl, ?_⟩
      rw [if_neg Bool.false_ne_true]
      refine ite2 (fun hc => ?_) (fun _ => iteF ⟨rfl, e3⟩)
      refine ⟨_, rfl, (by show 2 ≤ sizeLine; decide), fun p hp => ⟨p, _, rfl, .inr (SqT.of upd_same), rfl, by decide +kernel, _, rfl, ?_⟩⟩
      rw [if_pos rfl]
      exact iteF (iteF ⟨rfl, same_upd2 e3 hp⟩)
    rintro _ H4 ⟨rfl, e4⟩
    exact ⟨_, rfl, o, rfl, iD H4 e4, _, g4 H4 e4, _, rfl, iteF (iteF (k _ e4))⟩
end
end K01

/-! enumerate over a tuple -/
namespace PySem
theorem enumT_new {v : Value} {o : Obj} {H : Heap → Prop} (B : Begins v o H) :
    Meets (Builtin.«enumerate.__new__» ⟨[.type "enumerate", v], []⟩) (fun _ R s => H s.heap ∧ R (.ok (.ret (.ref (s.heap.push o).objs.size))) { s with heap := (s.heap.push o).push { cls := .type "enumerate", data := .fields #[.none, .bool false, .ref s.heap.objs.size, rawInt 0, .none, .none] } }) :=
  .of_wp fun prog w A R s h => by
    obtain ⟨hp, g, d, tk, os⟩ := s
    obtain ⟨h1, h⟩ := h
    have hsub := sub_enumerate
    have go : ∀ {A' : Around} {E : Value → Shared → Prop} {Q : Value → Shared → Prop}, Q (.ref hp.objs.size) ⟨hp.push o, g, d, tk, os⟩ → wpAny (model prog w) A' (pyIter v) Q E ⟨hp, g, d, tk, os⟩ := fun q => B.iter prog w _ _ ⟨hp, g, d, tk, os⟩ _ h1 q
    wp_walk using go
    refine wpAny_stack_any fun st => wpAny_pure ?_
    split
    · rename_i c _ _ _ _ _
      cases (c == Value.type "enumerate") <;> (wp_walk using go; exact ⟨_, rfl, h⟩)
    · wp_walk using go
      exact ⟨_, rfl, h⟩
theorem enumT_call {prog : Program} {w : World} {A : Around} {E : Value → Shared → Prop} {s : Shared} {v : Value} {o : Obj} {H : Heap → Prop} {Q : Value → Shared → Prop} (B : Begins v o H) (h1 : H s.heap)
    (h : ∀ h', IsEnum h' (s.heap.objs.size + 1) s.heap.objs.size 0 .none → h'.get? s.heap.objs.size = some o → (∀ b o, s.heap.get? b = some o → h'.get? b = some o) → Q (.ref (s.heap.objs.size + 1)) { s with heap := h' }) :
    wpAny (model prog w) A (call (.type "enumerate") [v]) Q E s := by
  refine callType_new F.called_enumerate (by decide) (F.typeCall_enumerate_1 _) (F.newCall_enumerate_1 _) (fun obj => F.args_object_init_2 obj _) F.entry_enumerate_new (enumT_new B) ⟨h1, ?_⟩
  have hz : (s.heap.push o).objs.size = s.heap.objs.size + 1 := Heap.size_push ..
  show _ ∧ _
  rw [hz]
  have he : IsEnum ((s.heap.push o).push { cls := .type "enumerate", data := .fields #[.none, .bool false, .ref s.heap.objs.size, rawInt 0, .none, .none] }) (s.heap.objs.size + 1) s.heap.objs.size 0 .none := by
    have q := Heap.get?_push_size (s.heap.push o) (o := { cls := .type "enumerate", data := .fields #[.none, .bool false, .ref s.heap.objs.size, rawInt 0, .none, .none] }) rfl
    rw [hz] at q
    exact q
  exact ⟨⟨_, he, rfl⟩, h _ he (Heap.get?_push_of_some _ (Heap.get?_push_size _ B.free)) fun b o x => Heap.get?_push_of_some _ (Heap.get?_push_of_some _ x)⟩
end PySem
namespace L2
open PySem PySem.Spec PyProof.Rows
/-- the tuple at a, each item in a new pair -/
def ItET (K : PySem.W.Frag) (a : Addr) : It :=
  ⟨fun i H => ∃ (xs : List V) (x : V), SqT K H a xs ∧ xs[i]? = some x, fun i H v H' => ∃ T x, v = .ref T ∧ H T = none ∧ H' = upd H T (.tup [.int (i : Nat), x]) ∧ ∀ xs, SqT K H a xs → xs[i]? = some x, fun i H => ∃ xs : List V, SqT K H a xs ∧ xs.length = i⟩
theorem turn_enumT {P : Program} {w : World} {K : PySem.W.Frag} {elts : List Expr} {kk : Nat} {tpos : Pos} (a e it : Addr) :
    Turn P w K (.Tuple elts kk tpos) (ItET K a) [e, it] e (fun i h => (∃ old, IsEnum h e it ((i : Nat) : Int) old) ∧ h.IsTupleIter it a i ∧ e ≠ it) where
  mem := by simp
  obj := fun i h st b hb => by
    obtain ⟨⟨old, he⟩, ⟨o, ho, hc, hd⟩, _⟩ := st
    have z : b = e ∨ b = it := by simpa using hb
    rcases z with rfl | rfl
    · exact ⟨_, he, fun v q => nomatch q⟩
    · exact ⟨o, ho, fun v q => by rw [hd] at q; cases q⟩
  keep := fun i h h' st k => by
    obtain ⟨⟨old, he⟩, hi, hne⟩ := st
    exact ⟨⟨old, k e (by simp) _ he⟩, hi.at fun o q => k it (by simp) o q, hne⟩
  item := by
    intro X hP hw hK hc i pins s σ H E I hf st hg
    subst hP hw hK
    obtain ⟨⟨old, he⟩, hit, hne⟩ := st
    obtain ⟨xs, x, hq, hx⟩ := hg
    obtain ⟨its, rv, p, hz⟩ := I.tuple hq
    have p : s.heap.IsTuple a its.toArray := p
    obtain ⟨u, hu, ru⟩ := rv.get hx
    have hel : e < s.heap.objs.size := Heap.lt_size he
    have hil : it < s.heap.objs.size := by obtain ⟨_, q, _⟩ := hit; exact Heap.lt_size q
    have nai : a ≠ it := fun z => by
      obtain ⟨o, e1, e2, _⟩ := id hit
      obtain ⟨o', f1, f2, _⟩ := id p
      rw [← z, f1] at e1
      cases e1
      rw [e2] at f2
      exact absurd (Value.type.inj f2) (by decide)
    have nae : a ≠ e := fun z => by
      obtain ⟨o', f1, f2, _⟩ := id p
      rw [z] at f1
      have f3 := he.symm.trans f1
      cases f3
      exact absurd (Value.type.inj f2) (by decide)
    have hiu : its.toArray[i]? = some u := by simpa using hu
    refine wpAny_pyNext_enum_itemD (Draws.tuple (prog := X.prog) (w := X.w) (A := X.A.in1) (show X.A.in1.handled = none from I.ok.hd hc) it a nai its.toArray) he ⟨hit, p⟩ (by have := (Array.getElem?_eq_some_iff.mp hiu).1; exact this) hne (fun z => by
      rcases List.mem_cons.mp z with z | z
      · exact hne z
      · exact nae (List.mem_singleton.mp z).symm) fun x' h' tk hP ho hst hT hsz hk => ?_
    have ex : x' = u := by
      rw [hiu] at hP
      exact (Option.some.inj hP).symm
    subst ex
    refine ⟨_, rfl, wpAny_letOwnedTupleGo_enum (s := { s with heap := h', toks := tk + 1 }) ho fun h'' he' sb => ?_⟩
    have hT2 : h''.get? s.heap.objs.size = some { cls := .type "tuple", data := .seq #[.int i tk, x'] } := (sb.2 _ (Nat.ne_of_gt hel)).trans hT
    have new : ObjOk X.prog X.w (upd H s.heap.objs.size (.tup [.int (i : Nat), x])) h'' s.heap.objs.size (.tup [.int (i : Nat), x]) :=
      ⟨by show 2 ≤ sizeLine; decide, [.int i tk, x'], .cons ⟨_, rfl⟩ (.cons ru .nil), ⟨_, hT2, rfl, _, rfl⟩⟩
    have I1 : Inv X pins σ (upd H s.heap.objs.size (.tup [.int (i : Nat), x])) { s with heap := h'', toks := tk + 1 } :=
      I.turnedNew (ch := [e, it]) (fun b ob hb q => (sb.2 b (fun z => hb (by simp [z]))).trans (hk b ob (fun z => hb (by simp [z])) (fun z => hb (by simp [z])) q)) hf (Nat.le_refl _) new
    refine ⟨.ref s.heap.objs.size, _, I1, rfl, ⟨_, x, rfl, I.hok.fresh (Nat.le_refl _), rfl, fun ys hy => by rw [I.tuple_inj hy hq]; exact hx⟩, ⟨⟨x', ?_⟩, hst.1.at fun o q => (sb.2 it (Ne.symm hne)).trans q, hne⟩, fun b hb => ?_⟩
    · have e1 : ((i + 1 : Nat) : Int) = (i : Int) + 1 := by omega
      rw [e1]
      exact he'
    · have hb' : b < s.heap.objs.size := by
        have z : b = e ∨ b = it := by simpa using hb
        rcases z with rfl | rfl
        · exact hel
        · exact hil
      rw [upd_ne (Nat.ne_of_lt hb')]
      exact (hf b hb).1
  done := by
    intro X hP hw hK hc i pins s σ H E I hf st hg
    subst hP hw hK
    obtain ⟨⟨old, he⟩, hit, hne⟩ := st
    obtain ⟨xs, hq, hx⟩ := hg
    obtain ⟨its, rv, p, hz⟩ := I.tuple hq
    have p : s.heap.IsTuple a its.toArray := p
    obtain ⟨f0, f1, f2, f3, f4, f5⟩ := hf it (by simp)
    have hl := rv.length
    have nai : a ≠ it := fun z => by
      obtain ⟨o, e1, e2, _⟩ := id hit
      obtain ⟨o', g1, g2, _⟩ := id p
      rw [← z, g1] at e1
      cases e1
      rw [e2] at g2
      exact absurd (Value.type.inj g2) (by decide)
    have hn : i = its.toArray.size := by simp; omega
    subst hn
    exact wpAny_pyNext_enum_endD (Draws.tuple (prog := X.prog) (w := X.w) (A := X.A.in1) (show X.A.in1.handled = none from I.ok.hd hc) it a nai its.toArray) he ⟨hit, p⟩ fun h' eb => ⟨rfl, I.turned (t' := s.toks) (fun b o hb q => eb b o hb q) f0 f1 f3 f4 f5⟩
  self := fun A i s Q E st h => by
    obtain ⟨⟨_, he⟩, _⟩ := st
    exact wpAny_pyIter_enum he h
def iEnumT (K : PySem.W.Frag) (ta : TA) : TI := fun σ H R => ta σ H fun vs H1 => ∃ a xs, vs = [.ref a] ∧ SqT K H1 a xs ∧ R (ItET K a) H1
theorem pi_enumT {X : Cx} {e : Expr} {ta : TA} {p pos tpos : Pos} {elts : List Expr} {kk : Nat} (hg : Gl X "enumerate") (hm : X.mg "enumerate" = none) (ha : PA X [e] ta) (hs : starEach [e] X.env = [(false, eval e X.env)] := by rfl) :
    PI X (.Tuple elts kk tpos) (.Call (.Name "enumerate" p) [e] [] pos) (iEnumT X.K ta) := by
  refine ⟨fun pins s σ H R I h => ?_⟩
  refine Call_ (ld_blt I hg hm boot_enumerate (PyProof.Rows.callWith_type1 (thn (ha.run pos pins s σ H _ I h) fun us s1 ⟨vs, H1, I1, r1, q1⟩ => ?_) hs rfl))
  obtain ⟨a, xs, ex, hq, q⟩ := q1
  subst ex
  cases r1 with
  | cons r rr =>
    cases rr
    cases r
    obtain ⟨its, rv, p', hz⟩ := I1.tuple hq
    refine enumT_call (begins_tuple a its.toArray) (show s1.heap.IsTuple a its.toArray from p') fun h' he hit hk => wpAny_pyIter_enum he ?_
    have I2 : Inv X pins σ H1 { s1 with heap := h' } := I1.kept (t' := s1.toks) hk
    refine ⟨s1.heap.objs.size + 1, [s1.heap.objs.size + 1, s1.heap.objs.size], _, _, H1, rfl, I2, turn_enumT a (s1.heap.objs.size + 1) s1.heap.objs.size, ⟨⟨.none, he⟩, ⟨_, hit, rfl, rfl⟩, Nat.succ_ne_self _⟩, fun b hb => ?_, q⟩
    have z : b = s1.heap.objs.size + 1 ∨ b = s1.heap.objs.size := by simpa using hb
    have hle : s1.heap.objs.size ≤ b := by
      rcases z with z | z
      · rw [z]; exact Nat.le_add_right _ _
      · rw [z]; exact Nat.le_refl _
    exact I1.fpOk hle (I1.hok.fresh hle)
theorem walk_enumT {K : PySem.W.Frag} {a : Addr} {xs : List V} : Walk (ItET K a) xs.length (fun H => SqT K H a xs) (YPair (fun i => some (.int (i : Nat))) (fun i => xs[i]?)) := by
  refine ⟨fun i H hi hq => ⟨xs, xs[i], hq, by simp [hi]⟩, fun H hq => ⟨xs, hq, rfl⟩, fun i H v H' hi hq y => ?_⟩
  obtain ⟨T, x, e1, e2, e3, e4⟩ := y
  exact ⟨T, _, x, e1, e2, e3, rfl, e4 xs hq⟩
end L2

namespace K01
open PySem L2 PyProof.Rows
/-! ### the default, an argument anew -/
def spDflt : Sp := fun vs H Q _ => ∃ (s d : Str) (o dd : Addr) (d' a : Option Str) (n : Option V), vs = [.str s, .str d, .ref o, .ref dd, .non] ∧ s ∈ acts ∧ OpAt H o d' a n ∧ H dd = some (.dK []) ∧ ∀ (v : V) (H' : Hp), Same H H' → Q v H'
def argF : List Str := ["flags", "dest", "action", "is_option", "nargs", "const", "default", "kind", "choices", "required", "help", "metavar", "version", "commands", "fellows"]
/-- an argument's fields -/
def aFs (fl d s io nn co de ki ch re he me ve cm fe : V) : List (Str × V) := [("flags", fl), ("dest", d), ("action", s), ("is_option", io), ("nargs", nn), ("const", co), ("default", de), ("kind", ki), ("choices", ch), ("required", re), ("help", he), ("metavar", me), ("version", ve), ("commands", cm), ("fellows", fe)]
structure ClsN (K : PySem.W.Frag) (C : Addr) (fs : List Str) : Prop where
  cl : Cls K C
  no : ∀ f ∈ fs, NoAttr K C f
def spArgI (C : Addr) : Sp := fun vs H Q _ => ∃ (x dx T : Addr) (fl : List Str) (d s : Str), vs = [.ref x, .ref T, .str d, .str s] ∧ H x = some (.ins C dx []) ∧ H T = some (.tup (fl.map V.str)) ∧ (∀ x ∈ fl, x ∈ flagsAll) ∧
  ∀ H', (∀ b o, H b = some o → b ≠ x → H' b = some o) → H' x = some (.ins C dx (aFs (.ref T) (.str d) (.str s) (.bl (!fl.isEmpty)) .non .non .non .non .non (.bl false) .non .non .non .non (.bl false))) → Q .non H'
section
variable {P : Program} {w : World} {K : PySem.W.Frag} {mg : Str → Option Value} {base : Heap}
abbrev nDflt : List Str := ["action", "dest", "options", "defaults", "argument_default"]
theorem scDflt : FnScope nDflt nDflt (defScope sDflt) := ⟨rfl, rfl, rfl, by decide +kernel, rfl, by decide +kernel, by decide +kernel⟩
theorem ok_dflt {f : Addr} {fd : FuncData} (F : Fun K "default_of" "default_of" sDflt f fd) : FnOk P w K mg base CX0 1 f fd nDflt spDflt := by
  refine F.ok scDflt (fun vs H Q E h => ?_) (fun cdv A outer s H vs Q E hr h => ?_)
  · obtain ⟨z, d, o, dd, d', a, n, rfl, _⟩ := h
    rfl
  · obtain ⟨z, d, o, dd, d', a, n, rfl, hz, hO, hD, k⟩ := h
    have hu1 := hu_of hr
    refine ⟨_, pss_cons (ps_if (pt_cmp (pc_din hu1 pe_str (pv 2))) pss_never pss_nil)
      (pss_cons (ps_if (pt_cmpR op_in_seq (pv 0) (pe_tup (pa_cons pe_str (pa_cons pe_str pa_nil))) (by rfl)) pss_never pss_nil)
      (pss_cons (ps_if (pt_cmp (pc_din hu1 (pv 1) (pv 3))) pss_never pss_nil)
      (pss_cons (ps_if (pt_cmp (pc_notN (pv 4))) pss_never pss_nil)
      (pss_one (ps_ret (pe_ifExp (pt_cmpR op_in_seq (pv 0) (pe_tup (pa_cons pe_str (pa_cons pe_str pa_nil))) (by rfl)) (pe_cmpR op_eq (pv 0) pe_str (nomark _)) pe_non)))))), ?_⟩
    have g2 := DGet.k (k := (Sum.inr ("default" : Str) : Key)) hO.at_
    rw [opt_else (by decide) (by decide) (by decide)] at g2
    have m1 : ∀ s ∈ acts, inV (.str s) [.str "help", .str "version"] = false := by decide +kernel
    refine ⟨_, rfl, o, _, rfl, g2, _, rfl, iteF ?_⟩
    refine ⟨_, rfl, (by show 2 ≤ sizeLine; decide), fun p hp => ⟨p, _, rfl, .inr (SqT.of upd_same), rfl, by decide +kernel, false, ?_, iteF ?_⟩⟩
    · rw [if_neg Bool.false_ne_true, m1 z hz]
    have e1 := same_upd (o := .tup [.str "help", .str "version"]) hp
    refine ⟨_, rfl, _, rfl, dd, _, rfl, DGet.k (k := (Sum.inr d : Key)) (e1 _ _ hD), _, rfl, iteF ?_⟩
    refine ⟨_, rfl, false, rfl, iteF ?_⟩
    refine ⟨_, rfl, (by show 2 ≤ sizeLine; decide), fun q hq => ⟨q, _, rfl, .inr (SqT.of upd_same), rfl, by decide +kernel, _, rfl, ?_⟩⟩
    rw [if_neg Bool.false_ne_true]
    exact ite2 (fun _ => ⟨_, rfl, rfl, k _ _ (same_upd2 e1 hq)⟩) (fun _ => k _ _ (same_upd2 e1 hq))
theorem scArgI : FnScope ["self", "flags", "dest", "action"] ["self", "flags", "dest", "action"] (defScope sArgI) := ⟨rfl, rfl, rfl, by decide +kernel, rfl, by decide +kernel, by decide +kernel⟩
theorem ok_argI {f C : Addr} {fd : FuncData} (F : Fun K "__init__" "Argument.__init__" sArgI f fd) (c : ClsN K C argF) : FnOk P w K mg base CX0 1 f fd ["self", "flags", "dest", "action"] (spArgI C) := by
  refine F.ok scArgI (fun vs H Q E h => ?_) (fun cdv A outer s H vs Q E hr h => ?_)
  · obtain ⟨x, dx, T, fl, d, z, rfl, _⟩ := h
    rfl
  · obtain ⟨x, dx, T, fl, d, z, rfl, hx, hT, fA, k⟩ := h
    have hu : (A.deeper (PyProof.Rows.envOfC "Argument.__init__" (defScope sArgI) s.heap.objs.size f cdv)).units + 64 < cLine := hr.units
    refine ⟨_, pss_cons (ps_fld (pv 0) (pv 1) rfl) (pss_cons (ps_fld (pv 0) (pv 2) rfl) (pss_cons (ps_fld (pv 0) (pv 3) rfl) (pss_mid (ps_fld (pv 0) (pe_cmpR (op_neD hu) (pv 1) (pe_tup pa_nil) (nomark _)) rfl) (pss_cons (ps_fld (pv 0) pe_non rfl) (pss_cons (ps_fld (pv 0) pe_non rfl) (pss_cons (ps_fld (pv 0) pe_non rfl) (pss_cons (ps_fld (pv 0) pe_non rfl) (pss_cons (ps_fld (pv 0) pe_non rfl) (pss_cons (ps_fld (pv 0) pe_bl rfl) (pss_cons (ps_fld (pv 0) pe_non rfl) (pss_cons (ps_fld (pv 0) pe_non rfl) (pss_cons (ps_fld (pv 0) pe_non rfl) (pss_cons (ps_fld (pv 0) pe_non rfl) (pss_one (ps_fld (pv 0) pe_bl rfl))))))))))))))), ?_⟩
    have m : ∀ f ∈ argF, NoAttr K C f := c.no
    have nTx : T ≠ x := ne_of hT hx (by intro z; cases z)
    refine ⟨_, rfl, _, rfl, x, C, dx, _, rfl, hx, c.cl, m _ (by decide +kernel), (by show 0 < 1000; decide), ?_⟩
    refine ⟨_, rfl, _, rfl, x, C, dx, _, rfl, upd_same, c.cl, m _ (by decide +kernel), (by show 1 < 1000; decide), ?_⟩
    refine ⟨_, rfl, _, rfl, x, C, dx, _, rfl, upd_same, c.cl, m _ (by decide +kernel), (by show 2 < 1000; decide), ?_⟩
    refine ⟨fun σ' H' => σ' = [some (.ref x), some (.ref T), some (.str d), some (.str z)] ∧ (∀ b o, H b = some o → b ≠ x → H' b = some o) ∧ H' x = some (.ins C dx [("flags", .ref T), ("dest", .str d), ("action", .str z), ("is_option", .bl (!fl.isEmpty))]), ?_, ?_⟩
    · refine ⟨_, rfl, (by show 0 ≤ sizeLine; decide), fun p hp => ?_⟩
      have e1 := same_upd (o := .tup []) hp
      refine ⟨.tuple (fl.map PyData.str), .tuple [], .tup (SqT.of (e1 _ _ (by rw [upd_ne nTx, upd_ne nTx, upd_ne nTx]; exact hT))) (dpAll_strs fl), .tup (SqT.of upd_same) .nil, okF_shaped fA, by decide, ?_⟩
      refine ⟨_, rfl, x, C, dx, _, rfl, e1 _ _ upd_same, c.cl, m _ (by decide +kernel), (by show 3 < 1000; decide), rfl, fun b o e nb => ?_, ?_⟩
      · rw [upd_ne nb]
        refine e1 _ _ ?_
        rw [upd_ne nb, upd_ne nb, upd_ne nb]
        exact e
      · have hb : (!PyData.eqv (.tuple (fl.map PyData.str)) (.tuple [])) = !fl.isEmpty := by
          cases fl with
          | nil => rfl
          | cons y ys => rfl
        rw [upd_same, hb]
        rfl
    rintro _ G ⟨rfl, kp, g⟩
    refine ⟨_, rfl, x, C, dx, _, rfl, g, c.cl, m _ (by decide +kernel), (by show 4 < 1000; decide), ?_⟩
    refine ⟨_, rfl, x, C, dx, _, rfl, upd_same, c.cl, m _ (by decide +kernel), (by show 5 < 1000; decide), ?_⟩
    refine ⟨_, rfl, x, C, dx, _, rfl, upd_same, c.cl, m _ (by decide +kernel), (by show 6 < 1000; decide), ?_⟩
    refine ⟨_, rfl, x, C, dx, _, rfl, upd_same, c.cl, m _ (by decide +kernel), (by show 7 < 1000; decide), ?_⟩
    refine ⟨_, rfl, x, C, dx, _, rfl, upd_same, c.cl, m _ (by decide +kernel), (by show 8 < 1000; decide), ?_⟩
    refine ⟨_, rfl, x, C, dx, _, rfl, upd_same, c.cl, m _ (by decide +kernel), (by show 9 < 1000; decide), ?_⟩
    refine ⟨_, rfl, x, C, dx, _, rfl, upd_same, c.cl, m _ (by decide +kernel), (by show 10 < 1000; decide), ?_⟩
    refine ⟨_, rfl, x, C, dx, _, rfl, upd_same, c.cl, m _ (by decide +kernel), (by show 11 < 1000; decide), ?_⟩
    refine ⟨_, rfl, x, C, dx, _, rfl, upd_same, c.cl, m _ (by decide +kernel), (by show 12 < 1000; decide), ?_⟩
    refine ⟨_, rfl, x, C, dx, _, rfl, upd_same, c.cl, m _ (by decide +kernel), (by show 13 < 1000; decide), ?_⟩
    refine ⟨_, rfl, x, C, dx, _, rfl, upd_same, c.cl, m _ (by decide +kernel), (by show 14 < 1000; decide), ?_⟩
    refine k _ (fun b o e nb => ?_) ?_
    · iterate 11 rw [upd_ne nb]
      exact kp _ _ e nb
    · rw [upd_same]
      rfl
end
end K01

namespace K01
open PySem L2 PyProof.Rows
def parF : List Str := ["prog", "usage", "description", "epilog", "layout", "width", "prefix_chars", "file_signs", "files", "argument_default", "conflict_handler", "allow_abbrev", "exit_on_error", "arguments", "flags", "exclusives", "defaults", "commands_argument", "sections"]
/-- what made_argument reads of the parser -/
structure PaAt (CP : Addr) (H : Hp) (p dd : Addr) : Prop where
  ex : ∃ dx fs, H p = some (.ins CP dx fs) ∧ fs.lookup ("prefix_chars" : Str) = some (V.str "-") ∧ fs.lookup ("defaults" : Str) = some (V.ref dd) ∧ fs.lookup ("argument_default" : Str) = some V.non
  d : H dd = some (.dK [])
theorem PaAt.keep {CP : Addr} {H H' : Hp} {p dd : Addr} (h : PaAt CP H p dd) (e : Same H H') : PaAt CP H' p dd := by
  obtain ⟨dx, fs, h1, h2⟩ := h.ex
  exact ⟨⟨dx, fs, e _ _ h1, h2⟩, e _ _ h.d⟩
/-- an argument in the making -/
structure Msd (H H' : Hp) (CA A dx T : Addr) (fl : List Str) (d s : Str) : Prop where
  same : Same H H'
  tt : H' T = some (.tup (fl.map V.str))
  ex : ∃ nn co de ki ch re he me ve cm fe, flatV nn = true ∧ H' A = some (.ins CA dx (aFs (.ref T) (.str d) (.str s) (.bl (!fl.isEmpty)) nn co de ki ch re he me ve cm fe))
theorem Msd.keep {H H' H2 : Hp} {CA A dx T : Addr} {fl : List Str} {d s : Str} (m : Msd H H' CA A dx T fl d s) (e : Same H' H2) : Msd H H2 CA A dx T fl d s := by
  obtain ⟨nn, co, de, ki, ch, re, he, me, ve, cm, fe, hn, h⟩ := m.ex
  exact ⟨m.same.trans e, e _ _ m.tt, nn, co, de, ki, ch, re, he, me, ve, cm, fe, hn, e _ _ h⟩
def putS : List Str := ["fellows", "nargs", "const", "default", "kind", "choices", "required", "help", "version", "metavar"]
theorem putS_ok {f : Str} (hf : f ∈ putS) (T d s io nn co de ki ch re he me ve cm fe v : V) (hn : flatV nn = true) (hv : f = "nargs" → flatV v = true) : ∃ nn' co' de' ki' ch' re' he' me' ve' cm' fe', flatV nn' = true ∧ putF f v (aFs T d s io nn co de ki ch re he me ve cm fe) = aFs T d s io nn' co' de' ki' ch' re' he' me' ve' cm' fe' := by
  unfold putS at hf
  simp only [List.mem_cons, List.not_mem_nil, or_false] at hf
  rcases hf with rfl | rfl | rfl | rfl | rfl | rfl | rfl | rfl | rfl | rfl <;> first | exact ⟨_, _, _, _, _, _, _, _, _, _, _, hn, rfl⟩ | exact ⟨_, _, _, _, _, _, _, _, _, _, _, hv rfl, rfl⟩
theorem Msd.put {K : PySem.W.Frag} {Y : Hp → Prop} {H H' : Hp} {CA A dx T : Addr} {fl : List Str} {d s f : Str} {v : V} (m : Msd H H' CA A dx T fl d s) (c : ClsN K CA argF) (nA : H A = none) (hf : f ∈ putS) (k : ∀ H2, Msd H H2 CA A dx T fl d s → Y H2) (hv : f = "nargs" → flatV v = true := by first | (intro h; exact absurd h (by decide +kernel))) :
    ∃ a C dx fs, V.ref A = .ref a ∧ H' a = some (.ins C dx fs) ∧ Cls K C ∧ NoAttr K C f ∧ fs.length < 1000 ∧ Y (upd H' a (.ins C dx (putF f v fs))) := by
  obtain ⟨nn, co, de, ki, ch, re, he, me, ve, cm, fe, hn, h⟩ := m.ex
  refine ⟨A, CA, dx, _, rfl, h, c.cl, c.no _ ?_, (by show 15 < 1000; decide), k _ ⟨same_mut m.same nA, ?_, ?_⟩⟩
  · exact (by decide +kernel : ∀ f ∈ putS, f ∈ argF) f hf
  · rw [upd_ne (ne_of m.tt h (by intro z; cases z))]
    exact m.tt
  · obtain ⟨nn', co', de', ki', ch', re', he', me', ve', cm', fe', hn', e⟩ := putS_ok hf (.ref T) (.str d) (.str s) (.bl (!fl.isEmpty)) nn co de ki ch re he me ve cm fe v hn hv
    rw [e]
    exact ⟨nn', co', de', ki', ch', re', he', me', ve', cm', fe', hn', upd_same⟩
theorem Msd.putG {K : PySem.W.Frag} {Q : L2.St → Hp → Prop} {σ : L2.St} {H H' : Hp} {CA A dx T : Addr} {fl : List Str} {d s f : Str} {v : V} (m : Msd H H' CA A dx T fl d s) (c : ClsN K CA argF) (nA : H A = none) (hf : f ∈ putS) (h9 : σ[9]? = some (some (.ref A))) (k : ∀ H2, Msd H H2 CA A dx T fl d s → Q σ H2) (hv : f = "nargs" → flatV v = true := by first | (intro h; exact absurd h (by decide +kernel))) :
    gFld K (tVar 9) f v σ H' Q := ⟨_, h9, m.put (Y := fun H2 => Q σ H2) c nA hf k hv⟩
theorem dt_non {N : Hp} {v : V} (h : Dt N v .none) : v = .non := by
  cases h
  rfl
/-- comprehension of the flags that are not told ahead -/
theorem nodup_notin : ∀ {fl : List Str} {i : Nat} {x : Str}, fl.Nodup → fl[i]? = some x → inV (.str x) ((fl.take i).map V.str) = false := by
  intro fl i x nd hx
  unfold inV
  rw [List.any_eq_false]
  intro y hy
  obtain ⟨z, hz, rfl⟩ := List.mem_map.mp hy
  have hne : z ≠ x := by
    rintro rfl
    have hi := (List.getElem?_eq_some_iff.mp hx).1
    have e := (List.getElem?_eq_some_iff.mp hx).2
    obtain ⟨j, hj, ej⟩ := List.getElem_of_mem hz
    rw [List.getElem_take] at ej
    rw [List.length_take] at hj
    have := (List.getElem_inj nd).mp (ej.trans e.symm)
    omega
  show ¬ ((z == x) = true)
  simpa using hne
theorem cut_take {xs : List V} {i : Nat} (h : i ≤ xs.length) : cutV xs none (some (i : Int)) = xs.take i := by
  unfold cutV
  rw [HT.sIx_nat, HT.sIx_none, Nat.min_eq_left h]
  simp
theorem flat_strs (fl : List Str) : (fl.map V.str).all flatV = true := by
  rw [List.all_eq_true]
  intro x hx
  obtain ⟨z, _, rfl⟩ := List.mem_map.mp hx
  rfl
def spMade (CA CP : Addr) : Sp := fun vs H Q _ => ∃ (a o p dd : Addr) (gs fl : List Str) (r : Str) (d act : Option Str) (n : Option V), vs = [.ref a, .ref o, .ref p, .bl false] ∧ H a = some (.lst (gs.map V.str)) ∧ Named gs fl d r ∧ fl.Nodup ∧ OpAt H o d act n ∧ (fl = [] → act = none) ∧ PaAt CP H p dd ∧
  ∀ (A dx T : Addr) (H' : Hp), H A = none → H T = none → Msd H H' CA A dx T fl r (act.getD "store") → Q (.ref A) H'
section
variable {P : Program} {w : World} {K : PySem.W.Frag} {mg : Str → Option Value} {base : Heap}
abbrev nMade : List Str := ["flags", "given", "parser", "is_exclusive", "options", "made", "dest", "action", "unique", "argument", "metavar", "at", "flag"]
theorem scMade : FnScope nMade ["flags", "given", "parser", "is_exclusive"] (defScope sMadeArg) := ⟨rfl, rfl, rfl, by decide +kernel, rfl, by decide +kernel, by decide +kernel⟩
theorem ok_made {f fCh fNa fCo fDf fCp fR fAI CA CP aW aC aO aN aL aA : Addr} {fd fdCh fdNa fdCo fdDf fdCp fdR fdAI : FuncData} (F : Fun K "made_argument" "made_argument" sMadeArg f fd) (T : TxtB mg) (Z : TxtK K mg aW aC aO aN aL aA) (cP : ClsN K CP parF) (cA : ClsN K CA argF)
    (Ch : At P w K mg base "checked_flags" 3 ["flags", "prefix_chars"] (spChk K) fCh fdCh) (Na : At P w K mg base "named" 1 ["flags", "made", "options", "prefix_chars"] spNamed fNa fdNa) (Co : At P w K mg base "check_options" 3 ["action", "options", "is_positional"] spChkO fCo fdCo) (Df : At P w K mg base "default_of" 1 nDflt spDflt fDf fdDf) (Cp : At P w K mg base "copied" 3 ["value"] (spCop 2) fCp fdCp) (R : At P w K mg base "is_row" 1 ["thing"] (spIsRow K) fR fdR)
    (mA : mg "Argument" = some (.ref CA)) (MA : Mk K CA fAI) (GA : FnOk P w K mg base CX0 1 fAI fdAI ["self", "flags", "dest", "action"] (spArgI CA)) (bA : Binds K fdAI ["self", "flags", "dest", "action"] []) :
    FnOk P w K mg base CX0 4 f fd ["flags", "given", "parser", "is_exclusive"] (spMade CA CP) := by
  refine F.ok scMade (fun vs H Q E h => ?_) (fun cdv A0 outer s H vs Q E hr h => ?_)
  · obtain ⟨a, o, p, dd, gs, fl, r, d, act, n, rfl, _⟩ := h
    rfl
  · obtain ⟨a, o, p, dd, gs, fl, r, d, act, n, rfl, ha, hG, nd, hO, hact, hP, k⟩ := h
    have hfl := hG.fls
    have hu : (A0.deeper (PyProof.Rows.envOfC "made_argument" (defScope sMadeArg) s.heap.objs.size f cdv)).units + 64 < cLine := hr.units
    have hu1 := hu_of hr
    have r1 : Room 1 (A0.deeper (PyProof.Rows.envOfC "made_argument" (defScope sMadeArg) s.heap.objs.size f cdv)) := hr.mono (by decide)
    have r2 : Room 2 (A0.deeper (PyProof.Rows.envOfC "made_argument" (defScope sMadeArg) s.heap.objs.size f cdv)) := hr.mono (by decide)
    refine ⟨_, (pss_cons (ps_set (i := 4) scMade.nd rfl (Or.inl rfl) (pe_ifExp (pt_cmp (pc_isN (pv 1))) pe_never (pv 1)))
      (pss_mid (ps_set (i := 5) scMade.nd rfl (Or.inr rfl) (pe_call Ch.ok hr rfl Ch.m Ch.k Ch.b .nil pass0 (pa_cons (pv 0) (pa_cons (pe_fld (pv 2) rfl) pa_nil))))
      (pss_mid (ps_set (i := 6) scMade.nd rfl (Or.inl rfl) (pe_call Na.ok r1 rfl Na.m Na.k Na.b .nil pass0 (pa_cons (pv 0) (pa_cons (pv 5) (pa_cons (pv 4) (pa_cons (pe_fld (pv 2) rfl) pa_nil))))))
      (pss_cons (ps_set (i := 7) scMade.nd rfl (Or.inl rfl) (pe_dget2 hu1 (pv 4) pe_str pe_str ⟨rfl, rfl, rfl, rfl⟩))
      (pss_mid (ps_expr (pe_call Co.ok hr rfl Co.m Co.k Co.b .nil pass0 (pa_cons (pv 7) (pa_cons (pv 4) (pa_cons (pe_cmpR (op_eqD hu) (pv 5) (pe_tup pa_nil) (nomark _)) pa_nil)))))
      (pss_mid (ps_set (i := 8) scMade.nd rfl (Or.inl rfl) (pe_callTy call_tuple_of (by rfl) T.tuple (by decide +kernel) (pa_cons (pe_lc (own := [("at", 11), ("flag", 12)]) (g := gTup K 2 (gCons (gName 11) (gCons (gName 12) gNil))) (tt := tTest (tOp (rIn K true) (tVar 12) (tSl (rSlT K) (tVar 5) tNoPart (tPart (tVar 11))))) (te := tVar 12) rfl scMade.nd (pi_enumT rfl Z.enum (pa_cons (pv 5) pa_nil)) (blkOk_by (N := nMade) (sc := defScope sMadeArg) (by decide +kernel)) (fun _ _ _ _ _ => pg_tup rfl (pgs_cons (pg_name (i := 11) scMade.nd rfl (Or.inl rfl)) (pgs_cons (pg_name (i := 12) scMade.nd rfl (Or.inl rfl)) pgs_nil)))
 (fun _ _ _ _ _ => by exact pts_one (pt_cmpR op_notIn_seq (pv 12) (by exact pe_slice sl_tup (pv 5) po_none (po_some (pv 11))) (by rfl))) (fun _ _ _ _ _ => by exact pv 12)) pa_nil)))
      (pss_mid (ps_set (i := 9) scMade.nd rfl (Or.inl rfl) (pe_make MA GA r2 rfl mA bA .nil pass0 (pa_cons (pe_ifExp (pt_cmpR op_eq (pv 7) pe_str (nomark _)) pe_never (pv 8)) (pa_cons (pv 6) (pa_cons (pv 7) pa_nil)))))
      (pss_mid (ps_fld (pv 9) (pe_and (pe_cmpR op_eq (pv 7) pe_str (nomark _)) pe_never) rfl)
      (pss_mid (ps_fld (pv 9) (pe_ifExp (pt_cmpR op_in_seq (pv 7) (pe_glob (v := .ref aW) rfl Z.W.m rfl) (by rfl)) (pe_dget1 hu1 (pv 4) pe_str ⟨rfl, rfl, rfl, rfl⟩) pe_int) rfl)
      (pss_mid (ps_fld (pv 9) (pe_ifExp (pt_cmpR op_in_seq (pv 7) (pe_tup (pa_cons pe_str (pa_cons pe_str pa_nil))) (by rfl)) (pe_cmpR op_eq (pv 7) pe_str (nomark _)) (pe_call Cp.ok hr rfl Cp.m Cp.k Cp.b .nil pass0 (pa_cons (pe_dget1 hu1 (pv 4) pe_str ⟨rfl, rfl, rfl, rfl⟩) pa_nil))) rfl)
      (pss_mid (ps_fld (pv 9) (pe_call Df.ok r1 rfl Df.m Df.k Df.b .nil pass0 (pa_cons (pv 7) (pa_cons (pv 6) (pa_cons (pv 4) (pa_cons (pe_fld (pv 2) rfl) (pa_cons (pe_fld (pv 2) rfl) pa_nil)))))) rfl)
      (pss_mid (ps_asg (pe_tup (pa_cons (pe_call Cp.ok hr rfl Cp.m Cp.k Cp.b .nil pass0 (pa_cons (pe_dget1 hu1 (pv 4) pe_str ⟨rfl, rfl, rfl, rfl⟩) pa_nil)) (pa_cons (pe_call Cp.ok hr rfl Cp.m Cp.k Cp.b .nil pass0 (pa_cons (pe_dget1 hu1 (pv 4) pe_str ⟨rfl, rfl, rfl, rfl⟩) pa_nil)) pa_nil))) (pg_tup rfl (pgs_cons (pg_fld (pv 9)) (pgs_cons (pg_fld (pv 9)) pgs_nil))))
      (pss_mid (ps_fld (pv 9) (pe_ifExp (pt_cmpR (op_neD hu) (pv 5) (pe_tup pa_nil) (nomark _)) (pe_dget2 hu1 (pv 4) pe_str pe_bl ⟨rfl, rfl, rfl, rfl⟩) (pe_cmpR op_notIn_seq (pe_fld (pv 9) rfl) (pe_tup (pa_cons pe_str (pa_cons pe_str (pa_cons pe_str pa_nil)))) (by rfl))) rfl)
      (pss_mid (ps_asg (pe_tup (pa_cons (pe_dget1 hu1 (pv 4) pe_str ⟨rfl, rfl, rfl, rfl⟩) (pa_cons (pe_dget1 hu1 (pv 4) pe_str ⟨rfl, rfl, rfl, rfl⟩) pa_nil))) (pg_tup rfl (pgs_cons (pg_fld (pv 9)) (pgs_cons (pg_fld (pv 9)) pgs_nil))))
      (pss_cons (ps_if (PW.pt (pw_and (pt_cmpR op_eq (pv 7) pe_str (nomark _)) pw_never)) pss_never pss_nil)
      (pss_cons (ps_set (i := 10) scMade.nd rfl (Or.inl rfl) (pe_dget1 hu1 (pv 4) pe_str ⟨rfl, rfl, rfl, rfl⟩))
      (pss_mid (ps_fld (pv 9) (pe_ifExp (pt_val (pe_call R.ok r1 rfl R.m R.k R.b .nil pass0 (pa_cons (pv 10) pa_nil))) pe_never (pv 10)) rfl)
      (pss_cons (ps_if (PW.pt (pw_and (pt_val (pv 3)) pw_never)) pss_never pss_nil)
      (pss_one (ps_ret (pv 9))))))))))))))))))))), ?_⟩
    obtain ⟨dxp, pfs, p1, pp, pd, pa⟩ := hP.ex
    have pD := hP.d
    have nP1 : NoAttr K CP "prefix_chars" := cP.no _ (by decide +kernel)
    have nP2 : NoAttr K CP "defaults" := cP.no _ (by decide +kernel)
    have nP3 : NoAttr K CP "argument_default" := cP.no _ (by decide +kernel)
    have iD : ∀ H', Same H H' → IsD H' o := fun H' e => .inl ⟨_, .inl (e _ _ hO.at_)⟩
    have gO := fun (x : Str) (H' : Hp) (e : Same H H') => DGet.k (k := (Sum.inr x : Key)) (e _ _ hO.at_)
    have ez : (act.map V.str).getD (.str "store") = .str (act.getD "store") := by cases act <;> rfl
    have hA : act.getD "store" ∈ acts := acts_of hO
    have hb : PyData.eqv (.tuple (fl.map PyData.str)) (.tuple []) = fl.isEmpty := by
      cases fl with
      | nil => rfl
      | cons y ys => rfl
    have gN := gO "nargs"
    have gAc := gO "action"
    rw [opt_nargs] at gN
    rw [opt_action] at gAc
    have gNo : ∀ (x : Str) (H' : Hp), Same H H' → ("dest" : Str) ≠ x → ("action" : Str) ≠ x → ("nargs" : Str) ≠ x → DGet H' o (.str x) none := fun x H' e h1 h2 h3 => by
      have g := gO x H' e
      rw [opt_else h1 h2 h3] at g
      exact g
    have nflat : flatV (n.getD .non) = true := by
      have := hO.nn
      cases n with
      | none => rfl
      | some v =>
        simp only [okN, List.mem_cons, List.not_mem_nil, or_false] at this
        rcases this with rfl | rfl | rfl | rfl | rfl | rfl <;> rfl
    have m1 : ∀ s ∈ acts, decide (V.str s = V.str ("yes_no" : Str)) = false ∧ decide (V.str s = V.str ("version" : Str)) = false := by decide +kernel
    -- options, made
    refine ⟨_, rfl, false, rfl, iteF ⟨_, rfl, ?_⟩⟩
    refine ⟨fun σ' H' => ∃ T : Addr, σ' = [some (.ref a), some (.ref o), some (.ref p), some (.bl false), some (.ref o), some (.ref T), none, none, none, none, none, none, none] ∧ Same H H' ∧ H T = none ∧ H' T = some (.tup (fl.map V.str)), ?_, ?_⟩
    · exact ⟨_, rfl, _, rfl, p, CP, dxp, pfs, _, rfl, p1, cP.cl, nP1, pp, a, gs, fl, d, r, rfl, ha, hG, fun T H1 e1 nT hT => ⟨T, rfl, e1, nT, hT⟩⟩
    rintro _ H1 ⟨T, rfl, e1, nT, hT⟩
    -- dest
    refine ⟨fun σ' H' => σ' = [some (.ref a), some (.ref o), some (.ref p), some (.bl false), some (.ref o), some (.ref T), some (.str r), none, none, none, none, none, none] ∧ Same H1 H', ?_, ?_⟩
    · exact ⟨_, rfl, _, rfl, _, rfl, _, rfl, p, CP, dxp, pfs, _, rfl, e1 _ _ p1, cP.cl, nP1, pp, a, T, o, gs, fl, r, d, act, n, rfl, e1 _ _ ha, hT, hG, hO.keep e1, fun H2 e2 => ⟨rfl, e2⟩⟩
    rintro _ H2 ⟨rfl, e12⟩
    have e2 := e1.trans e12
    -- action
    refine ⟨_, rfl, o, rfl, iD H2 e2, _, gAc H2 e2, ?_⟩
    rw [ez]
    -- check_options
    refine ⟨fun σ' H' => σ' = [some (.ref a), some (.ref o), some (.ref p), some (.bl false), some (.ref o), some (.ref T), some (.str r), some (.str (act.getD "store")), none, none, none, none, none] ∧ Same H2 H', ?_, ?_⟩
    · refine ⟨_, rfl, _, rfl, _, rfl, (by show 0 ≤ sizeLine; decide), fun q hq => ?_⟩
      have eq := same_upd (o := .tup []) hq
      refine ⟨.tuple (fl.map PyData.str), .tuple [], .tup (SqT.of (eq _ _ (e12 _ _ hT))) (dpAll_strs fl), .tup (SqT.of upd_same) .nil, okF_shaped hfl.2, by decide, ?_⟩
      rw [hb]
      exact ⟨o, _, d, act, n, fl.isEmpty, rfl, hO.keep (e2.trans eq), rfl, (fun q => by rw [hact (List.isEmpty_iff.mp q)]; rfl), fun H' e => ⟨rfl, eq.trans e⟩⟩
    rintro _ H3 ⟨rfl, e23⟩
    have e3 := e2.trans e23
    have hT3 := e23 _ _ (e12 _ _ hT)
    -- unique
    refine ⟨fun σ' H' => ∃ U : Addr, σ' = [some (.ref a), some (.ref o), some (.ref p), some (.bl false), some (.ref o), some (.ref T), some (.str r), some (.str (act.getD "store")), some (.ref U), none, none, none, none] ∧ Same H3 H' ∧ H U = none ∧ H' U = some (.tup (fl.map V.str)), ?_, ?_⟩
    · refine ⟨_, rfl, T, _, rfl, SqT.of hT3, fun D hD => ?_⟩
      refine lc_it walk_enumT (fun i H' => Same H3 H' ∧ H' D = some (.lst ((fl.take i).map V.str))) ⟨same_upd hD, upd_same⟩ (fun i H' _ h => SqT.of (h.1 _ _ hT3)) (fun i v H' H'' hi h y => ?_) (fun H' h => ?_)
      · obtain ⟨Tn, x, y, rfl, hTn, rfl, hx, hy⟩ := y
        cases hx
        obtain ⟨w, hw, rfl⟩ := str_at hy
        have nD : D ≠ Tn := ne_of_none h.2 hTn
        have eT := same_upd (o := .tup [.int (i : Nat), .str w]) hTn
        have hil : i < fl.length := (List.getElem?_eq_some_iff.mp hw).1
        refine ⟨Tn, _, rfl, SqT.of upd_same, rfl, _, _, rfl, _, _, rfl, rfl, rfl, _, rfl, _, rfl, _, rfl, ?_⟩
        have ht : i ≤ (fl.map V.str).length := by
          rw [List.length_map]
          omega
        refine ⟨_, rfl, T, _, rfl, SqT.of (eT _ _ (h.1 _ _ hT3)), (fun z => ?_), fun q hq => ⟨q, _, rfl, .inr (SqT.of upd_same), rfl, ?_, true, ?_, iteT ?_⟩⟩
        · have z2 := z.2
          rw [HT.sIx_nat, List.length_map] at z2
          omega
        · rw [cut_take ht, ← List.map_take]
          exact flat_strs _
        · rw [if_pos rfl, cut_take ht, ← List.map_take, nodup_notin nd hw]
          rfl
        refine ⟨_, rfl, _, same_upd hq _ _ (eT _ _ h.2), sz_lt1 (by rw [List.length_map, List.length_take]; omega) (show i < 1001 by have := hfl.1; omega), same_mut (h.1.trans (eT.trans (same_upd hq))) hD, ?_⟩
        rw [upd_same, take_more' hw, List.map_append]
        rfl
      · obtain ⟨s1, hl⟩ := h
        rw [List.length_map, List.take_length] at hl
        exact ⟨D, _, rfl, .inl ⟨SqL.of hl, fun U hU => ⟨U, rfl, same_upd2 s1 hU, Same.free (e3.trans s1) hU, upd_same⟩⟩⟩
    rintro _ H4 ⟨U, rfl, e34, nU, hU⟩
    have e4 := e3.trans e34
    obtain ⟨q1, q2⟩ := m1 _ hA
    -- the argument
    refine ⟨fun σ' H' => ∃ A dx : Addr, σ' = [some (.ref a), some (.ref o), some (.ref p), some (.bl false), some (.ref o), some (.ref T), some (.str r), some (.str (act.getD "store")), some (.ref U), some (.ref A), none, none, none] ∧ H4 A = none ∧ Msd H4 H' CA A dx U fl r (act.getD "store"), ?_, ?_⟩
    · refine ⟨_, rfl, rfl, _, rfl, ?_⟩
      rw [q1]
      refine iteF ⟨_, rfl, _, rfl, _, rfl, fun A dx hAn hdx ne => ?_⟩
      have eA : Same H4 (upd (upd H4 dx (.own A)) A (.ins CA dx [])) := same_upd2 (same_upd hdx) (by rw [upd_ne ne.symm]; exact hAn)
      refine ⟨A, dx, U, fl, r, _, rfl, upd_same, eA _ _ hU, hfl.2, fun H' kp hA' => ⟨rfl, A, dx, rfl, hAn, ?_, ?_, _, _, _, _, _, _, _, _, _, _, _, rfl, hA'⟩⟩
      · exact fun b u e => kp b u (eA _ _ e) (ne_of_none e hAn)
      · exact kp _ _ (eA _ _ hU) (ne_of_none hU hAn)
    rintro _ H5 ⟨A, dx, rfl, nA, M5⟩
    generalize hσ : ([some (.ref a), some (.ref o), some (.ref p), some (.bl false), some (.ref o), some (.ref T), some (.str r), some (.str (act.getD "store")), some (.ref U), some (.ref A), none, none, none] : L2.St) = σ5
    have s1 : σ5[1]? = some (some (.ref o)) := by rw [← hσ]; rfl
    have s2 : σ5[2]? = some (some (.ref p)) := by rw [← hσ]; rfl
    have s4 : σ5[4]? = some (some (.ref o)) := by rw [← hσ]; rfl
    have s5 : σ5[5]? = some (some (.ref T)) := by rw [← hσ]; rfl
    have s6 : σ5[6]? = some (some (.str r)) := by rw [← hσ]; rfl
    have s7 : σ5[7]? = some (some (.str (act.getD "store"))) := by rw [← hσ]; rfl
    have s9 : σ5[9]? = some (some (.ref A)) := by rw [← hσ]; rfl
    -- fellows
    refine ⟨fun σ' H' => σ5 = σ' ∧ Msd H4 H' CA A dx U fl r (act.getD "store"), ?_, ?_⟩
    · refine ⟨_, s7, rfl, false, ?_, iteF ⟨_, s9, M5.put cA nA (by decide +kernel) fun H' M => ⟨rfl, M⟩⟩⟩
      rw [q1]
    rintro _ H6 ⟨rfl, M6⟩
    -- nargs
    refine ⟨fun σ' H' => σ5 = σ' ∧ Msd H4 H' CA A dx U fl r (act.getD "store"), ?_, ?_⟩
    · refine ⟨_, s7, aW, wW, rfl, .inr (Z.W.q _), rfl, by decide +kernel, _, rfl, ?_⟩
      refine ite2 (fun _ => ?_) (fun _ => ?_)
      · exact ⟨_, s4, o, rfl, iD _ (e4.trans M6.same), _, gN _ (e4.trans M6.same), _, s9, M6.put cA nA (by decide +kernel) (fun H' M => ⟨rfl, M⟩) (fun _ => nflat)⟩
      · exact ⟨_, s9, M6.put cA nA (by decide +kernel) (fun H' M => ⟨rfl, M⟩) (fun _ => rfl)⟩
    rintro _ H7 ⟨rfl, M7⟩
    have hT4 := e34 _ _ hT3
    have gX : ∀ {x : Str} {H' : Hp}, Same H4 H' → ("dest" : Str) ≠ x → ("action" : Str) ≠ x → ("nargs" : Str) ≠ x → DGet H' o (.str x) none := fun e => gNo _ _ (e4.trans e)
    have iX : ∀ {H' : Hp}, Same H4 H' → IsD H' o := fun e => iD _ (e4.trans e)
    -- const
    refine ⟨fun σ' H' => σ5 = σ' ∧ Msd H4 H' CA A dx U fl r (act.getD "store"), ?_, ?_⟩
    · refine ⟨_, s7, (by show 2 ≤ sizeLine; decide), fun q hq => ⟨q, _, rfl, .inr (SqT.of upd_same), rfl, by decide +kernel, _, rfl, ?_⟩⟩
      have M := M7.keep (same_upd (o := .tup [.str "store_true", .str "store_false"]) hq)
      refine ite2 (fun _ => ?_) (fun _ => ?_)
      · exact ⟨_, s7, rfl, _, s9, M.put cA nA (by decide +kernel) fun H' M => ⟨rfl, M⟩⟩
      · exact ⟨_, s4, o, rfl, iX M.same, _, gX M.same (by decide) (by decide) (by decide), .non, .none, rfl, .non, Nat.zero_le _, rfl, fun v' N H' e F t => ⟨_, s9, (M.keep e).put cA nA (by decide +kernel) fun H' M => ⟨rfl, M⟩⟩⟩
    rintro _ H8 ⟨rfl, M8⟩
    -- default
    refine ⟨fun σ' H' => σ5 = σ' ∧ Msd H4 H' CA A dx U fl r (act.getD "store"), ?_, ?_⟩
    · exact ⟨_, s7, _, s6, _, s4, _, s2, p, CP, dxp, pfs, _, rfl, M8.same _ _ (e4 _ _ p1), cP.cl, nP2, pd, _, s2, p, CP, dxp, pfs, _, rfl, M8.same _ _ (e4 _ _ p1), cP.cl, nP3, pa, _, r, o, dd, d, act, n, rfl, hA, hO.keep (e4.trans M8.same), M8.same _ _ (e4 _ _ pD), fun v H' e => ⟨_, s9, (M8.keep e).put cA nA (by decide +kernel) fun H' M => ⟨rfl, M⟩⟩⟩
    rintro _ H9 ⟨rfl, M9⟩
    -- kind, choices
    refine ⟨fun σ' H' => σ5 = σ' ∧ Msd H4 H' CA A dx U fl r (act.getD "store"), ?_, ?_⟩
    · refine ⟨_, s4, o, rfl, iX M9.same, _, gX M9.same (by decide) (by decide) (by decide), .non, .none, rfl, .non, Nat.zero_le _, rfl, fun v1 N1 G1 f1 F1 t1 => ?_⟩
      have M := M9.keep f1
      refine ⟨_, s4, o, rfl, iX M.same, _, gX M.same (by decide) (by decide) (by decide), .non, .none, rfl, .non, Nat.zero_le _, rfl, fun v2 N2 G2 f2 F2 t2 => ⟨(by show 2 ≤ sizeLine; decide), fun W hW => ?_⟩⟩
      have M' := (M.keep f2).keep (same_upd (o := .tup [v1, v2]) hW)
      exact ⟨W, _, rfl, SqT.of upd_same, rfl, _, _, rfl, M'.putG cA nA (by decide +kernel) s9 fun H' M => ⟨_, _, rfl, M.putG cA nA (by decide +kernel) s9 fun H' M => ⟨rfl, rfl, M⟩⟩⟩
    rintro _ H10 ⟨rfl, M10⟩
    -- required
    refine ⟨fun σ' H' => σ5 = σ' ∧ Msd H4 H' CA A dx U fl r (act.getD "store"), ?_, ?_⟩
    · refine ⟨_, s5, (by show 0 ≤ sizeLine; decide), fun q hq => ?_⟩
      have eq := same_upd (o := .tup []) hq
      have M := M10.keep eq
      refine ⟨.tuple (fl.map PyData.str), .tuple [], .tup (SqT.of (M.same _ _ hT4)) (dpAll_strs fl), .tup (SqT.of upd_same) .nil, okF_shaped hfl.2, by decide, !fl.isEmpty, ?_, ?_⟩
      · rw [hb]
      refine ite2 (fun _ => ?_) (fun _ => ?_)
      · exact ⟨_, s4, o, rfl, iX M.same, _, gX M.same (by decide) (by decide) (by decide), _, s9, M.put cA nA (by decide +kernel) fun H' M => ⟨rfl, M⟩⟩
      · obtain ⟨nn, co, de, ki, ch, re, he, me, ve, cm, fe, hn, hA2⟩ := M.ex
        refine ⟨_, s9, A, CA, dx, _, nn, rfl, hA2, cA.cl, cA.no _ (by decide +kernel), rfl, (by show 3 ≤ sizeLine; decide), fun q2 hq2 => ⟨q2, _, rfl, .inr (SqT.of upd_same), hn, by decide +kernel, _, s9, (M.keep (same_upd hq2)).put cA nA (by decide +kernel) fun H' M => ⟨rfl, M⟩⟩⟩
    rintro _ H11 ⟨rfl, M11⟩
    -- help, version
    refine ⟨fun σ' H' => σ5 = σ' ∧ Msd H4 H' CA A dx U fl r (act.getD "store"), ?_, ?_⟩
    · refine ⟨_, s4, o, rfl, iX M11.same, _, gX M11.same (by decide) (by decide) (by decide), _, s4, o, rfl, iX M11.same, _, gX M11.same (by decide) (by decide) (by decide), (by show 2 ≤ sizeLine; decide), fun W hW => ?_⟩
      have M' := M11.keep (same_upd (o := .tup [.non, .non]) hW)
      exact ⟨W, _, rfl, SqT.of upd_same, rfl, _, _, rfl, M'.putG cA nA (by decide +kernel) s9 fun H' M => ⟨_, _, rfl, M.putG cA nA (by decide +kernel) s9 fun H' M => ⟨rfl, rfl, M⟩⟩⟩
    rintro _ H12 ⟨rfl, M12⟩
    subst hσ
    refine ⟨_, rfl, rfl, _, rfl, ?_⟩
    rw [q2]
    refine iteF (iteF ?_)
    -- metavar
    refine ⟨_, rfl, o, rfl, iX M12.same, _, gX M12.same (by decide) (by decide) (by decide), ?_⟩
    refine ⟨fun σ' H' => σ' = [some (.ref a), some (.ref o), some (.ref p), some (.bl false), some (.ref o), some (.ref T), some (.str r), some (.str (act.getD "store")), some (.ref U), some (.ref A), some .non, none, none] ∧ Msd H4 H' CA A dx U fl r (act.getD "store"), ?_, ?_⟩
    · exact ⟨_, rfl, .non, "NoneType", false, rfl, .base .non, by decide +kernel, fun H' e => ⟨_, rfl, iteF ⟨_, rfl, _, rfl, (M12.keep e).put cA nA (by decide +kernel) fun H' M => ⟨rfl, M⟩⟩⟩⟩
    rintro _ H13 ⟨rfl, M13⟩
    refine ⟨_, rfl, _, rfl, iteF (iteF ?_)⟩
    exact ⟨_, rfl, k A dx U _ (Same.free e4 nA) nU ⟨e4.trans M13.same, M13.tt, M13.ex⟩⟩
end
end K01

namespace K01
open PySem L2 PyProof.Rows
/-! ### a section, signs -/
def secF : List Str := ["home", "title", "description", "members"]
def sFs (v1 v2 v3 : V) (m : Addr) : List (Str × V) := [("home", v1), ("title", v2), ("description", v3), ("members", .ref m)]
def spSecI (C : Addr) : Sp := fun vs H Q _ => ∃ (x dx : Addr) (v1 v2 v3 : V), vs = [.ref x, v1, v2, v3] ∧ H x = some (.ins C dx []) ∧
  ∀ (m : Addr) (H' : Hp), (∀ b o, H b = some o → b ≠ x → H' b = some o) → H m = none → H' m = some (.lst []) → H' x = some (.ins C dx (sFs v1 v2 v3 m)) → Q .non H'
def spSigns : Sp := fun vs H Q _ => ∃ x : Str, vs = [.str x] ∧ (x = "-" ∨ x = "") ∧ ∀ H', Same H H' → Q (.bl true) H'
section
variable {P : Program} {w : World} {K : PySem.W.Frag} {mg : Str → Option Value} {base : Heap}
theorem scSecI : FnScope ["self", "home", "title", "description"] ["self", "home", "title", "description"] (defScope sSecI) := ⟨rfl, rfl, rfl, by decide +kernel, rfl, by decide +kernel, by decide +kernel⟩
theorem ok_secI {f C : Addr} {fd : FuncData} (F : Fun K "__init__" "Section.__init__" sSecI f fd) (c : ClsN K C secF) : FnOk P w K mg base CX0 1 f fd ["self", "home", "title", "description"] (spSecI C) := by
  refine F.ok scSecI (fun vs H Q E h => ?_) (fun cdv A outer s H vs Q E hr h => ?_)
  · obtain ⟨x, dx, v1, v2, v3, rfl, _⟩ := h
    rfl
  · obtain ⟨x, dx, v1, v2, v3, rfl, hx, k⟩ := h
    have m : ∀ f ∈ secF, NoAttr K C f := c.no
    refine ⟨_, pss_cons (ps_fld (pv 0) (pv 1) rfl) (pss_cons (ps_fld (pv 0) (pv 2) rfl) (pss_cons (ps_fld (pv 0) (pv 3) rfl) (pss_one (ps_fld (pv 0) (pe_lst pa_nil) rfl)))), ?_⟩
    refine ⟨_, rfl, _, rfl, x, C, dx, _, rfl, hx, c.cl, m _ (by decide +kernel), (by show 0 < 1000; decide), ?_⟩
    refine ⟨_, rfl, _, rfl, x, C, dx, _, rfl, upd_same, c.cl, m _ (by decide +kernel), (by show 1 < 1000; decide), ?_⟩
    refine ⟨_, rfl, _, rfl, x, C, dx, _, rfl, upd_same, c.cl, m _ (by decide +kernel), (by show 2 < 1000; decide), ?_⟩
    refine ⟨(by show 0 ≤ sizeLine; decide), fun q hq => ⟨_, rfl, x, C, dx, _, rfl, same_upd hq _ _ upd_same, c.cl, m _ (by decide +kernel), (by show 3 < 1000; decide), ?_⟩⟩
    have nx : x ≠ q := ne_of_none upd_same hq
    refine k q _ (fun b o e nb => ?_) ?_ ?_ ?_
    · rw [upd_ne nb]
      refine same_upd hq _ _ ?_
      rw [upd_ne nb, upd_ne nb, upd_ne nb]
      exact e
    · rw [upd_ne nx.symm, upd_ne nx.symm, upd_ne nx.symm] at hq
      exact hq
    · rw [upd_ne nx.symm, upd_same]
    · rw [upd_same]
      rfl
theorem paired_snoc {α β : Type} {R : α → β → Prop} : ∀ {xs : List α} {ys : List β} {x : α} {y : β}, PySem.Paired R xs ys → R x y → PySem.Paired R (xs ++ [x]) (ys ++ [y])
  | _, _, _, _, .nil, h => .cons h .nil
  | _, _, _, _, .cons r t, h => .cons r (paired_snoc t h)
theorem paired_map {α β : Type} {R S : α → β → Prop} (f : ∀ a b, R a b → S a b) : ∀ {xs : List α} {ys : List β}, PySem.Paired R xs ys → PySem.Paired S xs ys
  | _, _, .nil => .nil
  | _, _, .cons r t => .cons (f _ _ r) (paired_map f t)
theorem any_ff {α : Type} (xs : List α) : (xs.map fun _ => false).any id = false := by
  induction xs with
  | nil => rfl
  | cons x xs ih => exact ih
def sgK (x : Str) : List (Key × V) := x.cps.toList.map fun c => (Sum.inr (⟨#[c]⟩ : Str), V.bl true)
theorem scSigns : FnScope ["thing", "sign"] ["thing"] (defScope sIsSigns) := ⟨rfl, rfl, rfl, by decide +kernel, rfl, by decide +kernel, by decide +kernel⟩
theorem ok_signs {f : Addr} {fd : FuncData} {no : Str} {tn : Tok} (F : Fun K "is_signs" "is_signs" sIsSigns f fd) (T : TxtB mg) (zStr : mg "str" = none) (zAny : mg "any" = none) (hN : mg "NO_SIGNS" = some (.str no tn)) (hno : (Builtin.Str.occurrences no (⟨#[45]⟩ : Str) 0 no.length 1).isEmpty = true) : FnOk P w K mg base CX0 1 f fd ["thing"] spSigns := by
  refine F.ok scSigns (fun vs H Q E h => ?_) (fun cdv A outer s H vs Q E hr h => ?_)
  · obtain ⟨x, rfl, _⟩ := h
    rfl
  · obtain ⟨x, rfl, hx, k⟩ := h
    refine ⟨_, pss_cons (ps_if (PW.pt (pw_or (pt_not (pt_val (pe_callB call_isi (by rfl) T.isinstance (by decide +kernel) (pa_cons (pv 0) (pa_cons (pe_bltn (v := .ty "str") (by rfl) zStr (by decide +kernel) rfl) pa_nil))))) (pw_or1 (pt_cmpR op_lt (pe_callB call_lenD (by rfl) T.len PySem.boot_len (pa_cons (pe_callTy (call_dictP rfl) (by rfl) T.dict (by decide +kernel) (pa_cons (pe_lc (own := [("sign", 1)]) (g := gName 1) (tt := tYes) (te := tTup (tCons (tVar 1) (tCons (tC (.bl true)) tNil))) rfl scSigns.nd (pi_str (pv 0)) (blkOk_by (N := ["thing", "sign"]) (sc := defScope sIsSigns) (by decide +kernel)) (fun _ _ _ _ _ => pg_name (i := 1) scSigns.nd rfl (Or.inl rfl)) (fun _ _ _ _ _ => pts_nil)
        (fun _ _ _ _ _ => by exact pe_tup (pa_cons (pv 1) (pa_cons pe_bl pa_nil)))) pa_nil)) pa_nil)) (pe_callB call_len_str (by rfl) T.len PySem.boot_len (pa_cons (pv 0) pa_nil)) (nomark _))))) (pss_one (ps_ret pe_bl)) pss_nil)
      (pss_one (ps_ret (pe_not (pe_callB (cr_any rfl) (by rfl) zAny (by decide +kernel) (pa_cons (pe_lc (own := [("sign", 1)]) (g := gName 1) (tt := tYes) (te := tOp (fun x y H Q => ∃ i j, x = .str i ∧ y = .str j ∧ Q (.bl (!(Builtin.Str.occurrences j i 0 j.length 1).isEmpty)) H) (tVar 1) (tC (.str no))) rfl scSigns.nd (pi_str (pv 0)) (blkOk_by (N := ["thing", "sign"]) (sc := defScope sIsSigns) (by decide +kernel)) (fun _ _ _ _ _ => pg_name (i := 1) scSigns.nd rfl (Or.inl rfl)) (fun _ _ _ _ _ => pts_nil)
        (fun _ _ _ _ _ => by exact pe_cmpR op_in_str (pv 1) (pe_glob (v := .str no) rfl hN ⟨tn, rfl⟩) (by rfl))) pa_nil))))), ?_⟩
    have hc : ∀ c ∈ x.cps.toList, c = 45 := by rcases hx with rfl | rfl <;> decide +kernel
    have hl : x.cps.toList.length ≤ 1 ∧ x.length ≤ 1 ∧ decide (((mergeK [] (sgK x)).length : Int) < (x.length : Int)) = false := by rcases hx with rfl | rfl <;> decide +kernel
    refine ⟨_, rfl, _, .ty "str", _, _, true, rfl, .ty _, .base (.str x), kit_ty (by decide +kernel), _, rfl, iteF ?_⟩
    refine ⟨_, rfl, x, rfl, fun D hD => ?_⟩
    refine lc_it walk_str (fun i H' => Same H H' ∧ ∃ ts : List Addr, ts.length = i ∧ H' D = some (.lst (ts.map V.ref)) ∧ PySem.Paired (fun (t : Addr) (kv : Key × V) => H' t = some (.tup [kV kv.1, kv.2])) ts ((sgK x).take i)) ⟨same_upd hD, [], rfl, upd_same, .nil⟩ (fun _ _ _ _ => trivial) (fun i v H' H'' hi h y => ?_) (fun H1 h => ?_)
    · obtain ⟨rfl, c, hcc, rfl⟩ := y
      obtain ⟨s1, ts, lt, hD1, pp⟩ := h
      have hk : (sgK x)[i]? = some (Sum.inr (⟨#[c]⟩ : Str), V.bl true) := by
        unfold sgK
        rw [List.getElem?_map, Array.getElem?_toList, hcc]
        rfl
      refine ⟨rfl, _, rfl, (by show 2 ≤ sizeLine; decide), fun U hU => ?_⟩
      have eU := same_upd (o := .tup [.str ⟨#[c]⟩, .bl true]) hU
      have nDU : D ≠ U := ne_of_none hD1 hU
      have hil : i < x.cps.toList.length := by simpa using hi
      refine ⟨_, eU _ _ hD1, sz_lt1 (by rw [List.length_map]; exact lt) (show i < 1001 by omega), same_mut (s1.trans eU) hD, ts ++ [U], by rw [List.length_append, lt]; rfl, by rw [upd_same, List.map_append]; rfl, ?_⟩
      rw [take_more' hk]
      refine paired_snoc (paired_map (fun t kv q => ?_) pp) (by rw [upd_ne nDU.symm]; exact upd_same)
      rw [upd_ne (ne_of q hD1 (by intro z; cases z))]
      exact eU _ _ q
    · obtain ⟨s1, ts, lt, hD1, pp⟩ := h
      have ek : (sgK x).take x.cps.size = sgK x := List.take_of_length_le (by unfold sgK; rw [List.length_map]; simp)
      rw [ek] at pp
      refine ⟨D, ts, sgK x, rfl, SqL.of hD1, paired_map (fun t kv q => SqT.of q) pp, fun q hq => ⟨q, _, rfl, upd_same, _, rfl, x, rfl, (by rw [PySem.sizeLine_eq]; omega), _, _, rfl, rfl, _, rfl, ?_⟩⟩
      rw [hl.2.2]
      refine iteF ?_
      have e1 := same_upd2 (o := .dK (mergeK [] (sgK x))) s1 hq
      generalize upd H1 q (.dK (mergeK [] (sgK x))) = G at e1
      refine ⟨_, rfl, x, rfl, fun D2 hD2 => ?_⟩
      refine lc_it walk_str (BlI (fun _ => false) G D2 x.cps.toList) (blI0 hD2) (fun _ _ _ _ => trivial) (fun i v H' H'' hi h y => ?_) (fun H2 h => ?_)
      · obtain ⟨rfl, c, hcc, rfl⟩ := y
        have e45 : c = 45 := hc c (List.mem_of_getElem? (by rw [Array.getElem?_toList]; exact hcc))
        subst e45
        exact ⟨rfl, _, rfl, _, _, rfl, rfl, blI_step hD2 (by rw [Array.getElem?_toList]; exact hcc) h (Same.refl _) (by rw [hno]; rfl) (by omega)⟩
      · obtain ⟨e2, hD3⟩ := blI_end (by simp) h
        refine ⟨D2, _, rfl, SqL.of hD3, ?_⟩
        rw [any_ff]
        exact ⟨_, rfl, k _ (e1.trans e2)⟩
end
end K01

namespace K01
open PySem L2 PyProof.Rows
def inD (c : Nat) : Bool := !(Builtin.Str.occurrences ("-" : Str) (⟨#[c]⟩ : Str) 0 ("-" : Str).length 1).isEmpty
def wAt (w : Str) (i : Nat) : Nat := w.cps.toList.getD i 0
def toD (q : Str × Option Str) : PyData := .tuple [.str q.1, match q.2 with | some v => .str v | none => .none]
def optV : Option Str → V
  | some v => .str v
  | none => .non
def aheadOf (w : Str) : Str := (Txt.partition w "=").1
def jointOf (w : Str) : Str := (Txt.partition w "=").2.1
def behindOf (w : Str) : Str := (Txt.partition w "=").2.2
def valueOf (w : Str) : Option Str := if jointOf w = "" then none else some (behindOf w)
def oneM (ab : Bool) (w flag : Str) : Option (Str × Option Str) := if (!inD (wAt w 1) && decide (flag = cutS w none (some 2))) = true then some (flag, some (cutS w (some 2) none)) else if (ab && Txt.startswith flag (aheadOf w)) = true then some (flag, valueOf w) else none
def meantL (ks : List Str) (ab : Bool) (w : Str) : List (Str × Option Str) :=
  if w.length < 2 ∨ inD (wAt w 0) = false ∨ w = "--" then [] else if w ∈ ks then [(w, none)] else if jointOf w ≠ "" ∧ aheadOf w ∈ ks then [(aheadOf w, some (behindOf w))] else ks.filterMap (oneM ab w)
theorem wAt_some {z : Str} {i : Nat} (h : i < z.cps.toList.length) : atI z.cps.toList (i : Int) = some (wAt z i) := by
  refine atI_nat ?_
  unfold wAt
  rw [List.getD_eq_getElem?_getD, List.getElem?_eq_getElem h]
  rfl
theorem key_isSome {w : Str} : ∀ {kvs : List (Key × V)} {ks : List Str}, kvs.map (·.1) = ks.map Sum.inr → (valV kvs (Sum.inr w : Key)).isSome = decide (w ∈ ks)
  | [], [], _ => rfl
  | [], k :: ks, h => nomatch h
  | p :: kvs, [], h => nomatch h
  | (j, v) :: kvs, k :: ks, h => by
    have h1 : j = Sum.inr k := (List.cons.inj h).1
    have ih := key_isSome (w := w) (List.cons.inj h).2
    rw [valV_cons, h1]
    by_cases e : k = w
    · rw [if_pos (congrArg Sum.inr e), e]
      simp
    · rw [if_neg (ne_inr e), ih]
      have : w ≠ k := fun z => e z.symm
      simp [this]
def spMeantW (CP : Addr) : Sp := fun vs H Q _ => ∃ (p lf dx : Addr) (fs : List (Str × V)) (kvs : List (Key × V)) (ks : List Str) (ab : Bool) (w : Str), vs = [.ref p, .str w] ∧ H p = some (.ins CP dx fs) ∧ fs.lookup ("prefix_chars" : Str) = some (V.str "-") ∧ fs.lookup ("flags" : Str) = some (V.ref lf) ∧ fs.lookup ("allow_abbrev" : Str) = some (V.bl ab) ∧
  H lf = some (.dK kvs) ∧ kvs.map (·.1) = ks.map Sum.inr ∧ w.length ≤ 100 ∧ ks.length ≤ 100 ∧ (∀ k ∈ ks, k.length ≤ 100) ∧ ∀ (L : Addr) (N H' : Hp), Same H H' → Fresh H H' N → Dt N (.ref L) (.list ((meantL ks ab w).map toD)) → Q (.ref L) H'
section
variable {P : Program} {w : World} {K : PySem.W.Frag} {mg : Str → Option Value} {base : Heap}
abbrev nMb : List Str := ["parser", "word", "signs", "ahead", "joint", "behind", "value", "found", "flag"]
theorem scMb : FnScope nMb ["parser", "word"] (defScope sMeantBy) := ⟨rfl, rfl, rfl, by decide +kernel, rfl, by decide +kernel, by decide +kernel⟩
theorem ok_mb {f : Addr} {fd : FuncData} {CP : Addr} (F : Fun K "meant_by" "meant_by" sMeantBy f fd) (T : TxtB mg) (cP : ClsN K CP parF) : FnOk P w K mg base CX0 1 f fd ["parser", "word"] (spMeantW CP) := by
  refine F.ok scMb (fun vs H Q E h => by obtain ⟨p, lf, dx, fs, kvs, ks, ab, w, rfl, _⟩ := h; rfl) (fun cdv A outer s H vs Q E hr h => ?_)
  · obtain ⟨p, lf, dx, fs, kvs, ks, ab, z, rfl, hp, f1, f2, f3, hl, hk, hz, hks, hkz, kQ⟩ := h
    have hu1 := hu_of hr
    refine ⟨_, pss_mid (ps_set (i := 2) scMb.nd rfl (Or.inl rfl) (pe_fld (pv 0) rfl))
      (pss_mid (ps_if (PW.pt (pw_or (pt_cmpR op_lt (pe_callB call_len_str (by rfl) T.len PySem.boot_len (pa_cons (pv 1) pa_nil)) pe_int (nomark _)) (pw_or (pt_cmpR op_notin_str (pe_ix ix_str (pv 1) pe_int (fun _ _ => rfl)) (pv 2) (by rfl)) (pw_or1 (pt_cmpR op_eq (pv 1) pe_str (nomark _)))))) (pss_one (ps_ret (pe_lst pa_nil))) pss_nil)
      (pss_mid (ps_if (pt_cmp (pc_din hu1 (pv 1) (pe_fld (pv 0) rfl))) (pss_one (ps_ret (pe_lst (pa_cons (pe_tup (pa_cons (pv 1) (pa_cons pe_non pa_nil))) pa_nil)))) pss_nil)
      (pss_mid (ps_asg (pe_partition (pv 1) pe_str) (pg_tup rfl (pgs_cons (pg_name (i := 3) scMb.nd rfl (Or.inl rfl)) (pgs_cons (pg_name (i := 4) scMb.nd rfl (Or.inl rfl)) (pgs_cons (pg_name (i := 5) scMb.nd rfl (Or.inl rfl)) pgs_nil)))))
      (pss_mid (ps_if (PW.pt (pw_and (pt_cmpR op_ne (pv 4) pe_str (nomark _)) (pw_and1 (pt_cmp (pc_din hu1 (pv 3) (pe_fld (pv 0) rfl)))))) (pss_one (ps_ret (pe_lst (pa_cons (pe_tup (pa_cons (pv 3) (pa_cons (pv 5) pa_nil))) pa_nil)))) pss_nil)
      (pss_mid (ps_set (i := 6) scMb.nd rfl (Or.inl rfl) (pe_ifExp (pt_cmpR op_ne (pv 4) pe_str (nomark _)) (pv 5) pe_non))
      (pss_mid (ps_set (i := 7) scMb.nd rfl (Or.inl rfl) (pe_lst pa_nil))
      (pss_mid (ps_lock (ps_for PassesOwn.never rfl (pi_keys (pe_fld (pv 0) rfl)) (pg_name (i := 8) scMb.nd rfl (Or.inl rfl))
        (pss_one (ps_if (PW.pt (pw_and (pt_cmpR op_notin_str (pe_ix ix_str (pv 1) pe_int (fun _ _ => rfl)) (pv 2) (by rfl)) (pw_and1 (pt_cmpR op_eq (pv 8) (pe_slice sl_str (pv 1) po_none (po_some pe_int)) (by rfl)))))
          (pss_one (ps_expr (pe_bm PySem.F.plainAttrs_list PySem.F.slot_list_append PySem.F.type_list_append mt_append (pv 7) (pa_cons (pe_tup (pa_cons (pv 8) (pa_cons (pe_slice sl_str (pv 1) (po_some pe_int) po_none) pa_nil))) pa_nil))))
          (pss_one (ps_if (PW.pt (pw_and (pt_val (pe_fld (pv 0) rfl)) (pw_and1 (pt_val (pe_bm PySem.F.plainAttrs_str PySem.F.slot_str_startswith PySem.F.type_str_startswith mt_startswith (pv 8) (pa_cons (pv 3) pa_nil))))))
            (pss_one (ps_expr (pe_bm PySem.F.plainAttrs_list PySem.F.slot_list_append PySem.F.type_list_append mt_append (pv 7) (pa_cons (pe_tup (pa_cons (pv 8) (pa_cons (pv 6) pa_nil))) pa_nil)))) pss_nil))))))
      (pss_one (ps_ret (pv 7)))))))))), ?_⟩
    have n1 : NoAttr K CP "prefix_chars" := cP.no _ (by decide +kernel)
    have n2 : NoAttr K CP "flags" := cP.no _ (by decide +kernel)
    have n3 : NoAttr K CP "allow_abbrev" := cP.no _ (by decide +kernel)
    have hsz : z.length ≤ sizeLine := by rw [PySem.sizeLine_eq]; omega
    refine ⟨fun σ' H' => σ' = [some (.ref p), some (.str z), some (.str "-"), none, none, none, none, none, none] ∧ H = H', ⟨_, rfl, p, CP, dx, fs, _, rfl, hp, cP.cl, n1, f1, rfl, rfl⟩, ?_⟩
    rintro _ _ ⟨rfl, rfl⟩
    have nothing : meantL ks ab z = [] → tRet (tLst tNil) { nx := fun _ H' => Q .non H', rt := Q } [some (.ref p), some (.str z), some (.str "-"), none, none, none, none, none, none] H := fun e =>
      ⟨(by show 0 ≤ sizeLine; decide), fun L hL => kQ L (upd emp L (.lst [])) _ (same_upd hL) (fresh_emp.upd hL upd_same) (by rw [e]; exact .lst upd_same .nil)⟩
    -- too short, no sign, --
    refine ⟨fun σ' H' => σ' = [some (.ref p), some (.str z), some (.str "-"), none, none, none, none, none, none] ∧ H = H' ∧ ¬ (z.length < 2 ∨ inD (wAt z 0) = false ∨ z = "--"), ?_, ?_⟩
    · refine ⟨_, rfl, z, rfl, hsz, _, _, rfl, rfl, _, rfl, ?_⟩
      refine ite2 (fun hc => ?_) (fun hc => ?_)
      · have h2 : z.length < 2 := by have := of_decide_eq_true hc; omega
        exact iteT (nothing (by unfold meantL; rw [if_pos (.inl h2)]))
      have h2 : ¬ z.length < 2 := fun q => hc (decide_eq_true (by omega))
      have hn : 2 ≤ z.cps.toList.length := by
        have : z.cps.toList.length = z.length := by simp [PySem.Str.length]
        omega
      have a0 : atI z.cps.toList 0 = some (wAt z 0) := wAt_some (i := 0) (by omega)
      refine ⟨_, rfl, z, 0, _, rfl, rfl, hsz, a0, _, rfl, _, _, rfl, rfl, _, rfl, ?_⟩
      refine ite2 (fun hc => ?_) (fun hc => ?_)
      · have hd : inD (wAt z 0) = false := by unfold inD; simpa using hc
        exact iteT (nothing (by unfold meantL; rw [if_pos (.inr (.inl hd))]))
      have hd : inD (wAt z 0) = true := by unfold inD; simpa using hc
      refine ⟨_, rfl, rfl, _, rfl, ?_⟩
      refine ite2 (fun hc => ?_) (fun hc => ?_)
      · have he : z = "--" := V.str.inj (of_decide_eq_true hc)
        exact nothing (by unfold meantL; rw [if_pos (.inr (.inr he))])
      refine ⟨rfl, rfl, fun q => ?_⟩
      rcases q with q | q | q
      · exact h2 q
      · rw [hd] at q
        cases q
      · exact hc (decide_eq_true (congrArg V.str q))
    rintro _ _ ⟨rfl, rfl, hnot⟩
    -- word in the flags
    refine ⟨fun σ' H' => σ' = [some (.ref p), some (.str z), some (.str "-"), none, none, none, none, none, none] ∧ H = H' ∧ z ∉ ks, ?_, ?_⟩
    · refine ⟨_, rfl, _, rfl, p, CP, dx, fs, _, rfl, hp, cP.cl, n2, f2, lf, _, rfl, DGet.k (k := Sum.inr z) hl, _, rfl, ?_⟩
      rw [key_isSome hk]
      refine ite2 (fun hc => ?_) (fun hc => ⟨rfl, rfl, fun q => hc (decide_eq_true q)⟩)
      have hm := of_decide_eq_true hc
      refine ⟨_, rfl, (by show 2 ≤ sizeLine; decide), fun U hU => ⟨(by show 1 ≤ sizeLine; decide), fun L hL => ?_⟩⟩
      have nUL : U ≠ L := ne_of_none upd_same hL
      refine kQ L (upd (upd emp U (.tup [.str z, .non])) L (.lst [.ref U])) _ (same_upd2 (same_upd hU) hL) ((fresh_emp.upd hU (same_upd hL _ _ upd_same)).upd (Same.free (same_upd hU) hL) upd_same) ?_
      have e : meantL ks ab z = [(z, none)] := by unfold meantL; rw [if_neg hnot, if_pos hm]
      rw [e]
      exact .lst upd_same (.cons (.tup (by rw [upd_ne nUL]; exact upd_same) (.cons (.str _) (.cons .non .nil))) .nil)
    rintro _ _ ⟨rfl, rfl, hzk⟩
    -- ahead, joint, behind
    refine ⟨fun σ' H' => σ' = [some (.ref p), some (.str z), some (.str "-"), some (.str (aheadOf z)), some (.str (jointOf z)), some (.str (behindOf z)), none, none, none] ∧ Same H H', ?_, ?_⟩
    · exact ⟨_, rfl, ⟨_, rfl⟩, z, _, rfl, rfl, by decide, hsz, fun q hq => ⟨q, _, rfl, SqT.of upd_same, rfl, _, _, rfl, _, _, rfl, _, _, rfl, rfl, rfl, same_upd hq⟩⟩
    rintro _ H1 ⟨rfl, e1⟩
    have hp1 := e1 _ _ hp
    have hl1 := e1 _ _ hl
    refine ⟨fun σ' H' => σ' = [some (.ref p), some (.str z), some (.str "-"), some (.str (aheadOf z)), some (.str (jointOf z)), some (.str (behindOf z)), none, none, none] ∧ H1 = H' ∧ ¬ (jointOf z ≠ "" ∧ aheadOf z ∈ ks), ?_, ?_⟩
    · refine ⟨_, rfl, rfl, _, rfl, ?_⟩
      refine ite2 (fun hc => ?_) (fun hc => iteF ⟨rfl, rfl, fun q => hc (by
        have : V.str (jointOf z) ≠ V.str "" := fun w => q.1 (V.str.inj w)
        rw [decide_eq_false this]
        rfl)⟩)
      have hj : jointOf z ≠ "" := fun q => by rw [q] at hc; exact absurd hc (by decide)
      refine ⟨_, rfl, _, rfl, p, CP, dx, fs, _, rfl, hp1, cP.cl, n2, f2, lf, _, rfl, DGet.k (k := Sum.inr (aheadOf z)) hl1, _, rfl, ?_⟩
      rw [key_isSome hk]
      refine ite2 (fun hc => ?_) (fun hc => ⟨rfl, rfl, fun q => hc (decide_eq_true q.2)⟩)
      have hm := of_decide_eq_true hc
      refine ⟨_, rfl, _, rfl, (by show 2 ≤ sizeLine; decide), fun U hU => ⟨(by show 1 ≤ sizeLine; decide), fun L hL => ?_⟩⟩
      have nUL : U ≠ L := ne_of_none upd_same hL
      have hU0 := Same.free e1 hU
      have hL0 := Same.free (same_upd2 e1 hU) hL
      refine kQ L (upd (upd emp U (.tup [.str (aheadOf z), .str (behindOf z)])) L (.lst [.ref U])) _ (same_upd2 (same_upd2 e1 hU) hL) ((fresh_emp.upd hU0 (same_upd hL _ _ upd_same)).upd hL0 upd_same) ?_
      have e : meantL ks ab z = [(aheadOf z, some (behindOf z))] := by unfold meantL; rw [if_neg hnot, if_neg hzk, if_pos ⟨hj, hm⟩]
      rw [e]
      exact .lst upd_same (.cons (.tup (by rw [upd_ne nUL]; exact upd_same) (.cons (.str _) (.cons (.str _) .nil))) .nil)
    rintro _ _ ⟨rfl, rfl, hja⟩
    have eM : meantL ks ab z = ks.filterMap (oneM ab z) := by unfold meantL; rw [if_neg hnot, if_neg hzk, if_neg hja]
    -- value
    refine ⟨fun σ' H' => σ' = [some (.ref p), some (.str z), some (.str "-"), some (.str (aheadOf z)), some (.str (jointOf z)), some (.str (behindOf z)), some (optV (valueOf z)), none, none] ∧ H1 = H', ?_, ?_⟩
    · refine ⟨_, rfl, rfl, _, rfl, ?_⟩
      refine ite2 (fun hc => ?_) (fun hc => ?_)
      · have hj : jointOf z ≠ "" := fun q => by rw [q] at hc; exact absurd hc (by decide)
        have ev : valueOf z = some (behindOf z) := by unfold valueOf; rw [if_neg hj]
        rw [ev]
        exact ⟨_, rfl, rfl, rfl⟩
      · have hj : jointOf z = "" := Decidable.byContradiction fun q => hc (by
          have : V.str (jointOf z) ≠ V.str "" := fun w => q (V.str.inj w)
          rw [decide_eq_false this]
          rfl)
        have ev : valueOf z = none := by unfold valueOf; rw [if_pos hj]
        rw [ev]
        exact ⟨rfl, rfl⟩
    rintro _ _ ⟨rfl, rfl⟩
    -- found
    refine ⟨fun σ' H' => ∃ L : Addr, σ' = [some (.ref p), some (.str z), some (.str "-"), some (.str (aheadOf z)), some (.str (jointOf z)), some (.str (behindOf z)), some (optV (valueOf z)), some (.ref L), none] ∧ Same H H' ∧ H L = none ∧ H' L = some (.lst []), ?_, ?_⟩
    · exact ⟨(by show 0 ≤ sizeLine; decide), fun L hL => ⟨L, rfl, same_upd2 e1 hL, Same.free e1 hL, upd_same⟩⟩
    rintro _ H2 ⟨L, rfl, e2, nL, hL2⟩
    have hp2 := e2 _ _ hp
    have hl2 := e2 _ _ hl
    have npl : p ≠ lf := ne_of hp hl (by intro z; cases z)
    have nLl : L ≠ lf := (ne_of_none hl nL).symm
    refine ⟨fun σ' H' => ∃ (r : Option V) (N : Hp), σ' = [some (.ref p), some (.str z), some (.str "-"), some (.str (aheadOf z)), some (.str (jointOf z)), some (.str (behindOf z)), some (optV (valueOf z)), some (.ref L), r] ∧ Same H H' ∧ Fresh H H' N ∧ Dt N (.ref L) (.list ((meantL ks ab z).map toD)), ?_, ?_⟩
    · refine ⟨lf, .dK kvs, hl2, trivial, fun od => ?_⟩
      have fz : (upd H2 lf (.frz od (.dK kvs))) lf = some (.frz od (.dK kvs)) := upd_same
      have hLG : (upd H2 lf (.frz od (.dK kvs))) L = some (.lst []) := by rw [upd_ne nLl]; exact hL2
      have sFG : Same (upd H lf (.frz od (.dK kvs))) (upd H2 lf (.frz od (.dK kvs))) := fun b o e => by
        by_cases hb : b = lf
        · subst hb
          rw [upd_same] at e ⊢
          exact e
        · rw [upd_ne hb] at e ⊢
          exact e2 _ _ e
      have Fp : (upd H lf (.frz od (.dK kvs))) p = some (.ins CP dx fs) := by rw [upd_ne npl]; exact hp
      have Ff : (upd H lf (.frz od (.dK kvs))) lf = some (.frz od (.dK kvs)) := upd_same
      have FL : (upd H lf (.frz od (.dK kvs))) L = none := by rw [upd_ne nLl]; exact nL
      have back : ∀ H', Same (upd H lf (.frz od (.dK kvs))) H' → Same H (upd H' lf (.dK kvs)) := fun H' q b o e => by
        by_cases hb : b = lf
        · subst hb
          rw [upd_same, ← e]
          exact hl.symm
        · rw [upd_ne hb]
          exact q _ _ (by rw [upd_ne hb]; exact e)
      generalize upd H2 lf (.frz od (.dK kvs)) = G at fz hLG sFG
      refine ⟨_, rfl, p, CP, dx, fs, _, rfl, sFG _ _ Fp, cP.cl, n2, f2, lf, od, rfl, .inl ⟨_, fz, ?_⟩⟩
      have klen : kvs.length = ks.length := by have := congrArg List.length hk; simpa using this
      refine for_it walk_keys (fun i σ' H' => ∃ (r : Option V) (N : Hp) (vs : List V), σ' = [some (.ref p), some (.str z), some (.str "-"), some (.str (aheadOf z)), some (.str (jointOf z)), some (.str (behindOf z)), some (optV (valueOf z)), some (.ref L), r] ∧ Same (upd H lf (.frz od (.dK kvs))) H' ∧ H' L = some (.lst vs) ∧ N L = none ∧ Same N H' ∧ (∀ b o, N b = some o → H b = none) ∧ DtAll N vs (((ks.take i).filterMap (oneM ab z)).map toD))
        ⟨none, emp, [], rfl, sFG, hLG, rfl, (fun b o e => nomatch e), (fun b o e => nomatch e), .nil⟩ (fun i σ' H' _ ⟨_, _, _, _, q, _⟩ => q _ _ Ff) ?_ ?_
      · rintro i x σ' H' H'' hi ⟨r, N, vs, rfl, sF, hL', nNL, sN, nNew, dt⟩ ⟨rfl, kk, vv, hkv, rfl⟩
        obtain ⟨flag, hfl, rfl⟩ : ∃ flag, ks[i]? = some flag ∧ kk = Sum.inr flag := by
          have e := congrArg (fun l => l[i]?) hk
          simp only [List.getElem?_map, hkv] at e
          cases q : ks[i]? with
          | none =>
            rw [q] at e
            cases e
          | some fl =>
            rw [q] at e
            exact ⟨fl, rfl, Option.some.inj e⟩
        have hlen : vs.length ≤ 100 := by
          rw [dt.len, List.length_map]
          have := List.length_filterMap_le (oneM ab z) (ks.take i)
          rw [List.length_take] at this
          omega
        have push : ∀ (q : Option Str) (U : Addr), oneM ab z flag = some (flag, q) → H'' U = none → ∃ (r : Option V) (N : Hp) (vs' : List V), ([some (.ref p), some (.str z), some (.str "-"), some (.str (aheadOf z)), some (.str (jointOf z)), some (.str (behindOf z)), some (optV (valueOf z)), some (.ref L), some (.str flag)] : L2.St) = [some (.ref p), some (.str z), some (.str "-"), some (.str (aheadOf z)), some (.str (jointOf z)), some (.str (behindOf z)), some (optV (valueOf z)), some (.ref L), r] ∧ Same (upd H lf (.frz od (.dK kvs))) (upd (upd H'' U (.tup [.str flag, optV q])) L (.lst (vs ++ [.ref U]))) ∧ (upd (upd H'' U (.tup [.str flag, optV q])) L (.lst (vs ++ [.ref U]))) L = some (.lst vs') ∧ N L = none ∧ Same N (upd (upd H'' U (.tup [.str flag, optV q])) L (.lst (vs ++ [.ref U]))) ∧ (∀ b o, N b = some o → H b = none) ∧ DtAll N vs' (((ks.take (i + 1)).filterMap (oneM ab z)).map toD) := fun q U ho hU => by
          have nLU : L ≠ U := ne_of_none hL' hU
          have eU := same_upd (o := .tup [.str flag, optV q]) hU
          have nU : N U = none := Same.free sN hU
          have hHU : H U = none := by
            have nul : U ≠ lf := (ne_of_none (sF _ _ Ff) hU).symm
            have := Same.free sF hU
            rw [upd_ne nul] at this
            exact this
          have nNL' : (upd N U (.tup [.str flag, optV q])) L = none := by rw [upd_ne nLU]; exact nNL
          refine ⟨_, upd N U (.tup [.str flag, optV q]), _, rfl, same_mut (sF.trans eU) FL, upd_same, nNL', ?_, fun b o e => ?_, ?_⟩
          · refine same_mut (fun b o e => ?_) nNL'
            by_cases hb : b = U
            · subst hb
              rw [upd_same] at e ⊢
              exact e
            · rw [upd_ne hb] at e ⊢
              exact sN _ _ e
          · by_cases hb : b = U
            · rw [hb]
              exact hHU
            · rw [upd_ne hb] at e
              exact nNew b o e
          · rw [take_more' hfl, List.filterMap_append, List.map_append]
            have e1 : [flag].filterMap (oneM ab z) = [(flag, q)] := by simp [ho]
            rw [e1]
            refine (DtAll.mono (same_upd nU) _ _ dt).snoc ?_
            show Dt _ _ (toD (flag, q))
            unfold toD
            cases q with
            | none => exact .tup upd_same (.cons (.str _) (.cons .non .nil))
            | some v => exact .tup upd_same (.cons (.str _) (.cons (.str _) .nil))
        have hn : 2 ≤ z.cps.toList.length := by
          have h1 : z.cps.toList.length = z.length := by simp [PySem.Str.length]
          have h2 : ¬ z.length < 2 := fun q => hnot (.inl q)
          omega
        have a1 : atI z.cps.toList 1 = some (wAt z 1) := wAt_some (i := 1) (by omega)
        have skip : oneM ab z flag = none → ∃ (r : Option V) (N : Hp) (vs' : List V), ([some (.ref p), some (.str z), some (.str "-"), some (.str (aheadOf z)), some (.str (jointOf z)), some (.str (behindOf z)), some (optV (valueOf z)), some (.ref L), some (.str flag)] : L2.St) = [some (.ref p), some (.str z), some (.str "-"), some (.str (aheadOf z)), some (.str (jointOf z)), some (.str (behindOf z)), some (optV (valueOf z)), some (.ref L), r] ∧ Same (upd H lf (.frz od (.dK kvs))) H'' ∧ H'' L = some (.lst vs') ∧ N L = none ∧ Same N H'' ∧ (∀ b o, N b = some o → H b = none) ∧ DtAll N vs' (((ks.take (i + 1)).filterMap (oneM ab z)).map toD) := fun ho => by
          refine ⟨_, N, vs, rfl, sF, hL', nNL, sN, nNew, ?_⟩
          have e1 : [flag].filterMap (oneM ab z) = [] := by simp [ho]
          rw [take_more' hfl, List.filterMap_append, e1, List.append_nil]
          exact dt
        refine ⟨_, rfl, z, 1, _, rfl, rfl, hsz, a1, _, rfl, _, _, rfl, rfl, _, rfl, ?_⟩
        refine ite2 (fun c1 => ?_) (fun c1 => ?_)
        · have d1 : inD (wAt z 1) = false := by unfold inD; simpa using c1
          refine ⟨_, rfl, _, rfl, _, rfl, z, rfl, hsz, rfl, _, rfl, ?_⟩
          refine ite2 (fun c2 => ?_) (fun c2 => ?_)
          · have ec : flag = cutS z none (some 2) := V.str.inj (of_decide_eq_true c2)
            have ho : oneM ab z flag = some (flag, some (cutS z (some 2) none)) := by unfold oneM; rw [if_pos (by rw [d1, decide_eq_true ec]; rfl)]
            exact ⟨_, rfl, .inl ⟨rfl, _, SqL.of hL'⟩, _, rfl, _, rfl, _, rfl, z, rfl, hsz, (by show 2 ≤ sizeLine; decide), fun U hU => ⟨L, vs, _, rfl, rfl, same_upd hU _ _ hL', (by rw [PySem.sizeLine_eq]; omega), push _ U ho hU⟩⟩
          · have hx : (!inD (wAt z 1) && decide (flag = cutS z none (some 2))) = false := by
              rw [decide_eq_false (fun q => c2 (decide_eq_true (congrArg V.str q))), Bool.and_false]
            refine ⟨_, rfl, p, CP, dx, fs, _, rfl, sF _ _ Fp, cP.cl, n3, f3, ab, rfl, ?_⟩
            refine ite2 (fun hab => ?_) (fun hab => ?_)
            · refine ⟨_, rfl, rfl, _, rfl, flag, aheadOf z, rfl, rfl, _, rfl, ?_⟩
              refine ite2 (fun hs => ?_) (fun hs => ?_)
              · have ho : oneM ab z flag = some (flag, valueOf z) := by unfold oneM; rw [if_neg (by rw [hx]; exact Bool.false_ne_true), if_pos (by rw [hab, hs]; rfl)]
                exact ⟨_, rfl, .inl ⟨rfl, _, SqL.of hL'⟩, _, rfl, _, rfl, (by show 2 ≤ sizeLine; decide), fun U hU => ⟨L, vs, _, rfl, rfl, same_upd hU _ _ hL', (by rw [PySem.sizeLine_eq]; omega), push _ U ho hU⟩⟩
              · have ho : oneM ab z flag = none := by unfold oneM; rw [if_neg (by rw [hx]; exact Bool.false_ne_true), if_neg (by rw [hab, Bool.true_and]; exact hs)]
                exact skip ho
            · have ho : oneM ab z flag = none := by unfold oneM; rw [if_neg (by rw [hx]; exact Bool.false_ne_true), if_neg (by rw [Bool.eq_false_iff.mpr hab, Bool.false_and]; exact Bool.false_ne_true)]
              exact iteF (skip ho)
        · have hx : (!inD (wAt z 1) && decide (flag = cutS z none (some 2))) = false := by
            have d1 : inD (wAt z 1) = true := by unfold inD; simpa using c1
            rw [d1]
            rfl
          refine iteF ?_
          refine ⟨_, rfl, p, CP, dx, fs, _, rfl, sF _ _ Fp, cP.cl, n3, f3, ab, rfl, ?_⟩
          refine ite2 (fun hab => ?_) (fun hab => ?_)
          · refine ⟨_, rfl, rfl, _, rfl, flag, aheadOf z, rfl, rfl, _, rfl, ?_⟩
            refine ite2 (fun hs => ?_) (fun hs => ?_)
            · have ho : oneM ab z flag = some (flag, valueOf z) := by unfold oneM; rw [if_neg (by rw [hx]; exact Bool.false_ne_true), if_pos (by rw [hab, hs]; rfl)]
              exact ⟨_, rfl, .inl ⟨rfl, _, SqL.of hL'⟩, _, rfl, _, rfl, (by show 2 ≤ sizeLine; decide), fun U hU => ⟨L, vs, _, rfl, rfl, same_upd hU _ _ hL', (by rw [PySem.sizeLine_eq]; omega), push _ U ho hU⟩⟩
            · have ho : oneM ab z flag = none := by unfold oneM; rw [if_neg (by rw [hx]; exact Bool.false_ne_true), if_neg (by rw [hab, Bool.true_and]; exact hs)]
              exact skip ho
          · have ho : oneM ab z flag = none := by unfold oneM; rw [if_neg (by rw [hx]; exact Bool.false_ne_true), if_neg (by rw [Bool.eq_false_iff.mpr hab, Bool.false_and]; exact Bool.false_ne_true)]
            exact iteF (skip ho)
      · rintro σ' H' ⟨r, N, vs, rfl, sF, hL', nNL, sN, nNew, dt⟩
        rw [klen, List.take_length] at dt
        refine ⟨sF _ _ Ff, r, upd N L (.lst vs), rfl, back H' sF, ⟨fun b o e => ?_, fun b o e => ?_⟩, ?_⟩
        · by_cases hb : b = L
          · subst hb
            rw [upd_same] at e
            rw [upd_ne nLl, ← e]
            exact hL'
          · rw [upd_ne hb] at e
            have nb : b ≠ lf := fun q => by
              have := nNew b o e
              rw [q, hl] at this
              cases this
            rw [upd_ne nb]
            exact sN _ _ e
        · by_cases hb : b = L
          · rw [hb]
            exact nL
          · rw [upd_ne hb] at e
            exact nNew b o e
        · rw [eM]
          exact .lst upd_same (DtAll.mono (same_upd nNL) _ _ dt)
    rintro _ H3 ⟨r, N, rfl, e3, F3, t3⟩
    exact ⟨_, rfl, kQ L N H3 e3 F3 t3⟩
end
end K01

namespace K01
open PySem L2 PyProof.Rows
theorem erase_perm {α : Type} : ∀ {l : List α} {k : Nat} (h : k < l.length), (l[k] :: l.eraseIdx k).Perm l
  | [], k, h => absurd h (Nat.not_lt_zero _)
  | a :: l, 0, _ => .refl _
  | a :: l, k + 1, h => by
    have h' : k < l.length := by simpa using h
    have ih := erase_perm h'
    show (l[k] :: a :: l.eraseIdx k).Perm (a :: l)
    exact (List.Perm.swap a l[k] _).trans (ih.cons a)
def spMixed : Sp := fun vs H Q _ => ∃ (st cl a : Addr) (n : Nat) (xs : List V), vs = [.ref st, .ref a] ∧ Strm H st cl n ∧ H a = some (.lst xs) ∧ xs.length ≤ 100 ∧ n ≤ 90000 ∧
  ∀ (D : Addr) (ys : List V) (H' : Hp), H D = none → H' D = some (.lst ys) → ys.Perm xs → Strm H' st cl (n + xs.length) → Kp2 st cl H H' → Q (.ref D) H'
section
variable {P : Program} {w : World} {K : PySem.W.Frag} {mg : Str → Option Value} {base : Heap}
abbrev nMx : List Str := ["_law_stream", "_law_some", "_law_left", "_law_k"]
theorem scMx : FnScope nMx ["_law_stream", "_law_some"] (defScope sMixed) := ⟨rfl, rfl, rfl, by decide +kernel, rfl, by decide +kernel, by decide +kernel⟩
theorem ok_mixed {f fD : Addr} {fd fdD : FuncData} (F : Fun K "_law_mixed" "_law_mixed" sMixed f fd) (T : TxtB mg) (Dr : At P w K mg base "_law_draw" 1 ["_law_stream", "_law_many"] spDraw fD fdD) : FnOk P w K mg base CX0 2 f fd ["_law_stream", "_law_some"] spMixed := by
  refine F.ok scMx (fun vs H Q E h => ?_) (fun cdv A outer s H vs Q E hr h => ?_)
  · obtain ⟨st, cl, a, n, xs, rfl, _⟩ := h
    rfl
  · obtain ⟨st, cl, a, n, xs, rfl, S, ha, hx, hn, k⟩ := h
    refine ⟨_, pss_cons (ps_set (i := 2) scMx.nd rfl (Or.inr rfl) (pe_callTy call_list_of (by rfl) T.list (by decide +kernel) (pa_cons (pv 1) pa_nil)))
      (pss_one (ps_ret (pe_lc (own := [("_law_k", 3)]) (g := gName 3) (tt := tYes) (te := tBM K "list" rPopAt (tVar 2) (tCons (tCall spDraw [] E0 (tCons (tVar 0) (tCons (tCB (fun xs H Q => ∃ p ys, xs = [V.ref p] ∧ (SqL K H p ys ∨ SqT K H p ys) ∧ Q (.int ys.length) H) (tCons (tVar 2) tNil)) tNil))) tNil)) rfl scMx.nd (pi_range1 rfl T.range (pa_cons (pe_callB call_len_seq (by rfl) T.len PySem.boot_len (pa_cons (pv 2) pa_nil)) pa_nil)) (blkOk_by (N := nMx) (sc := defScope sMixed) (by decide +kernel)) (fun _ _ _ _ _ => pg_name (i := 3) scMx.nd rfl (Or.inl rfl)) (fun _ _ _ _ _ => pts_nil)
        (fun _ _ _ _ _ => by exact pe_bm PySem.F.plainAttrs_list PySem.F.slot_list_pop PySem.F.type_list_pop mt_popAt (pv 2) (pa_cons (by exact pe_call Dr.ok (by exact hr) rfl Dr.m Dr.k Dr.b .nil pass0 (pa_cons (pv 0) (pa_cons (pe_callB call_len_seq (by rfl) T.len PySem.boot_len (pa_cons (pv 2) pa_nil)) pa_nil))) pa_nil))))), ?_⟩
    have fr : ∀ {b : Addr}, H b = none → b ≠ st ∧ b ≠ cl := fun {b} h => by
      obtain ⟨o, h1⟩ := S.st
      obtain ⟨u, h2⟩ := S.cl
      exact ⟨(ne_of_none h1 h).symm, (ne_of_none h2 h).symm⟩
    refine ⟨_, rfl, a, xs, rfl, .inl (SqL.of ha), fun l hl => ?_⟩
    have e1 := same_upd (o := .lst xs) hl
    have hl1 := upd_same (H := H) (a := l) (o := .lst xs)
    generalize upd H l (.lst xs) = H1 at e1 hl1
    have nl := fr hl
    refine ⟨_, rfl, l, xs, rfl, .inl (SqL.of hl1), (xs.length : Int), rfl, by omega, by omega, fun D hD => ?_⟩
    have hD0 := Same.free e1 hD
    have nD := fr hD0
    have nlD : l ≠ D := ne_of_none hl1 hD
    refine lc_range (lo := 0) (n := ((xs.length : Int)).toNat) (fun i H' => ∃ (left ys : List V), H' l = some (.lst left) ∧ H' D = some (.lst ys) ∧ (ys ++ left).Perm xs ∧ ys.length = i ∧ Strm H' st cl (n + i) ∧ Kp2 st cl H H')
      ⟨xs, [], same_upd hD _ _ hl1, upd_same, .refl _, rfl, S.keep (same_upd2 e1 hD), Kp2.of_same (same_upd2 e1 hD)⟩ (fun i H' hi h => ?_) (fun H' h => ?_)
    · obtain ⟨left, ys, h1, h2, pp, ly, S', kk⟩ := h
      have ll := pp.length_eq
      rw [List.length_append] at ll
      refine ⟨rfl, _, rfl, .inl ⟨rfl, _, SqL.of h1⟩, _, rfl, _, rfl, l, left, rfl, .inl (SqL.of h1), st, cl, n + i, (left.length : Int), rfl, S', by omega, by omega, by omega, fun j H2 j0 j1 S2 k2 => ?_⟩
      have hj : j.toNat < left.length := by omega
      have q1 := k2 _ _ h1 nl.1 nl.2
      have q2 := k2 _ _ h2 nD.1 nD.2
      refine ⟨l, left, j, j.toNat, left[j.toNat], rfl, rfl, q1, by omega, by omega, ?_, List.getElem?_eq_getElem hj, ?_⟩
      · unfold seqIndex?
        simp
        omega
      refine ⟨ys, by rw [upd_ne nlD.symm]; exact q2, sz_lt1 ly (by omega), left.eraseIdx j.toNat, ys ++ [left[j.toNat]], by rw [upd_ne nlD, upd_same], upd_same, ?_, by rw [List.length_append, ly]; rfl, ?_, ?_⟩
      · rw [List.append_assoc]
        exact (List.Perm.append_left ys (erase_perm hj)).trans pp
      · obtain ⟨c, b, ns, g1, g2, g3⟩ := S2.ex
        exact ⟨c, b, ns, by rw [upd_ne nD.1.symm, upd_ne nl.1.symm]; exact g1, by rw [upd_ne nD.2.symm, upd_ne nl.2.symm]; exact g2, g3⟩
      · intro b o e n1 n2
        rw [upd_ne (ne_of_none e hD0), upd_ne (ne_of_none e hl)]
        exact k2 _ _ (kk _ _ e n1 n2) n1 n2
    · obtain ⟨left, ys, h1, h2, pp, ly, S', kk⟩ := h
      have ll := pp.length_eq
      rw [List.length_append] at ll
      have l0 : left = [] := List.length_eq_zero_iff.mp (by omega)
      subst l0
      rw [List.append_nil] at pp
      exact k D ys H' hD0 h2 pp (by have e : n + ((xs.length : Int)).toNat = n + xs.length := by omega
                                    rw [← e]; exact S') kk
end
end K01

namespace K01
open PySem L2 PyProof.Rows
/-! ### a parser anew -/
/-- a parser's fields -/
def pFs (pr cf : Str) (ab : Bool) (aL fi la lf le dd ls : Addr) : List (Str × V) :=
  [("prog", .str pr), ("usage", .non), ("description", .non), ("epilog", .non), ("layout", .ref aL), ("width", .int 78), ("prefix_chars", .str "-"), ("file_signs", .str ""), ("files", .ref fi), ("argument_default", .non), ("conflict_handler", .str cf), ("allow_abbrev", .bl ab), ("exit_on_error", .bl false), ("arguments", .ref la), ("flags", .ref lf), ("exclusives", .ref le), ("defaults", .ref dd), ("commands_argument", .non), ("sections", .ref ls)]
/-- x, an instance in the making: all else that stood is kept -/
structure Bld (CP : Addr) (H H' : Hp) (x dx : Addr) (fs : List (Str × V)) : Prop where
  kp : ∀ b o, H b = some o → b ≠ x → H' b = some o
  at_ : H' x = some (.ins CP dx fs)
theorem Bld.put {K : PySem.W.Frag} {Q : L2.St → Hp → Prop} {σ : L2.St} {CP : Addr} {H H' : Hp} {x dx : Addr} {fs : List (Str × V)} {f : Str} {v : V} {N : List Str} (m : Bld CP H H' x dx fs) (c : ClsN K CP N) (hf : f ∈ N) (hl : fs.length < 1000) (h0 : σ[0]? = some (some (.ref x))) (k : ∀ H2, Bld CP H H2 x dx (putF f v fs) → Q σ H2) :
    gFld K (tVar 0) f v σ H' Q := ⟨_, h0, x, CP, dx, fs, rfl, m.at_, c.cl, c.no _ hf, hl, k _ ⟨fun b o e nb => by rw [upd_ne nb]; exact m.kp b o e nb, upd_same⟩⟩
theorem Bld.keep {CP : Addr} {H H' H2 : Hp} {x dx : Addr} {fs : List (Str × V)} (m : Bld CP H H' x dx fs) (e : Same H' H2) : Bld CP H H2 x dx fs := ⟨fun b o h nb => e _ _ (m.kp b o h nb), e _ _ m.at_⟩
/-- new ones, all apart -/
structure Nw (H H' : Hp) (xs : List Addr) : Prop where
  new : ∀ b ∈ xs, H b = none ∧ ∃ o, H' b = some o
  nd : xs.Nodup
theorem Nw.keep {H H' H2 : Hp} {xs : List Addr} (h : Nw H H' xs) (e : ∀ b o, H' b = some o → ∃ o', H2 b = some o') : Nw H H2 xs := ⟨fun b hb => ⟨(h.new b hb).1, by obtain ⟨o, ho⟩ := (h.new b hb).2; exact e b o ho⟩, h.nd⟩
theorem Nw.same {H H' H2 : Hp} {xs : List Addr} (h : Nw H H' xs) (e : Same H' H2) : Nw H H2 xs := h.keep fun b o q => ⟨o, e _ _ q⟩
theorem Nw.add {H H' : Hp} {xs : List Addr} {p : Addr} {o : HO} (h : Nw H H' xs) (hp : H' p = none) (h0 : H p = none) : Nw H (upd H' p o) (p :: xs) := by
  refine ⟨fun b hb => ?_, List.nodup_cons.mpr ⟨fun q => ?_, h.nd⟩⟩
  · rcases List.mem_cons.mp hb with rfl | hb
    · exact ⟨h0, o, upd_same⟩
    · obtain ⟨o', ho⟩ := (h.new b hb).2
      exact ⟨(h.new b hb).1, o', same_upd hp _ _ ho⟩
  · obtain ⟨o', ho⟩ := (h.new p q).2
    rw [hp] at ho
    cases ho
theorem Nw.grow {H H1 H2 : Hp} {xs : List Addr} {p : Addr} (h : Nw H H1 xs) (e : ∀ b o, H1 b = some o → ∃ o', H2 b = some o') (h0 : H p = none) (h1 : H1 p = none) (h2 : ∃ o, H2 p = some o) : Nw H H2 (p :: xs) := by
  refine ⟨fun b hb => ?_, List.nodup_cons.mpr ⟨fun q => ?_, h.nd⟩⟩
  · rcases List.mem_cons.mp hb with rfl | hb
    · exact ⟨h0, h2⟩
    · exact (h.keep e).new b hb
  · obtain ⟨o', ho⟩ := (h.new p q).2
    rw [h1] at ho
    cases ho
theorem Bld.free {CP : Addr} {H H' : Hp} {x dx p : Addr} {fs : List (Str × V)} (m : Bld CP H H' x dx fs) (h : H' p = none) : H p = none := by
  cases e : H p with
  | none => rfl
  | some o =>
    by_cases nb : p = x
    · rw [nb, m.at_] at h
      cases h
    · rw [m.kp p o e nb] at h
      cases h
structure ParNew (CP CS : Addr) (H H' : Hp) (x dx : Addr) (pr cf : Str) (ab : Bool) (aL la lf le dd ls s0 s1 m0 m1 : Addr) : Prop where
  kp : ∀ b o, H b = some o → b ≠ x → H' b = some o
  px : ∃ fi, H' x = some (.ins CP dx (pFs pr cf ab aL fi la lf le dd ls))
  h_la : H' la = some (.lst [])
  h_lf : H' lf = some (.dK [])
  h_le : H' le = some (.lst [])
  h_dd : H' dd = some (.dK [])
  h_ls : H' ls = some (.lst [.ref s0, .ref s1])
  h_s0 : ∃ d v2, H' s0 = some (.ins CS d (sFs (.ref x) v2 .non m0))
  h_s1 : ∃ d v2, H' s1 = some (.ins CS d (sFs (.ref x) v2 .non m1))
  h_m0 : H' m0 = some (.lst [])
  h_m1 : H' m1 = some (.lst [])
  nw : Nw H H' [ls, m1, s1, m0, s0, dd, le, lf, la]
def spParI (CP CS aP aL : Addr) : Sp := fun vs H Q _ => ∃ (x dx : Addr) (pr cf : Str) (ab : Bool), vs = [.ref x, .str pr, .non, .non, .non, .ref aP, .ref aL, .int 78, .str "-", .str "", .non, .non, .str cf, .bl false, .bl ab, .bl false] ∧ H x = some (.ins CP dx []) ∧ (cf = "error" ∨ cf = "resolve") ∧
  ∀ (la lf le dd ls s0 s1 m0 m1 : Addr) (H' : Hp), ParNew CP CS H H' x dx pr cf ab aL la lf le dd ls s0 s1 m0 m1 → Q .non H'
section
variable {P : Program} {w : World} {K : PySem.W.Frag} {mg : Str → Option Value} {base : Heap}
abbrev pParI : List Str := ["self", "prog", "usage", "description", "epilog", "parents", "layout", "width", "prefix_chars", "fromfile_prefix_chars", "files", "argument_default", "conflict_handler", "add_help", "allow_abbrev", "exit_on_error"]
abbrev nParI : List Str := pParI ++ (["sign", "options", "parent", "word"] : List Str)
theorem scParI : FnScope nParI pParI (defScope sParI) := ⟨rfl, rfl, rfl, by decide +kernel, rfl, by decide +kernel, by decide +kernel⟩
theorem ok_parI {dvs : List V} {kws : List (Str × V)} {f fR fI fG fCp fS CP CS aP aL : Addr} {fd fdR fdI fdG fdCp fdS : FuncData} (F : FunD K "__init__" "Parser.__init__" (defArgs sParI) (defBody sParI) (defScope sParI) dvs kws f fd) (T : TxtB mg) (zStr : mg "str" = none) (cP : ClsN K CP parF)
    (hP : ∀ H, SqT K H aP []) (hL : ∀ H, SqT K H aL []) (tL : ∀ H, TyX K H (.ref aL) (.type "tuple"))
    (R : At P w K mg base "is_row" 1 ["thing"] (spIsRow K) fR fdR) (I : At P w K mg base "is_integer" 1 ["thing"] (spIsInt K) fI fdI) (G : At P w K mg base "is_signs" 1 ["thing"] spSigns fG fdG) (Cp : At P w K mg base "copied" 3 ["value"] (spCop 2) fCp fdCp)
    (mS : mg "Section" = some (.ref CS)) (MS : Mk K CS fS) (GS : FnOk P w K mg base CX0 1 fS fdS ["self", "home", "title", "description"] (spSecI CS)) (bS : Binds K fdS ["self", "home", "title", "description"] []) :
    FnOk P w K mg base CX0 4 f fd pParI (spParI CP CS aP aL) := by
  refine F.ok scParI (fun vs H Q E h => ?_) (fun cdv A0 outer s H vs Q E hr h => ?_)
  · obtain ⟨x, dx, pr, cf, ab, rfl, _⟩ := h
    rfl
  · obtain ⟨x, dx, pr, cf, ab, rfl, hx, hcf, k⟩ := h
    have r1 : Room 1 (A0.deeper (PyProof.Rows.envOfC "Parser.__init__" (defScope sParI) s.heap.objs.size f cdv)) := hr.mono (by decide)
    have r2 : Room 2 (A0.deeper (PyProof.Rows.envOfC "Parser.__init__" (defScope sParI) s.heap.objs.size f cdv)) := hr.mono (by decide)
    refine ⟨_, PSs.nox (pss_cons (ps_if (PW.pt (pw_or (pt_not (pt_val (pe_call R.ok r1 rfl R.m R.k R.b .nil pass0 (pa_cons (pv 6) pa_nil)))) (pw_or1 (pt_not (pt_val (pe_callB (cr_all rfl) (by rfl) T.all (by decide +kernel) (pa_cons (pe_lc (own := [("word", 19)]) (g := gName 19) (tt := tYes) (te := fun _ _ _ => False) rfl scParI.nd (pi_tup (pv 6)) (blkOk_by (N := nParI) (sc := defScope sParI) (by decide +kernel)) (fun _ _ _ _ _ => pg_name (i := 19) scParI.nd rfl (Or.inl rfl)) (fun _ _ _ _ _ => pts_nil)
        (fun _ _ _ _ _ => by exact pe_never)) pa_nil))))))) pss_never pss_nil)
      (pss_cons (ps_if (PW.pt (pw_or (pt_not (pt_val (pe_call I.ok r1 rfl I.m I.k I.b .nil pass0 (pa_cons (pv 7) pa_nil)))) (pw_or1 (pt_cmpR op_lt (pv 7) pe_int (nomark _))))) pss_never pss_nil)
      (pss_cons (ps_if (PW.pt (pw_or (pt_not (pt_val (pe_call G.ok r1 rfl G.m G.k G.b .nil pass0 (pa_cons (pv 8) pa_nil)))) (pw_or1 (pt_cmpR op_eq (pv 8) pe_str (nomark _))))) pss_never pss_nil)
      (pss_cons (ps_if (pt_not (pt_val (pe_call G.ok r1 rfl G.m G.k G.b .nil pass0 (pa_cons (pv 9) pa_nil)))) pss_never pss_nil)
      (pss_cons (ps_if (PW.pt (pw_or (pt_not (pt_val (pe_callB call_isi (by rfl) T.isinstance (by decide +kernel) (pa_cons (pv 12) (pa_cons (pe_bltn (v := .ty "str") (by rfl) zStr (by decide +kernel) rfl) pa_nil))))) (pw_or1 (pt_cmpR op_notIn_seq (pv 12) (pe_tup (pa_cons pe_str (pa_cons pe_str pa_nil))) (by rfl))))) pss_never pss_nil)
      (pss_mid (ps_asg (pe_tup (pa_cons (pv 1) (pa_cons (pv 2) (pa_cons (pv 3) (pa_cons (pv 4) pa_nil))))) (pg_tup rfl (pgs_cons (pg_fld (pv 0)) (pgs_cons (pg_fld (pv 0)) (pgs_cons (pg_fld (pv 0)) (pgs_cons (pg_fld (pv 0)) pgs_nil))))))
      (pss_mid (ps_asg (pe_tup (pa_cons (pe_callTy call_tuple_of (by rfl) T.tuple (by decide +kernel) (pa_cons (pv 6) pa_nil)) (pa_cons (pv 7) (pa_cons (pv 8) pa_nil)))) (pg_tup rfl (pgs_cons (pg_fld (pv 0)) (pgs_cons (pg_fld (pv 0)) (pgs_cons (pg_fld (pv 0)) pgs_nil)))))
      (pss_mid (ps_asg (pe_tup (pa_cons (pv 9) (pa_cons (pe_ifExp (pt_cmp (pc_isN (pv 10))) pe_dnewK pe_never) pa_nil))) (pg_tup rfl (pgs_cons (pg_fld (pv 0)) (pgs_cons (pg_fld (pv 0)) pgs_nil))))
      (pss_mid (ps_asg (pe_tup (pa_cons (pe_call Cp.ok hr rfl Cp.m Cp.k Cp.b .nil pass0 (pa_cons (pv 11) pa_nil)) (pa_cons (pv 12) pa_nil))) (pg_tup rfl (pgs_cons (pg_fld (pv 0)) (pgs_cons (pg_fld (pv 0)) pgs_nil))))
      (pss_mid (ps_asg (pe_tup (pa_cons (pv 14) (pa_cons (pv 15) pa_nil))) (pg_tup rfl (pgs_cons (pg_fld (pv 0)) (pgs_cons (pg_fld (pv 0)) pgs_nil))))
      (pss_mid (ps_asg (pe_tup (pa_cons (pe_lst pa_nil) (pa_cons pe_dnewK (pa_cons (pe_lst pa_nil) (pa_cons pe_dnewK pa_nil))))) (pg_tup rfl (pgs_cons (pg_fld (pv 0)) (pgs_cons (pg_fld (pv 0)) (pgs_cons (pg_fld (pv 0)) (pgs_cons (pg_fld (pv 0)) pgs_nil))))))
      (pss_mid (ps_fld (pv 0) pe_non rfl)
      (pss_mid (ps_fld (pv 0) (pe_lst (pa_cons (pe_make MS GS r2 rfl mS bS .nil pass0 (pa_cons (pv 0) (pa_cons pe_str (pa_cons pe_non pa_nil)))) (pa_cons (pe_make MS GS r2 rfl mS bS .nil pass0 (pa_cons (pv 0) (pa_cons pe_str (pa_cons pe_non pa_nil)))) pa_nil))) rfl)
      (pss_cons (ps_if (pt_val (pv 13)) pss_never pss_nil)
      (pss_one (ps_for PassesOwn.never rfl (pi_tup (pv 5)) (pg_name (i := 18) scParI.nd rfl (Or.inl rfl)) pss_never)))))))))))))))), ?_⟩
    -- layout
    refine ⟨_, rfl, .ref aL, "tuple", true, rfl, tL H, by decide +kernel, fun H1 e1 => ⟨_, rfl, iteF ?_⟩⟩
    refine ⟨_, rfl, aL, rfl, ⟨[], hL _⟩, fun D hD => ?_⟩
    refine lc_tup (K := K) (a := aL) (xs := []) (g := gName 19) (tt := tYes) (te := fun _ _ _ => False) (vs := [19]) (fun _ H' => Same H1 H' ∧ H' D = some (.lst [])) ⟨same_upd hD, upd_same⟩ (fun i H' _ _ => hL _) (fun i x H' hx h => by simp at hx) (fun H2 h => ?_)
    obtain ⟨e2, hl⟩ := h
    refine ⟨D, [], rfl, SqL.of hl, ⟨_, rfl, iteF ?_⟩⟩
    have e12 := e1.trans e2
    -- width
    refine ⟨_, rfl, .int 78, "int", true, false, rfl, .base (.int 78), by decide +kernel, by decide +kernel, ⟨_, rfl, iteF ?_⟩⟩
    refine ⟨_, rfl, _, _, rfl, rfl, _, rfl, iteF ?_⟩
    -- signs
    refine ⟨_, rfl, "-", rfl, .inl rfl, fun H3 e3 => ⟨_, rfl, iteF ?_⟩⟩
    refine ⟨_, rfl, rfl, false, by decide +kernel, iteF ?_⟩
    refine ⟨_, rfl, "", rfl, .inr rfl, fun H4 e4 => ⟨_, rfl, iteF ?_⟩⟩
    -- handler
    refine ⟨_, rfl, _, .ty "str", _, _, true, rfl, .ty _, .base (.str cf), kit_ty (by decide +kernel), _, rfl, iteF ?_⟩
    refine ⟨_, rfl, (by show 2 ≤ sizeLine; decide), fun p hp => ⟨p, _, rfl, .inr (SqT.of upd_same), rfl, by decide +kernel, false, ?_, iteF ?_⟩⟩
    · rcases hcf with rfl | rfl <;> rfl
    have e5 := (e12.trans (e3.trans e4)).trans (same_upd (o := .tup [.str "error", .str "resolve"]) hp)
    generalize upd H4 p (.tup [.str "error", .str "resolve"]) = H5 at e5
    have B5 : Bld CP H H5 x dx [] := ⟨fun b o e _ => e5 _ _ e, e5 _ _ hx⟩
    generalize hσ : (start nParI [.ref x, .str pr, .non, .non, .non, .ref aP, .ref aL, .int 78, .str "-", .str "", .non, .non, .str cf, .bl false, .bl ab, .bl false] : L2.St) = σ5
    have s0 : σ5[0]? = some (some (.ref x)) := by rw [← hσ]; rfl
    have s1 : σ5[1]? = some (some (.str pr)) := by rw [← hσ]; rfl
    have s2 : σ5[2]? = some (some (.non)) := by rw [← hσ]; rfl
    have s3 : σ5[3]? = some (some (.non)) := by rw [← hσ]; rfl
    have s4 : σ5[4]? = some (some (.non)) := by rw [← hσ]; rfl
    have s5 : σ5[5]? = some (some (.ref aP)) := by rw [← hσ]; rfl
    have s6 : σ5[6]? = some (some (.ref aL)) := by rw [← hσ]; rfl
    have s7 : σ5[7]? = some (some (.int 78)) := by rw [← hσ]; rfl
    have s8 : σ5[8]? = some (some (.str "-")) := by rw [← hσ]; rfl
    have s9 : σ5[9]? = some (some (.str "")) := by rw [← hσ]; rfl
    have s10 : σ5[10]? = some (some (.non)) := by rw [← hσ]; rfl
    have s11 : σ5[11]? = some (some (.non)) := by rw [← hσ]; rfl
    have s12 : σ5[12]? = some (some (.str cf)) := by rw [← hσ]; rfl
    have s13 : σ5[13]? = some (some (.bl false)) := by rw [← hσ]; rfl
    have s14 : σ5[14]? = some (some (.bl ab)) := by rw [← hσ]; rfl
    have s15 : σ5[15]? = some (some (.bl false)) := by rw [← hσ]; rfl
    -- prog ..
    refine ⟨fun σ' H' => σ5 = σ' ∧ Bld CP H H' x dx ([("prog", .str pr), ("usage", .non), ("description", .non), ("epilog", .non)]), ?_, ?_⟩
    · refine ⟨_, s1, _, s2, _, s3, _, s4, (by show 4 ≤ sizeLine; decide), fun W hW => ?_⟩
      have M := B5.keep (same_upd (o := .tup [.str pr, .non, .non, .non]) hW)
      exact ⟨W, _, rfl, SqT.of upd_same, rfl, _, _, rfl, M.put cP (by decide +kernel) (by show 0 < 1000; decide) s0 fun H' M1 => ⟨_, _, rfl, M1.put cP (by decide +kernel) (by show 1 < 1000; decide) s0 fun H' M2 => ⟨_, _, rfl, M2.put cP (by decide +kernel) (by show 2 < 1000; decide) s0 fun H' M3 => ⟨_, _, rfl, M3.put cP (by decide +kernel) (by show 3 < 1000; decide) s0 fun H' M4 => ⟨rfl, rfl, M4⟩⟩⟩⟩⟩
    rintro _ H6 ⟨rfl, B6⟩
    -- layout ..
    refine ⟨fun σ' H' => σ5 = σ' ∧ Bld CP H H' x dx ([("prog", .str pr), ("usage", .non), ("description", .non), ("epilog", .non), ("layout", .ref aL), ("width", .int 78), ("prefix_chars", .str "-")]), ?_, ?_⟩
    · refine ⟨_, s6, aL, _, rfl, .inr ⟨hL _, _, s7, _, s8, (by show 3 ≤ sizeLine; decide), fun W hW => ?_⟩⟩
      have M := B6.keep (same_upd (o := .tup [.ref aL, .int 78, .str "-"]) hW)
      exact ⟨W, _, rfl, SqT.of upd_same, rfl, _, _, rfl, M.put cP (by decide +kernel) (by show 4 < 1000; decide) s0 fun H' M5 => ⟨_, _, rfl, M5.put cP (by decide +kernel) (by show 5 < 1000; decide) s0 fun H' M6 => ⟨_, _, rfl, M6.put cP (by decide +kernel) (by show 6 < 1000; decide) s0 fun H' M7 => ⟨rfl, rfl, M7⟩⟩⟩⟩
    rintro _ H7 ⟨rfl, B7⟩
    -- files
    refine ⟨fun σ' H' => σ5 = σ' ∧ ∃ fi, Bld CP H H' x dx ([("prog", .str pr), ("usage", .non), ("description", .non), ("epilog", .non), ("layout", .ref aL), ("width", .int 78), ("prefix_chars", .str "-"), ("file_signs", .str ""), ("files", .ref fi)]), ?_, ?_⟩
    · refine ⟨_, s9, _, s10, true, rfl, iteT fun fi hfi => ⟨(by show 2 ≤ sizeLine; decide), fun W hW => ?_⟩⟩
      have M := (B7.keep (same_upd (o := .dK []) hfi)).keep (same_upd (o := .tup [.str "", .ref fi]) hW)
      exact ⟨W, _, rfl, SqT.of upd_same, rfl, _, _, rfl, M.put cP (by decide +kernel) (by show 7 < 1000; decide) s0 fun H' M8 => ⟨_, _, rfl, M8.put cP (by decide +kernel) (by show 8 < 1000; decide) s0 fun H' M9 => ⟨rfl, rfl, fi, M9⟩⟩⟩
    rintro _ H8 ⟨rfl, fi, B8⟩
    -- argument_default
    refine ⟨fun σ' H' => σ5 = σ' ∧ Bld CP H H' x dx ([("prog", .str pr), ("usage", .non), ("description", .non), ("epilog", .non), ("layout", .ref aL), ("width", .int 78), ("prefix_chars", .str "-"), ("file_signs", .str ""), ("files", .ref fi), ("argument_default", .non), ("conflict_handler", .str cf)]), ?_, ?_⟩
    · refine ⟨_, s11, .non, .none, rfl, .non, Nat.zero_le _, rfl, fun v' N H' e F t => ?_⟩
      cases dt_non t
      refine ⟨_, s12, (by show 2 ≤ sizeLine; decide), fun W hW => ?_⟩
      have M := (B8.keep e).keep (same_upd (o := .tup [.non, .str cf]) hW)
      exact ⟨W, _, rfl, SqT.of upd_same, rfl, _, _, rfl, M.put cP (by decide +kernel) (by show 9 < 1000; decide) s0 fun H' M10 => ⟨_, _, rfl, M10.put cP (by decide +kernel) (by show 10 < 1000; decide) s0 fun H' M11 => ⟨rfl, rfl, M11⟩⟩⟩
    rintro _ H9 ⟨rfl, B9⟩
    -- allow_abbrev
    refine ⟨fun σ' H' => σ5 = σ' ∧ Bld CP H H' x dx ([("prog", .str pr), ("usage", .non), ("description", .non), ("epilog", .non), ("layout", .ref aL), ("width", .int 78), ("prefix_chars", .str "-"), ("file_signs", .str ""), ("files", .ref fi), ("argument_default", .non), ("conflict_handler", .str cf), ("allow_abbrev", .bl ab), ("exit_on_error", .bl false)]), ?_, ?_⟩
    · refine ⟨_, s14, _, s15, (by show 2 ≤ sizeLine; decide), fun W hW => ?_⟩
      have M := B9.keep (same_upd (o := .tup [.bl ab, .bl false]) hW)
      exact ⟨W, _, rfl, SqT.of upd_same, rfl, _, _, rfl, M.put cP (by decide +kernel) (by show 11 < 1000; decide) s0 fun H' M12 => ⟨_, _, rfl, M12.put cP (by decide +kernel) (by show 12 < 1000; decide) s0 fun H' M13 => ⟨rfl, rfl, M13⟩⟩⟩
    rintro _ H10 ⟨rfl, B10⟩
    -- the lists
    refine ⟨fun σ' H' => σ5 = σ' ∧ ∃ G la lf le dd, Bld CP H G x dx ([("prog", .str pr), ("usage", .non), ("description", .non), ("epilog", .non), ("layout", .ref aL), ("width", .int 78), ("prefix_chars", .str "-"), ("file_signs", .str ""), ("files", .ref fi), ("argument_default", .non), ("conflict_handler", .str cf), ("allow_abbrev", .bl ab), ("exit_on_error", .bl false)]) ∧ Bld CP G H' x dx ([("prog", .str pr), ("usage", .non), ("description", .non), ("epilog", .non), ("layout", .ref aL), ("width", .int 78), ("prefix_chars", .str "-"), ("file_signs", .str ""), ("files", .ref fi), ("argument_default", .non), ("conflict_handler", .str cf), ("allow_abbrev", .bl ab), ("exit_on_error", .bl false), ("arguments", .ref la), ("flags", .ref lf), ("exclusives", .ref le), ("defaults", .ref dd)]) ∧ G la = some (.lst []) ∧ G lf = some (.dK []) ∧ G le = some (.lst []) ∧ G dd = some (.dK []) ∧ Nw H G [dd, le, lf, la], ?_, ?_⟩
    · refine ⟨(by show 0 ≤ sizeLine; decide), fun la hla lf hlf => ⟨(by show 0 ≤ sizeLine; decide), fun le hle dd hdd => ⟨(by show 4 ≤ sizeLine; decide), fun W hW => ?_⟩⟩⟩
      have N0 : Nw H H10 [] := ⟨(fun b hb => nomatch hb), List.nodup_nil⟩
      have M1 := B10.keep (same_upd (o := .lst []) hla)
      have N1 := N0.add (o := .lst []) hla (B10.free hla)
      have t1 : upd H10 la (.lst []) la = _ := upd_same
      generalize upd H10 la (.lst []) = G1 at *
      have M2 := M1.keep (same_upd (o := .dK []) hlf)
      have N2 := N1.add (o := .dK []) hlf (M1.free hlf)
      have t2 := same_upd (o := .dK []) hlf _ _ t1
      have t3 : upd G1 lf (.dK []) lf = _ := upd_same
      generalize upd G1 lf (.dK []) = G2 at *
      have M3 := M2.keep (same_upd (o := .lst []) hle)
      have N3 := N2.add (o := .lst []) hle (M2.free hle)
      have e3 := same_upd (o := .lst []) hle
      have t4 : upd G2 le (.lst []) le = _ := upd_same
      generalize upd G2 le (.lst []) = G3 at *
      have M4 := M3.keep (same_upd (o := .dK []) hdd)
      have N4 := N3.add (o := .dK []) hdd (M3.free hdd)
      have e4 := same_upd (o := .dK []) hdd
      have t5 : upd G3 dd (.dK []) dd = _ := upd_same
      generalize upd G3 dd (.dK []) = G4 at *
      have e5 := same_upd (o := .tup [.ref la, .ref lf, .ref le, .ref dd]) hW
      have eG := (e3.trans e4).trans e5
      have M5 := M4.keep e5
      refine ⟨W, _, rfl, SqT.of upd_same, rfl, _, _, rfl, ?_⟩
      have N5 := N4.same e5
      have M : Bld CP _ _ x dx _ := ⟨fun b o e _ => e, M5.at_⟩
      exact M.put cP (by decide +kernel) (by show 13 < 1000; decide) s0 fun H' M14 => ⟨_, _, rfl, M14.put cP (by decide +kernel) (by show 14 < 1000; decide) s0 fun H' M15 => ⟨_, _, rfl, M15.put cP (by decide +kernel) (by show 15 < 1000; decide) s0 fun H' M16 => ⟨_, _, rfl, M16.put cP (by decide +kernel) (by show 16 < 1000; decide) s0 fun H' M17 => ⟨rfl, rfl, _, la, lf, le, dd, M5, M17, eG _ _ t2, eG _ _ t3, (e4.trans e5) _ _ t4, e5 _ _ t5, N5⟩⟩⟩⟩
    rintro _ H11 ⟨rfl, G, la, lf, le, dd, BG, B11, g1, g2, g3, g4, N⟩
    -- commands_argument
    refine ⟨fun σ' H' => σ5 = σ' ∧ Bld CP G H' x dx ([("prog", .str pr), ("usage", .non), ("description", .non), ("epilog", .non), ("layout", .ref aL), ("width", .int 78), ("prefix_chars", .str "-"), ("file_signs", .str ""), ("files", .ref fi), ("argument_default", .non), ("conflict_handler", .str cf), ("allow_abbrev", .bl ab), ("exit_on_error", .bl false), ("arguments", .ref la), ("flags", .ref lf), ("exclusives", .ref le), ("defaults", .ref dd), ("commands_argument", .non)]), ?_, ?_⟩
    · exact B11.put cP (by decide +kernel) (by show 17 < 1000; decide) s0 fun H' M => ⟨rfl, M⟩
    rintro _ H12 ⟨rfl, B12⟩
    have N12 : Nw H H12 [dd, le, lf, la] := N.keep fun b o e => by
      by_cases nb : b = x
      · exact ⟨_, by rw [nb]; exact B12.at_⟩
      · exact ⟨_, B12.kp b o e nb⟩
    have fr : ∀ {p}, H12 p = none → H p = none := fun e => BG.free (B12.free e)
    -- sections
    refine ⟨fun σ' H' => σ5 = σ' ∧ ∃ ls s0 s1 m0 m1, ParNew CP CS H H' x dx pr cf ab aL la lf le dd ls s0 s1 m0 m1, ?_, ?_⟩
    · refine ⟨_, s0, fun a0 d0 ha0 hd0 ne0 => ⟨a0, d0, _, _, _, rfl, upd_same, fun m0 K1 kp1 nm0 hm0 hs0 => ⟨rfl, ?_⟩⟩⟩
      have q1 : Same H12 (upd (upd H12 d0 (.own a0)) a0 (.ins CS d0 [])) := same_upd2 (same_upd hd0) (by rw [upd_ne ne0.symm]; exact ha0)
      have N13 := N12.grow (p := a0) (fun b o e => ⟨o, q1 _ _ e⟩) (fr ha0) ha0 ⟨_, upd_same⟩
      have N14 := N13.grow (p := m0) (H2 := K1) (fun b o e => by
        by_cases nb : b = a0
        · exact ⟨_, by rw [nb]; exact hs0⟩
        · exact ⟨_, kp1 b o e nb⟩) (fr (Same.free q1 nm0)) nm0 ⟨_, hm0⟩
      have q2 : Same H12 K1 := fun b o e => kp1 _ _ (q1 _ _ e) (ne_of_none e ha0)
      have fr2 : ∀ {p}, K1 p = none → H p = none := fun e => fr (Same.free q2 e)
      clear kp1 q1 N13
      refine ⟨_, s0, fun a1 d1 ha1 hd1 ne1 => ⟨a1, d1, _, _, _, rfl, upd_same, fun m1 K2 kp2 nm1 hm1 hs1 => ⟨rfl, ?_⟩⟩⟩
      have q3 : Same K1 (upd (upd K1 d1 (.own a1)) a1 (.ins CS d1 [])) := same_upd2 (same_upd hd1) (by rw [upd_ne ne1.symm]; exact ha1)
      have N15 := N14.grow (p := a1) (fun b o e => ⟨o, q3 _ _ e⟩) (fr2 ha1) ha1 ⟨_, upd_same⟩
      have N16 := N15.grow (p := m1) (H2 := K2) (fun b o e => by
        by_cases nb : b = a1
        · exact ⟨_, by rw [nb]; exact hs1⟩
        · exact ⟨_, kp2 b o e nb⟩) (fr2 (Same.free q3 nm1)) nm1 ⟨_, hm1⟩
      have q4 : Same K1 K2 := fun b o e => kp2 _ _ (q3 _ _ e) (ne_of_none e ha1)
      clear kp2 q3 N15
      refine ⟨(by show 2 ≤ sizeLine; decide), fun ls hls => ?_⟩
      have N17 := N16.add (o := .lst [.ref a0, .ref a1]) hls (fr2 (Same.free q4 hls))
      have q5 := same_upd (o := .lst [.ref a0, .ref a1]) hls
      have tl : upd K2 ls (.lst [.ref a0, .ref a1]) ls = _ := upd_same
      generalize upd K2 ls (.lst [.ref a0, .ref a1]) = K3 at *
      have q6 := q4.trans q5
      have q7 := q2.trans q6
      have M := B12.keep q7
      have M0 : Bld CP K3 K3 x dx _ := ⟨fun b o e _ => e, M.at_⟩
      have nx : ∀ {b}, b ∈ [ls, m1, a1, m0, a0, dd, le, lf, la] → b ≠ x := fun hb z => by
        have := (N17.new _ hb).1
        rw [z, hx] at this
        cases this
      refine M0.put cP (by decide +kernel) (by show 18 < 1000; decide) s0 fun K4 M4 => ⟨rfl, ls, a0, a1, m0, m1, ?_⟩
      have gg : ∀ {b o}, b ∈ [ls, m1, a1, m0, a0, dd, le, lf, la] → G b = some o → K4 b = some o := fun hb e => M4.kp _ _ (q7 _ _ (B12.kp _ _ e (nx hb))) (nx hb)
      exact ⟨fun b o e nb => M4.kp _ _ (q7 _ _ (B12.kp _ _ (BG.kp _ _ e nb) nb)) nb, ⟨fi, M4.at_⟩, gg (by simp) g1, gg (by simp) g2, gg (by simp) g3, gg (by simp) g4, M4.kp _ _ tl (nx (by simp)), ⟨d0, _, M4.kp _ _ (q6 _ _ hs0) (nx (by simp))⟩, ⟨d1, _, M4.kp _ _ (q5 _ _ hs1) (nx (by simp))⟩, M4.kp _ _ (q6 _ _ hm0) (nx (by simp)), M4.kp _ _ (q5 _ _ hm1) (nx (by simp)), N17.keep fun b o e => by
        by_cases nb : b = x
        · exact ⟨_, by rw [nb]; exact M4.at_⟩
        · exact ⟨_, M4.kp b o e nb⟩⟩
    rintro _ H13 ⟨rfl, ls, sa, sb, m0, m1, PN⟩
    refine ⟨_, s13, _, rfl, iteF ⟨_, s5, aP, rfl, ⟨[], hP _⟩, ?_⟩⟩
    exact for_tup (K := K) (a := aP) (xs := []) (g := gName 18) (tb := fun _ _ _ => False) (D := { nx := fun _ H' => Q .non H', rt := Q }) (fun _ _ H' => H' = H13) rfl (fun _ _ _ _ _ => hP _) (fun i y _ _ hy _ => by simp at hy) (fun _ H' e => by subst e; exact k la lf le dd ls sa sb m0 m1 _ PN)
end
end K01

namespace K01
open PySem L2 PyProof.Rows
/-! ### the law's record of a parser -/
def mK (ab : V) (fi lo lp : Addr) : List (Key × V) := [(Sum.inr "prefix", .str "-"), (Sum.inr "abbrev", ab), (Sum.inr "signs", .str ""), (Sum.inr "files", .ref fi), (Sum.inr "options", .ref lo), (Sum.inr "positionals", .ref lp), (Sum.inr "commands", .non)]
theorem mK_merge (ab : V) (fi lo lp : Addr) : mergeK [] (mK ab fi lo lp) = mK ab fi lo lp := rfl
theorem mK_get (ab : V) (fi lo lp : Addr) : valV (mK ab fi lo lp) (Sum.inr "prefix" : Key) = some (.str "-") ∧ valV (mK ab fi lo lp) (Sum.inr "abbrev" : Key) = some ab ∧ valV (mK ab fi lo lp) (Sum.inr "options" : Key) = some (.ref lo) ∧ valV (mK ab fi lo lp) (Sum.inr "positionals" : Key) = some (.ref lp) := ⟨rfl, rfl, rfl, rfl⟩
theorem mK_put (ab v : V) (fi lo lp l2 : Addr) : putK (mK ab fi lo lp) (Sum.inr "abbrev" : Key) v = mK v fi lo lp ∧ putK (mK ab fi lo lp) (Sum.inr "options" : Key) (.ref l2) = mK ab fi l2 lp := ⟨rfl, rfl⟩
def spModel : Sp := fun vs H Q _ => ∃ lo lp : Addr, vs = [.ref lo, .ref lp] ∧ ∀ (m fi : Addr) (H' : Hp), Same H H' → H m = none → H' m = some (.dK (mK (.bl true) fi lo lp)) → Q (.ref m) H'
/-- an option as the law keeps it: its flags, then the rest -/
def OTup (H : Hp) (v : V) (fl : List Str) : Prop := ∃ t ft rest, v = .ref t ∧ H t = some (.tup (.ref ft :: rest)) ∧ H ft = some (.tup (fl.map V.str))
structure OTups (H : Hp) (vs : List V) (qs : List (List Str)) : Prop where
  len : vs.length = qs.length
  at_ : ∀ (i : Nat) (fl : List Str), qs[i]? = some fl → ∃ v, vs[i]? = some v ∧ OTup H v fl
theorem OTups.keep {H H' : Hp} {vs : List V} {qs : List (List Str)} (h : OTups H vs qs) (e : Same H H') : OTups H' vs qs := ⟨h.len, fun i fl q => by
  obtain ⟨v, hv, t, ft, rest, e1, e2, e3⟩ := h.at_ i fl q
  exact ⟨v, hv, t, ft, rest, e1, e _ _ e2, e _ _ e3⟩⟩
/-- pairs of a flag and what it is of -/
structure PairsAt (S : List V) (H : Hp) (xs : List V) (fs : List Str) : Prop where
  len : xs.length = fs.length
  at_ : ∀ (i : Nat) (f : Str), fs[i]? = some f → ∃ t v, xs[i]? = some (V.ref t) ∧ H t = some (.tup [.str f, v]) ∧ v ∈ S
theorem PairsAt.keep {S : List V} {H H' : Hp} {xs : List V} {fs : List Str} (h : PairsAt S H xs fs) (e : Same H H') : PairsAt S H' xs fs := ⟨h.len, fun i f q => by
  obtain ⟨t, v, e1, e2, e3⟩ := h.at_ i f q
  exact ⟨t, v, e1, e _ _ e2, e3⟩⟩
theorem PairsAt.nil {S : List V} {H : Hp} : PairsAt S H [] [] := ⟨rfl, fun i f q => by simp at q⟩
theorem PairsAt.app {S : List V} {H : Hp} {xs ys : List V} {fs gs : List Str} (h : PairsAt S H xs fs) (k : PairsAt S H ys gs) : PairsAt S H (xs ++ ys) (fs ++ gs) := by
  refine ⟨by rw [List.length_append, List.length_append, h.len, k.len], fun i f q => ?_⟩
  by_cases hi : i < fs.length
  · rw [List.getElem?_append_left hi] at q
    rw [List.getElem?_append_left (by rw [h.len]; exact hi)]
    exact h.at_ i f q
  · have hi' := Nat.le_of_not_lt hi
    rw [List.getElem?_append_right hi'] at q
    rw [List.getElem?_append_right (by rw [h.len]; exact hi'), h.len]
    exact k.at_ _ f q
theorem PairsAt.one {S : List V} {H : Hp} {t : Addr} {f : Str} {v : V} (h : H t = some (.tup [.str f, v])) (hv : v ∈ S) : PairsAt S H [.ref t] [f] := ⟨rfl, fun i g q => by
  cases i with
  | zero =>
    cases Option.some.inj (show some f = some g from q)
    exact ⟨t, v, rfl, h, hv⟩
  | succ i => simp at q⟩
def spRFlags : Sp := fun vs H Q _ => ∃ (m fi lo lp : Addr) (ab : V) (os : List V) (qs : List (List Str)), vs = [.ref m] ∧ H m = some (.dK (mK ab fi lo lp)) ∧ H lo = some (.lst os) ∧ OTups H os qs ∧ qs.flatten.length ≤ 100 ∧
  ∀ (L : Addr) (xs : List V) (H' : Hp), Same H H' → H' L = some (.lst xs) → PairsAt os H' xs qs.flatten → Q (.ref L) H'
theorem take_flatten_le {α : Type} (qs : List (List α)) (i : Nat) : (qs.take i).flatten.length ≤ qs.flatten.length := by
  have h : qs.flatten = (qs.take i).flatten ++ (qs.drop i).flatten := by rw [← List.flatten_append, List.take_append_drop]
  rw [h, List.length_append]
  omega
section
variable {P : Program} {w : World} {K : PySem.W.Frag} {mg : Str → Option Value} {base : Heap}
theorem scModel : FnScope ["_law_options", "_law_positionals"] ["_law_options", "_law_positionals"] (defScope sModel) := ⟨rfl, rfl, rfl, by decide +kernel, rfl, by decide +kernel, by decide +kernel⟩
theorem ok_model {f : Addr} {fd : FuncData} (F : Fun K "_law_r_model" "_law_r_model" sModel f fd) : FnOk P w K mg base CX0 1 f fd ["_law_options", "_law_positionals"] spModel := by
  refine F.ok scModel (fun vs H Q E h => ?_) (fun cdv A0 outer s H vs Q E hr h => ?_)
  · obtain ⟨lo, lp, rfl, _⟩ := h
    rfl
  · obtain ⟨lo, lp, rfl, k⟩ := h
    refine ⟨_, pss_one (ps_ret (pe_disp (pps_cons pe_str pe_str (pps_cons pe_str pe_bl (pps_cons pe_str pe_str (pps_cons pe_str pe_dnewK (pps_cons pe_str (pv 0) (pps_cons pe_str (pv 1) (pps_cons pe_str pe_non pps_nil))))))) (by rfl) (by rfl) (fun z => by cases z) (by decide))), ?_⟩
    intro p hp fi hfi
    have e1 := same_upd (o := .dK []) hp
    have e2 := same_upd (o := .dK []) hfi
    have hp2 : upd (upd H p (.dK [])) fi (.dK []) p = some (.dK []) := e2 _ _ upd_same
    refine ⟨_, rfl, _, rfl, hp2, mK (.bl true) fi lo lp, rfl, (by show 7 ≤ 15; decide), ?_⟩
    rw [mK_merge]
    exact k p fi _ (same_mut (e1.trans e2) hp) hp upd_same
abbrev nRF : List Str := ["_law_m", "_law_found", "_law_option", "_law_flag"]
theorem scRF : FnScope nRF ["_law_m"] (defScope sRFlags) := ⟨rfl, rfl, rfl, by decide +kernel, rfl, by decide +kernel, by decide +kernel⟩
theorem ok_rflags {f : Addr} {fd : FuncData} (F : Fun K "_law_r_flags" "_law_r_flags" sRFlags f fd) : FnOk P w K mg base CX0 1 f fd ["_law_m"] spRFlags := by
  refine F.ok scRF (fun vs H Q E h => ?_) (fun cdv A0 outer s H vs Q E hr h => ?_)
  · obtain ⟨m, fi, lo, lp, ab, os, qs, rfl, _⟩ := h
    rfl
  · obtain ⟨m, fi, lo, lp, ab, os, qs, rfl, hm, hlo, hq, hsz, k⟩ := h
    have hu1 := hu_of hr
    refine ⟨_, pss_cons (ps_set (i := 1) scRF.nd rfl (Or.inl rfl) (pe_lst pa_nil))
      (pss_mid (ps_for PassesOwn.never rfl (pi_list (pe_dget hu1 (pv 0) pe_str (fun _ _ => rfl))) (pg_name (i := 2) scRF.nd rfl (Or.inr rfl))
        (pss_one (ps_set (i := 1) scRF.nd rfl (Or.inl rfl) (pe_op op_cat (pv 1) (pe_lc (own := [("_law_flag", 3)]) (g := gName 3) (tt := tYes) (te := tTup (tCons (tVar 3) (tCons (tVar 2) tNil))) rfl scRF.nd (pi_tup (pe_ix ix_tup (pv 2) pe_int (fun _ _ => rfl))) (blkOk_by (N := nRF) (sc := defScope sRFlags) (by decide +kernel)) (fun _ _ _ _ _ => pg_name (i := 3) scRF.nd rfl (Or.inl rfl)) (fun _ _ _ _ _ => pts_nil) (fun _ _ _ _ _ => by exact pe_tup (pa_cons (pv 3) (pa_cons (pv 2) pa_nil))))))))
      (pss_one (ps_ret (pv 1)))), ?_⟩
    refine ⟨(by show 0 ≤ sizeLine; decide), fun L0 hL0 => ?_⟩
    have e0 := same_upd (o := .lst []) hL0
    have t0 : upd H L0 (.lst []) L0 = _ := upd_same
    generalize upd H L0 (.lst []) = H0 at e0 t0
    refine ⟨fun σ' H' => ∃ (L : Addr) (r r3 : Option V) (xs : List V), σ' = [some (.ref m), some (.ref L), r, r3] ∧ Same H H' ∧ H' L = some (.lst xs) ∧ PairsAt os H' xs qs.flatten, ?_, ?_⟩
    · refine ⟨_, rfl, m, _, rfl, DGet.k (k := (Sum.inr "options" : Key)) (e0 _ _ hm), lo, rfl, ⟨_, SqL.of (e0 _ _ hlo)⟩, ?_⟩
      refine for_list (K := K) (a := lo) (xs := os) (fun i σ' H' => ∃ (L : Addr) (r r3 : Option V) (xs : List V), σ' = [some (.ref m), some (.ref L), r, r3] ∧ Same H H' ∧ H' L = some (.lst xs) ∧ PairsAt os H' xs (qs.take i).flatten) ⟨L0, none, none, [], rfl, e0, t0, .nil⟩ ?_ ?_ ?_
      · rintro i σ' H' _ ⟨L, r, r3, xs, _, e, _⟩
        exact SqL.of (e _ _ hlo)
      · rintro i x σ' H' hx ⟨L, r, r3, xs, rfl, e, hL, hP⟩
        have hi : i < qs.length := by
          rw [← hq.len]
          exact (List.getElem?_eq_some_iff.mp hx).1
        obtain ⟨v, hv, t, ft, rest, rfl, ht, hft⟩ := hq.at_ i _ (List.getElem?_eq_getElem hi)
        cases Option.some.inj (hv.symm.trans hx)
        generalize hfl : qs[i] = fl at hft
        have hqi : qs[i]? = some fl := by rw [List.getElem?_eq_getElem hi, hfl]
        have etk : (qs.take (i + 1)).flatten = (qs.take i).flatten ++ fl := by
          rw [take_more' hqi, List.flatten_append]
          simp
        have l1 := take_flatten_le qs (i + 1)
        rw [etk, List.length_append] at l1
        refine ⟨_, rfl, _, rfl, t, _, _, _, rfl, rfl, SqT.of (e _ _ ht), atI_nat (j := 0) rfl, ft, rfl, ⟨_, SqT.of (e _ _ hft)⟩, fun D hD => ?_⟩
        refine lc_tup (K := K) (a := ft) (xs := fl.map V.str) (fun j H2 => Same H' H2 ∧ ∃ acc, H2 D = some (.lst acc) ∧ PairsAt os H2 acc (fl.take j)) ⟨same_upd hD, [], upd_same, .nil⟩ (fun j H2 _ h => SqT.of (h.1 _ _ (e _ _ hft))) (fun j y H2 hy h => ?_) (fun H2 h => ?_)
        · obtain ⟨z, hz, rfl⟩ := str_at hy
          obtain ⟨s2, acc, hDa, pp⟩ := h
          have hj : j < fl.length := (List.getElem?_eq_some_iff.mp hz).1
          refine ⟨rfl, _, rfl, _, rfl, (by show 2 ≤ sizeLine; decide), fun U hU => ?_⟩
          have eU := same_upd (o := .tup [.str z, .ref t]) hU
          have nDU : D ≠ U := ne_of_none hDa hU
          have la : acc.length ≤ 100 := by
            rw [pp.len, List.length_take]
            omega
          refine ⟨acc, eU _ _ hDa, (by rw [PySem.sizeLine_eq]; omega), same_mut (s2.trans eU) hD, _, upd_same, ?_⟩
          rw [take_more' hz]
          have q1 : PairsAt os (upd (upd H2 U (.tup [.str z, .ref t])) D (.lst (acc ++ [.ref U]))) acc (fl.take j) := ⟨pp.len, fun i f q => by
            obtain ⟨t', v', e1', e2', e3'⟩ := pp.at_ i f q
            refine ⟨t', v', e1', ?_, e3'⟩
            rw [upd_ne (ne_of e2' hDa (by intro z; cases z))]
            exact eU _ _ e2'⟩
          exact q1.app (.one (v := .ref t) (by rw [upd_ne nDU.symm]; exact upd_same) (List.mem_of_getElem? hx))
        · obtain ⟨s2, acc, hDa, pp⟩ := h
          rw [List.length_map, List.take_length] at pp
          refine ⟨L, D, xs, acc, rfl, rfl, s2 _ _ hL, hDa, ?_, fun p hp => ?_⟩
          · rw [hP.len, pp.len, PySem.sizeLine_eq]
            omega
          have ep := same_upd (o := .lst (xs ++ acc)) hp
          refine ⟨p, some (.ref t), _, _, rfl, e.trans (s2.trans ep), upd_same, ?_⟩
          rw [etk]
          exact ((hP.keep s2).app pp).keep ep
      · rintro σ' H' ⟨L, r, r3, xs, rfl, e, hL, hP⟩
        rw [hq.len, List.take_length] at hP
        exact ⟨L, r, r3, xs, rfl, e, hL, hP⟩
    rintro _ H1 ⟨L, r, r3, xs, rfl, e, hL, hP⟩
    exact ⟨_, rfl, k L xs H1 e hL hP⟩
end
end K01

namespace K01
open PySem L2 PyProof PyProof.Rows
open PySem.Builtin.Str
/-! ### find and partition, slices and startswith -/
theorem str_ext {a b : Str} (h : a.cps = b.cps) : a = b := by
  cases a; cases b
  exact congrArg _ h
theorem cut_pre (z : Str) (i : Nat) : cutS z none (some (i : Int)) = ⟨(z.cps.toList.take i).toArray⟩ := by
  unfold cutS
  rw [HT.sIx_none, HT.sIx_nat, List.drop_zero, Nat.sub_zero]
  congr 2
  by_cases h : i ≤ z.length
  · rw [Nat.min_eq_left h]
  · rw [Nat.min_eq_right (by omega)]
    have hl : z.cps.toList.length = z.length := by simp [PySem.Str.length]
    rw [List.take_of_length_le (by omega), List.take_of_length_le (by omega)]
theorem cut_suf (z : Str) (i : Nat) : cutS z (some (i : Int)) none = ⟨(z.cps.toList.drop i).toArray⟩ := by
  unfold cutS
  rw [HT.sIx_none, HT.sIx_nat]
  congr 2
  have hl : z.cps.toList.length = z.length := by simp [PySem.Str.length]
  by_cases h : i ≤ z.length
  · rw [Nat.min_eq_left h, List.take_of_length_le]
    rw [List.length_drop]
    omega
  · rw [Nat.min_eq_right (by omega), Nat.sub_self, List.take_zero, List.drop_eq_nil_of_le (by omega)]
theorem sub_pre (z : Str) (i : Nat) : strSub z 0 i = ⟨(z.cps.toList.take i).toArray⟩ := by
  apply str_ext
  show z.cps.extract 0 i = _
  apply Array.ext'
  simp
theorem sub_suf (z : Str) (i : Nat) : strSub z i z.length = ⟨(z.cps.toList.drop i).toArray⟩ := by
  apply str_ext
  show z.cps.extract i z.length = _
  apply Array.ext'
  have hl : z.cps.toList.length = z.length := by simp [PySem.Str.length]
  rw [Array.toList_extract]
  show (z.cps.toList.drop i).take (z.length - i) = _
  rw [List.take_of_length_le (by rw [List.length_drop]; omega)]
theorem find_ahead (w : Str) : (Txt.find w "=" = -1 ∧ aheadOf w = w ∧ jointOf w = "") ∨ ∃ i : Nat, Txt.find w "=" = (i : Int) ∧ i < w.length ∧ aheadOf w = cutS w none (some (i : Int)) ∧ jointOf w = "=" ∧ behindOf w = cutS w (some ((i : Int) + 1)) none := by
  rcases find_whole w "=" with ⟨h1, h2⟩ | ⟨i, h1, h2, h3⟩ <;> rcases partition_whole w "=" with ⟨g1, g2⟩ | ⟨j, g1, g2, g3⟩
  · left
    unfold aheadOf jointOf
    rw [g1]
    exact ⟨h1, rfl, rfl⟩
  · exact absurd g2 (h2 j)
  · exact absurd h2 (g2 i)
  · have e : i = j := by
      rcases Nat.lt_trichotomy i j with h | h | h
      · exact absurd h2 (g3 i h)
      · exact h
      · exact absurd g2 (h3 j h)
    subst e
    right
    have hl : i < w.length := by
      have := h2.1
      have h1 : ("=" : Str).length = 1 := by decide
      omega
    refine ⟨i, h1, hl, ?_, ?_, ?_⟩
    · unfold aheadOf
      rw [g1, cut_pre, ← sub_pre]
    · unfold jointOf
      rw [g1]
    · unfold behindOf
      rw [g1]
      show strSub w (i + ("=" : Str).length) w.length = _
      have h1 : ("=" : Str).length = 1 := by decide
      rw [h1, sub_suf, ← cut_suf]
      rfl
theorem startswith_cut (f a : Str) : Txt.startswith f a = decide (cutS f none (some (a.length : Int)) = a) := by
  rw [cut_pre]
  unfold Txt.startswith subAt
  rw [Nat.zero_add]
  have hl : f.cps.toList.length = f.length := by simp [PySem.Str.length]
  have ha : a.cps.toList.length = a.length := by simp [PySem.Str.length]
  have e1 : f.cps.extract 0 a.length = (f.cps.toList.take a.length).toArray := by
    apply Array.ext'
    simp
  rw [e1]
  by_cases h : (⟨(f.cps.toList.take a.length).toArray⟩ : Str) = a
  · have hc : (f.cps.toList.take a.length).toArray = a.cps := congrArg Str.cps h
    have hle : a.length ≤ f.length := by
      have := congrArg (fun x : Array Nat => x.toList.length) hc
      simp only [List.length_take] at this
      omega
    rw [decide_eq_true h, hc, decide_eq_true hle]
    simp
  · rw [decide_eq_false h]
    have hc : ¬ (f.cps.toList.take a.length).toArray = a.cps := fun q => h (str_ext q)
    have : ((f.cps.toList.take a.length).toArray == a.cps) = false := by simpa using hc
    rw [this, Bool.and_false]
end K01

namespace K01
open PySem L2 PyProof.Rows
/-! ### the law's own look at what can be meant -/
structure MList (H : Hp) (xs : List V) (l : List (Str × Option Str)) : Prop where
  len : xs.length = l.length
  at_ : ∀ (i : Nat) (q : Str × Option Str), l[i]? = some q → ∃ t, xs[i]? = some (V.ref t) ∧ H t = some (.tup [.str q.1, optV q.2])
theorem MList.nil {H : Hp} : MList H [] [] := ⟨rfl, fun i f q => by simp at q⟩
theorem MList.keep {H H' : Hp} {xs : List V} {l : List (Str × Option Str)} (h : MList H xs l) (e : Same H H') : MList H' xs l := ⟨h.len, fun i f q => by
  obtain ⟨t, e1, e2⟩ := h.at_ i f q
  exact ⟨t, e1, e _ _ e2⟩⟩
theorem MList.snoc {H : Hp} {xs : List V} {l : List (Str × Option Str)} {q : Str × Option Str} {L U : Addr} (h : MList H xs l) (hL : H L = some (.lst xs)) (hU : H U = none) : MList (upd (upd H U (.tup [.str q.1, optV q.2])) L (.lst (xs ++ [.ref U]))) (xs ++ [.ref U]) (l ++ [q]) := by
  have nLU : L ≠ U := ne_of_none hL hU
  refine ⟨by rw [List.length_append, List.length_append, h.len]; rfl, fun i f e => ?_⟩
  by_cases hi : i < l.length
  · rw [List.getElem?_append_left hi] at e
    obtain ⟨t, e1, e2⟩ := h.at_ i f e
    refine ⟨t, by rw [List.getElem?_append_left (by rw [h.len]; exact hi)]; exact e1, ?_⟩
    rw [upd_ne (ne_of e2 hL (by intro z; cases z))]
    exact same_upd hU _ _ e2
  · have hi' := Nat.le_of_not_lt hi
    rw [List.getElem?_append_right hi'] at e
    cases ej : i - l.length with
    | zero =>
      rw [ej] at e
      cases Option.some.inj (show some q = some f from e)
      refine ⟨U, by rw [List.getElem?_append_right (by rw [h.len]; exact hi'), h.len, ej]; rfl, ?_⟩
      rw [upd_ne nLU.symm, upd_same]
    | succ j =>
      rw [ej] at e
      simp at e
theorem dt_opt {H : Hp} (q : Str × Option Str) {t : Addr} (h : H t = some (.tup [.str q.1, optV q.2])) : Dt H (.ref t) (toD q) := by
  unfold toD
  obtain ⟨f, o⟩ := q
  cases o with
  | none => exact .tup h (.cons (.str _) (.cons .non .nil))
  | some v => exact .tup h (.cons (.str _) (.cons (.str _) .nil))
theorem MList.dts {H : Hp} : ∀ {xs : List V} {l : List (Str × Option Str)}, MList H xs l → DtAll H xs (l.map toD)
  | [], [], _ => .nil
  | [], _ :: _, h => nomatch h.len
  | _ :: _, [], h => nomatch h.len
  | x :: xs, q :: l, h => by
    obtain ⟨t, e1, e2⟩ := h.at_ 0 q rfl
    cases Option.some.inj (show some x = some (V.ref t) from e1)
    refine .cons (dt_opt q e2) (MList.dts ⟨Nat.succ.inj h.len, fun i f e => ?_⟩)
    obtain ⟨t', e1', e2'⟩ := h.at_ (i + 1) f e
    exact ⟨t', e1', e2'⟩
theorem MList.dt {H : Hp} {L : Addr} {xs : List V} {l : List (Str × Option Str)} (h : MList H xs l) (hL : H L = some (.lst xs)) : Dt H (.ref L) (.list (l.map toD)) := .lst hL h.dts
theorem ahead_len (w : Str) : (aheadOf w).length ≤ w.length := by
  rcases find_ahead w with ⟨_, h, _⟩ | ⟨i, _, _, h, _⟩
  · rw [h]
    exact Nat.le_refl _
  · rw [h, cut_pre]
    show (w.cps.toList.take i).toArray.size ≤ w.cps.size
    simp
    omega
theorem inV_strs (z : Str) : ∀ ks : List Str, inV (.str z) (ks.map V.str) = decide (z ∈ ks)
  | [] => rfl
  | k :: ks => by
    have ih := inV_strs z ks
    unfold inV at ih ⊢
    rw [List.map_cons, List.any_cons, ih]
    show (k == z || _) = _
    by_cases e : k = z
    · subst e
      simp
    · have e' : ¬ z = k := fun q => e q.symm
      simp [e, e']
def spRMeant : Sp := fun vs H Q _ => ∃ (m fi lo lp : Addr) (ab : Bool) (os : List V) (qs : List (List Str)) (w : Str), vs = [.ref m, .str w] ∧ H m = some (.dK (mK (.bl ab) fi lo lp)) ∧ H lo = some (.lst os) ∧ OTups H os qs ∧ qs.flatten.length ≤ 100 ∧ w.length ≤ 100 ∧ (∀ k ∈ qs.flatten, k.length ≤ 100) ∧
  ∀ (L : Addr) (H' : Hp), Same H H' → Dt H' (.ref L) (.list ((meantL qs.flatten ab w).map toD)) → Q (.ref L) H'
section
variable {P : Program} {w : World} {K : PySem.W.Frag} {mg : Str → Option Value} {base : Heap}
abbrev nRM : List Str := ["_law_m", "_law_word", "_law_flag", "_law_signs", "_law_flags", "_law_cut", "_law_ahead", "_law_value", "_law_found", "_law_option"]
theorem scRM : FnScope nRM ["_law_m", "_law_word"] (defScope sRMeant) := ⟨rfl, rfl, rfl, by decide +kernel, rfl, by decide +kernel, by decide +kernel⟩
theorem ok_rmeant {f fF : Addr} {fd fdF : FuncData} (F : Fun K "_law_r_meant" "_law_r_meant" sRMeant f fd) (T : TxtB mg) (G : At P w K mg base "_law_r_flags" 1 ["_law_m"] spRFlags fF fdF) : FnOk P w K mg base CX0 2 f fd ["_law_m", "_law_word"] spRMeant := by
  refine F.ok scRM (fun vs H Q E h => ?_) (fun cdv A0 outer s H vs Q E hr h => ?_)
  · obtain ⟨m, fi, lo, lp, ab, os, qs, w, rfl, _⟩ := h
    rfl
  · obtain ⟨m, fi, lo, lp, ab, os, qs, z, rfl, hm, hlo, hq, hsz, hw, hkz, kQ⟩ := h
    have hu1 := hu_of hr
    refine ⟨_, pss_mid (ps_par (i := 3) (j := 4) (by rfl) scRM.nd rfl rfl (by decide) rfl rfl (pa_cons (pe_dget hu1 (pv 0) pe_str (fun _ _ => rfl)) (pa_cons (pe_lc (own := [("_law_flag", 2), ("_law_option", 9)]) (g := gTup K 2 (gCons (gName 2) (gCons (gName 9) gNil))) (tt := tYes) (te := tVar 2) rfl scRM.nd (pi_list (pe_call G.ok hr rfl G.m G.k G.b .nil pass0 (pa_cons (pv 0) pa_nil))) (blkOk_by (N := nRM) (sc := defScope sRMeant) (by decide +kernel)) (fun _ _ _ _ _ => pg_tup rfl (pgs_cons (pg_name (i := 2) scRM.nd rfl (Or.inl rfl)) (pgs_cons (pg_name (i := 9) scRM.nd rfl (Or.inl rfl)) pgs_nil))) (fun _ _ _ _ _ => pts_nil) (fun _ _ _ _ _ => by exact pv 2)) pa_nil)) (by rfl))
      (pss_mid (ps_if (PW.pt (pw_or (pt_cmpR op_lt (pe_callB call_len_str (by rfl) T.len PySem.boot_len (pa_cons (pv 1) pa_nil)) pe_int (nomark _)) (pw_or (pt_cmpR op_notin_str (pe_ix ix_str (pv 1) pe_int (fun _ _ => rfl)) (pv 3) (by rfl)) (pw_or1 (pt_cmpR op_eq (pv 1) pe_str (nomark _)))))) (pss_one (ps_ret (pe_lst pa_nil))) pss_nil)
      (pss_cons (ps_set (i := 5) scRM.nd rfl (Or.inl rfl) (pe_bm PySem.F.plainAttrs_str PySem.F.slot_str_find PySem.F.type_str_find mt_find (pv 1) (pa_cons pe_str pa_nil)))
      (pss_mid (ps_asg (pe_ifExp (pt_cmpR op_lt (pv 5) pe_int (nomark _)) (pe_tup (pa_cons (pv 1) (pa_cons pe_non pa_nil))) (pe_tup (pa_cons (pe_slice sl_str (pv 1) po_none (po_some (pv 5))) (pa_cons (pe_slice sl_str (pv 1) (po_some (pe_op op_add (pv 5) pe_int)) po_none) pa_nil)))) (pg_tup rfl (pgs_cons (pg_name (i := 6) scRM.nd rfl (Or.inl rfl)) (pgs_cons (pg_name (i := 7) scRM.nd rfl (Or.inl rfl)) pgs_nil))))
      (pss_mid (ps_if (PW.pt (pw_or (pt_cmpR op_in_seq (pv 1) (pv 4) (by rfl)) (pw_or1 (pt_cmpR op_in_seq (pv 6) (pv 4) (by rfl))))) (pss_one (ps_ret (pe_ifExp (pt_cmpR op_in_seq (pv 1) (pv 4) (by rfl)) (pe_lst (pa_cons (pe_tup (pa_cons (pv 1) (pa_cons pe_non pa_nil))) pa_nil)) (pe_lst (pa_cons (pe_tup (pa_cons (pv 6) (pa_cons (pv 7) pa_nil))) pa_nil))))) pss_nil)
      (pss_mid (ps_set (i := 8) scRM.nd rfl (Or.inl rfl) (pe_lst pa_nil))
      (pss_mid (ps_for PassesOwn.never rfl (pi_list (pv 4)) (pg_name (i := 2) scRM.nd rfl (Or.inl rfl))
        (pss_one (ps_if (PW.pt (pw_and (pt_cmpR op_notin_str (pe_ix ix_str (pv 1) pe_int (fun _ _ => rfl)) (pv 3) (by rfl)) (pw_and1 (pt_cmpR op_eq (pv 2) (pe_slice sl_str (pv 1) po_none (po_some pe_int)) (by rfl)))))
          (pss_one (ps_expr (pe_bm PySem.F.plainAttrs_list PySem.F.slot_list_append PySem.F.type_list_append mt_append (pv 8) (pa_cons (pe_tup (pa_cons (pv 2) (pa_cons (pe_slice sl_str (pv 1) (po_some pe_int) po_none) pa_nil))) pa_nil))))
          (pss_one (ps_if (PW.pt (pw_and (pt_val (pe_dget hu1 (pv 0) pe_str (fun _ _ => rfl))) (pw_and1 (pt_cmpR op_eq (pe_slice sl_str (pv 2) po_none (po_some (pe_callB call_len_str (by rfl) T.len PySem.boot_len (pa_cons (pv 6) pa_nil)))) (pv 6) (nomark _)))))
            (pss_one (ps_expr (pe_bm PySem.F.plainAttrs_list PySem.F.slot_list_append PySem.F.type_list_append mt_append (pv 8) (pa_cons (pe_tup (pa_cons (pv 2) (pa_cons (pv 7) pa_nil))) pa_nil)))) pss_nil)))))
      (pss_one (ps_ret (pv 8))))))))), ?_⟩
    have hsl : z.length ≤ sizeLine := by rw [PySem.sizeLine_eq]; omega
    generalize hks : qs.flatten = ks at *
    obtain ⟨v1, v2, v3, v4⟩ := mK_get (.bl ab) fi lo lp
    have gm := fun (H' : Hp) (k : Key) (e : Same H H') => DGet.k (k := k) (e _ _ hm)
    -- signs, flags
    refine ⟨fun σ' H' => ∃ F : Addr, σ' = [some (.ref m), some (.str z), none, some (.str "-"), some (.ref F), none, none, none, none, none] ∧ Same H H' ∧ H' F = some (.lst (ks.map V.str)), ?_, ?_⟩
    · refine ⟨_, rfl, m, _, rfl, gm H (Sum.inr "prefix") (Same.refl _), ?_⟩
      refine ⟨_, rfl, m, fi, lo, lp, _, os, qs, rfl, hm, hlo, hq, (by rw [hks]; exact hsz), fun L xs H1 e1 hL hP => ⟨L, rfl, ⟨_, SqL.of hL⟩, fun D hD => ?_⟩⟩
      rw [hks] at hP
      refine lc_list (K := K) (a := L) (xs := xs) (fun j H2 => Same H1 H2 ∧ H2 D = some (.lst ((ks.take j).map V.str))) ⟨same_upd hD, upd_same⟩ (fun j H2 _ h => SqL.of (h.1 _ _ hL)) (fun j y H2 hy h => ?_) (fun H2 h => ?_)
      · have hj : j < ks.length := by
          rw [← hP.len]
          exact (List.getElem?_eq_some_iff.mp hy).1
        obtain ⟨t, v, e2, ht, _⟩ := hP.at_ j _ (List.getElem?_eq_getElem hj)
        cases Option.some.inj (e2.symm.trans hy)
        refine ⟨t, _, rfl, SqT.of (h.1 _ _ ht), rfl, _, _, rfl, _, _, rfl, rfl, rfl, _, rfl, _, h.2, sz_lt1 (by rw [List.length_map, List.length_take]; omega) (show j < 1001 by omega), same_mut h.1 hD, ?_⟩
        rw [upd_same, take_more' (List.getElem?_eq_getElem hj), List.map_append]
        rfl
      · obtain ⟨s2, hl⟩ := h
        rw [hP.len, List.take_length] at hl
        exact ⟨_, _, rfl, D, rfl, e1.trans s2, hl⟩
    rintro _ H1 ⟨F, rfl, e1, hF⟩
    have nothing : meantL ks ab z = [] → tRet (tLst tNil) { nx := fun _ H' => Q .non H', rt := Q } [some (.ref m), some (.str z), none, some (.str "-"), some (.ref F), none, none, none, none, none] H1 := fun e =>
      ⟨(by show 0 ≤ sizeLine; decide), fun L hL => kQ L _ (same_upd2 e1 hL) (by rw [e]; exact .lst upd_same .nil)⟩
    -- too short, no sign, --
    refine ⟨fun σ' H' => σ' = [some (.ref m), some (.str z), none, some (.str "-"), some (.ref F), none, none, none, none, none] ∧ H1 = H' ∧ ¬ (z.length < 2 ∨ inD (wAt z 0) = false ∨ z = "--"), ?_, ?_⟩
    · refine ⟨_, rfl, z, rfl, hsl, _, _, rfl, rfl, _, rfl, ?_⟩
      refine ite2 (fun hc => ?_) (fun hc => ?_)
      · have h2 : z.length < 2 := by have := of_decide_eq_true hc; omega
        exact iteT (nothing (by unfold meantL; rw [if_pos (.inl h2)]))
      have h2 : ¬ z.length < 2 := fun q => hc (decide_eq_true (by omega))
      have hn : 2 ≤ z.cps.toList.length := by
        have : z.cps.toList.length = z.length := by simp [PySem.Str.length]
        omega
      have a0 : atI z.cps.toList 0 = some (wAt z 0) := wAt_some (i := 0) (by omega)
      refine ⟨_, rfl, z, 0, _, rfl, rfl, hsl, a0, _, rfl, _, _, rfl, rfl, _, rfl, ?_⟩
      refine ite2 (fun hc => ?_) (fun hc => ?_)
      · have hd : inD (wAt z 0) = false := by unfold inD; simpa using hc
        exact iteT (nothing (by unfold meantL; rw [if_pos (.inr (.inl hd))]))
      have hd : inD (wAt z 0) = true := by unfold inD; simpa using hc
      refine ⟨_, rfl, rfl, _, rfl, ?_⟩
      refine ite2 (fun hc => ?_) (fun hc => ?_)
      · have he : z = "--" := V.str.inj (of_decide_eq_true hc)
        exact nothing (by unfold meantL; rw [if_pos (.inr (.inr he))])
      refine ⟨rfl, rfl, fun q => ?_⟩
      rcases q with q | q | q
      · exact h2 q
      · rw [hd] at q
        cases q
      · exact hc (decide_eq_true (congrArg V.str q))
    rintro _ _ ⟨rfl, rfl, hnot⟩
    have hn : 2 ≤ z.cps.toList.length := by
      have h1 : z.cps.toList.length = z.length := by simp [PySem.Str.length]
      have h2 : ¬ z.length < 2 := fun q => hnot (.inl q)
      omega
    have a1 : atI z.cps.toList 1 = some (wAt z 1) := wAt_some (i := 1) (by omega)
    -- cut
    refine ⟨_, rfl, rfl, z, _, rfl, rfl, ?_⟩
    generalize hcut : Txt.find z "=" = cut
    -- ahead, value
    refine ⟨fun σ' H' => σ' = [some (.ref m), some (.str z), none, some (.str "-"), some (.ref F), some (.int cut), some (.str (aheadOf z)), some (optV (valueOf z)), none, none] ∧ Same H1 H' ∧ (jointOf z = "" → aheadOf z = z), ?_, ?_⟩
    · refine ⟨_, rfl, _, _, rfl, rfl, _, rfl, ?_⟩
      rcases find_ahead z with ⟨h1, h2, h3⟩ | ⟨i, h1, h2, h3, h4, h5⟩
      · rw [hcut] at h1
        have ev : valueOf z = none := by unfold valueOf; rw [if_pos h3]
        subst h1
        refine iteT ⟨_, rfl, (by show 2 ≤ sizeLine; decide), fun q hq => ⟨q, _, rfl, SqT.of upd_same, rfl, _, _, rfl, _, _, rfl, rfl, ?_, same_upd hq, fun _ => h2⟩⟩
        rw [h2, ev]
        rfl
      · rw [hcut] at h1
        have hj : jointOf z ≠ "" := by rw [h4]; decide
        have ev : valueOf z = some (behindOf z) := by unfold valueOf; rw [if_neg hj]
        subst h1
        rw [decide_eq_false (by omega)]
        refine iteF ⟨_, rfl, _, rfl, _, rfl, z, rfl, hsl, _, rfl, _, rfl, _, _, rfl, rfl, _, rfl, z, rfl, hsl, (by show 2 ≤ sizeLine; decide), fun q hq => ⟨q, _, rfl, SqT.of upd_same, rfl, _, _, rfl, _, _, rfl, rfl, ?_, same_upd hq, fun q => absurd q hj⟩⟩
        rw [h3, ev, h5]
        rfl
    rintro _ H2 ⟨rfl, e12, hja⟩
    have hF2 := e12 _ _ hF
    have hal : (aheadOf z).length ≤ sizeLine := by
      have := ahead_len z
      rw [PySem.sizeLine_eq]
      omega
    -- in the flags
    refine ⟨fun σ' H' => σ' = [some (.ref m), some (.str z), none, some (.str "-"), some (.ref F), some (.int cut), some (.str (aheadOf z)), some (optV (valueOf z)), none, none] ∧ H2 = H' ∧ z ∉ ks ∧ aheadOf z ∉ ks, ?_, ?_⟩
    · have e2 := e1.trans e12
      have one : ∀ (q : Str × Option Str) (U : Addr), H2 U = none → meantL ks ab z = [q] → ∀ L, (upd H2 U (.tup [.str q.1, optV q.2])) L = none → Q (.ref L) (upd (upd H2 U (.tup [.str q.1, optV q.2])) L (.lst [.ref U])) := fun q U hU e L hL => by
        have hx := same_upd (o := .lst [.ref U]) hL _ _ (upd_same (H := H2) (a := U) (o := .tup [.str q.1, optV q.2]))
        exact kQ L _ (same_upd2 (same_upd2 e2 hU) hL) (by rw [e]; exact .lst upd_same (.cons (dt_opt q hx) .nil))
      refine ⟨_, rfl, _, rfl, F, _, rfl, .inl (SqL.of hF2), rfl, flat_strs ks, _, rfl, ?_⟩
      rw [if_neg Bool.false_ne_true, inV_strs]
      refine ite2 (fun hc => ?_) (fun hc => ?_)
      · have hz := of_decide_eq_true hc
        refine ⟨_, rfl, _, rfl, F, _, rfl, .inl (SqL.of hF2), rfl, flat_strs ks, _, rfl, ?_⟩
        rw [if_neg Bool.false_ne_true, inV_strs, hc]
        refine iteT ⟨_, rfl, (by show 2 ≤ sizeLine; decide), fun U hU => ⟨(by show 1 ≤ sizeLine; decide), fun L hL => ?_⟩⟩
        exact one (z, none) U hU (by unfold meantL; rw [if_neg hnot, if_pos hz]) L hL
      · have hz : z ∉ ks := fun q => hc (decide_eq_true q)
        refine ⟨_, rfl, _, rfl, F, _, rfl, .inl (SqL.of hF2), rfl, flat_strs ks, _, rfl, ?_⟩
        rw [if_neg Bool.false_ne_true, inV_strs]
        refine ite2 (fun hd => ?_) (fun hd => ⟨rfl, rfl, hz, fun q => hd (decide_eq_true q)⟩)
        have hA := of_decide_eq_true hd
        have hj : jointOf z ≠ "" := fun q => hz (by rw [← hja q]; exact hA)
        refine ⟨_, rfl, _, rfl, F, _, rfl, .inl (SqL.of hF2), rfl, flat_strs ks, _, rfl, ?_⟩
        rw [if_neg Bool.false_ne_true, inV_strs, decide_eq_false hz]
        refine iteF ⟨_, rfl, _, rfl, (by show 2 ≤ sizeLine; decide), fun U hU => ⟨(by show 1 ≤ sizeLine; decide), fun L hL => ?_⟩⟩
        have ev : valueOf z = some (behindOf z) := by unfold valueOf; rw [if_neg hj]
        rw [ev] at hL ⊢
        exact one (aheadOf z, some (behindOf z)) U hU (by unfold meantL; rw [if_neg hnot, if_neg hz, if_pos ⟨hj, hA⟩]) L hL
    rintro _ _ ⟨rfl, rfl, hzk, hak⟩
    have eM : meantL ks ab z = ks.filterMap (oneM ab z) := by unfold meantL; rw [if_neg hnot, if_neg hzk, if_neg (fun q => hak q.2)]
    -- found
    refine ⟨fun σ' H' => ∃ L : Addr, σ' = [some (.ref m), some (.str z), none, some (.str "-"), some (.ref F), some (.int cut), some (.str (aheadOf z)), some (optV (valueOf z)), some (.ref L), none] ∧ Same H2 H' ∧ H2 L = none ∧ H' L = some (.lst []), ?_, ?_⟩
    · exact ⟨(by show 0 ≤ sizeLine; decide), fun L hL => ⟨L, rfl, same_upd hL, hL, upd_same⟩⟩
    rintro _ H3 ⟨L, rfl, e23, nL, hL⟩
    have e03 := (e1.trans e12).trans e23
    have hF3 := e23 _ _ hF2
    -- the loop
    refine ⟨fun σ' H' => ∃ r : Option V, σ' = [some (.ref m), some (.str z), r, some (.str "-"), some (.ref F), some (.int cut), some (.str (aheadOf z)), some (optV (valueOf z)), some (.ref L), none] ∧ Same H2 H' ∧ ∃ vs, H' L = some (.lst vs) ∧ MList H' vs (ks.filterMap (oneM ab z)), ?_, ?_⟩
    · refine ⟨_, rfl, F, rfl, ⟨_, SqL.of hF3⟩, ?_⟩
      refine for_list (K := K) (a := F) (xs := ks.map V.str) (fun i σ' H' => ∃ r : Option V, σ' = [some (.ref m), some (.str z), r, some (.str "-"), some (.ref F), some (.int cut), some (.str (aheadOf z)), some (optV (valueOf z)), some (.ref L), none] ∧ Same H2 H' ∧ ∃ vs, H' L = some (.lst vs) ∧ MList H' vs ((ks.take i).filterMap (oneM ab z))) ⟨none, rfl, e23, [], hL, .nil⟩ ?_ ?_ ?_
      · rintro i σ' H' _ ⟨r, _, e, _⟩
        exact SqL.of (e _ _ hF2)
      · rintro i x σ' H' hx ⟨r, rfl, e, vs, hL', ml⟩
        obtain ⟨flag, hfl, rfl⟩ := str_at hx
        have hi : i < ks.length := (List.getElem?_eq_some_iff.mp hfl).1
        have hfz : flag.length ≤ sizeLine := by
          have := hkz flag (List.mem_of_getElem? hfl)
          rw [PySem.sizeLine_eq]
          omega
        have hlen : vs.length ≤ 100 := by
          rw [ml.len]
          have := List.length_filterMap_le (oneM ab z) (ks.take i)
          rw [List.length_take] at this
          omega
        have hm' := (e1.trans e12).trans e
        have push : ∀ (q : Option Str) (U : Addr), oneM ab z flag = some (flag, q) → H' U = none → ∃ r : Option V, ([some (.ref m), some (.str z), some (.str flag), some (.str "-"), some (.ref F), some (.int cut), some (.str (aheadOf z)), some (optV (valueOf z)), some (.ref L), none] : L2.St) = [some (.ref m), some (.str z), r, some (.str "-"), some (.ref F), some (.int cut), some (.str (aheadOf z)), some (optV (valueOf z)), some (.ref L), none] ∧
            Same H2 (upd (upd H' U (.tup [.str flag, optV q])) L (.lst (vs ++ [.ref U]))) ∧ ∃ vs', (upd (upd H' U (.tup [.str flag, optV q])) L (.lst (vs ++ [.ref U]))) L = some (.lst vs') ∧ MList (upd (upd H' U (.tup [.str flag, optV q])) L (.lst (vs ++ [.ref U]))) vs' ((ks.take (i + 1)).filterMap (oneM ab z)) := fun q U ho hU => by
          refine ⟨_, rfl, same_mut (e.trans (same_upd hU)) nL, _, upd_same, ?_⟩
          rw [take_more' hfl, List.filterMap_append]
          have e1 : [flag].filterMap (oneM ab z) = [(flag, q)] := by simp [ho]
          rw [e1]
          exact ml.snoc (q := (flag, q)) hL' hU
        have skip : oneM ab z flag = none → ∃ r : Option V, ([some (.ref m), some (.str z), some (.str flag), some (.str "-"), some (.ref F), some (.int cut), some (.str (aheadOf z)), some (optV (valueOf z)), some (.ref L), none] : L2.St) = [some (.ref m), some (.str z), r, some (.str "-"), some (.ref F), some (.int cut), some (.str (aheadOf z)), some (optV (valueOf z)), some (.ref L), none] ∧
            Same H2 H' ∧ ∃ vs', H' L = some (.lst vs') ∧ MList H' vs' ((ks.take (i + 1)).filterMap (oneM ab z)) := fun ho => by
          refine ⟨_, rfl, e, vs, hL', ?_⟩
          have e1 : [flag].filterMap (oneM ab z) = [] := by simp [ho]
          rw [take_more' hfl, List.filterMap_append, e1, List.append_nil]
          exact ml
        refine ⟨_, rfl, z, 1, _, rfl, rfl, hsl, a1, _, rfl, _, _, rfl, rfl, _, rfl, ?_⟩
        refine ite2 (fun c1 => ?_) (fun c1 => ?_)
        · have d1 : inD (wAt z 1) = false := by unfold inD; simpa using c1
          refine ⟨_, rfl, _, rfl, _, rfl, z, rfl, hsl, rfl, _, rfl, ?_⟩
          refine ite2 (fun c2 => ?_) (fun c2 => ?_)
          · have ec : flag = cutS z none (some 2) := V.str.inj (of_decide_eq_true c2)
            have ho : oneM ab z flag = some (flag, some (cutS z (some 2) none)) := by unfold oneM; rw [if_pos (by rw [d1, decide_eq_true ec]; rfl)]
            exact ⟨_, rfl, .inl ⟨rfl, _, SqL.of hL'⟩, _, rfl, _, rfl, _, rfl, z, rfl, hsl, (by show 2 ≤ sizeLine; decide), fun U hU => ⟨L, vs, _, rfl, rfl, same_upd hU _ _ hL', (by rw [PySem.sizeLine_eq]; omega), push _ U ho hU⟩⟩
          · have hx : (!inD (wAt z 1) && decide (flag = cutS z none (some 2))) = false := by
              rw [decide_eq_false (fun q => c2 (decide_eq_true (congrArg V.str q))), Bool.and_false]
            refine ⟨_, rfl, m, _, rfl, gm H' (Sum.inr "abbrev") hm', ab, rfl, ?_⟩
            refine ite2 (fun hab => ?_) (fun hab => ?_)
            · refine ⟨_, rfl, _, rfl, aheadOf z, rfl, hal, _, rfl, flag, rfl, hfz, _, rfl, rfl, _, rfl, ?_⟩
              have es : decide (V.str (cutS flag none (some ((aheadOf z).length : Int))) = V.str (aheadOf z)) = Txt.startswith flag (aheadOf z) := by
                rw [startswith_cut]
                by_cases q : cutS flag none (some ((aheadOf z).length : Int)) = aheadOf z
                · rw [q]; simp
                · rw [decide_eq_false q, decide_eq_false (fun h => q (V.str.inj h))]
              rw [es]
              refine ite2 (fun hs => ?_) (fun hs => ?_)
              · have ho : oneM ab z flag = some (flag, valueOf z) := by unfold oneM; rw [if_neg (by rw [hx]; exact Bool.false_ne_true), if_pos (by rw [hab, hs]; rfl)]
                exact ⟨_, rfl, .inl ⟨rfl, _, SqL.of hL'⟩, _, rfl, _, rfl, (by show 2 ≤ sizeLine; decide), fun U hU => ⟨L, vs, _, rfl, rfl, same_upd hU _ _ hL', (by rw [PySem.sizeLine_eq]; omega), push _ U ho hU⟩⟩
              · have ho : oneM ab z flag = none := by unfold oneM; rw [if_neg (by rw [hx]; exact Bool.false_ne_true), if_neg (by rw [hab, Bool.true_and]; exact hs)]
                exact skip ho
            · have ho : oneM ab z flag = none := by unfold oneM; rw [if_neg (by rw [hx]; exact Bool.false_ne_true), if_neg (by rw [Bool.eq_false_iff.mpr hab, Bool.false_and]; exact Bool.false_ne_true)]
              exact iteF (skip ho)
        · have hx : (!inD (wAt z 1) && decide (flag = cutS z none (some 2))) = false := by
            have d1 : inD (wAt z 1) = true := by unfold inD; simpa using c1
            rw [d1]
            rfl
          refine iteF ?_
          refine ⟨_, rfl, m, _, rfl, gm H' (Sum.inr "abbrev") hm', ab, rfl, ?_⟩
          refine ite2 (fun hab => ?_) (fun hab => ?_)
          · refine ⟨_, rfl, _, rfl, aheadOf z, rfl, hal, _, rfl, flag, rfl, hfz, _, rfl, rfl, _, rfl, ?_⟩
            have es : decide (V.str (cutS flag none (some ((aheadOf z).length : Int))) = V.str (aheadOf z)) = Txt.startswith flag (aheadOf z) := by
              rw [startswith_cut]
              by_cases q : cutS flag none (some ((aheadOf z).length : Int)) = aheadOf z
              · rw [q]; simp
              · rw [decide_eq_false q, decide_eq_false (fun h => q (V.str.inj h))]
            rw [es]
            refine ite2 (fun hs => ?_) (fun hs => ?_)
            · have ho : oneM ab z flag = some (flag, valueOf z) := by unfold oneM; rw [if_neg (by rw [hx]; exact Bool.false_ne_true), if_pos (by rw [hab, hs]; rfl)]
              exact ⟨_, rfl, .inl ⟨rfl, _, SqL.of hL'⟩, _, rfl, _, rfl, (by show 2 ≤ sizeLine; decide), fun U hU => ⟨L, vs, _, rfl, rfl, same_upd hU _ _ hL', (by rw [PySem.sizeLine_eq]; omega), push _ U ho hU⟩⟩
            · have ho : oneM ab z flag = none := by unfold oneM; rw [if_neg (by rw [hx]; exact Bool.false_ne_true), if_neg (by rw [hab, Bool.true_and]; exact hs)]
              exact skip ho
          · have ho : oneM ab z flag = none := by unfold oneM; rw [if_neg (by rw [hx]; exact Bool.false_ne_true), if_neg (by rw [Bool.eq_false_iff.mpr hab, Bool.false_and]; exact Bool.false_ne_true)]
            exact iteF (skip ho)
      · rintro σ' H' ⟨r, rfl, e, vs, hL', ml⟩
        rw [List.length_map, List.take_length] at ml
        exact ⟨r, rfl, e, vs, hL', ml⟩
    rintro _ H4 ⟨r, rfl, e4, vs, hL4, ml⟩
    exact ⟨_, rfl, kQ L H4 ((e1.trans e12).trans e4) (by rw [eM]; exact ml.dt hL4)⟩
end
end K01

namespace K01
open PySem L2 PyProof.Rows
/-! ### kinds of options -/
def kinds : List (V × Str) := [(.int 0, "store_true"), (.int 0, "count"), (.non, "store"), (.non, "append"), (.str "?", "store"), (.str "*", "store"), (.str "+", "store"), (.int 1, "store"), (.int 2, "store"), (.str "...", "store")]
/-- tuples of numbers of words and actions, all new -/
structure KS (H Hc : Hp) (xs : List V) : Prop where
  same : Same H Hc
  at_ : ∀ x ∈ xs, ∃ (t : Addr) (nv : V) (act : Str), x = .ref t ∧ (nv, act) ∈ kinds ∧ H t = none ∧ Hc t = some (.tup [nv, .str act])
theorem KS.nil {H Hc : Hp} (e : Same H Hc) : KS H Hc [] := ⟨e, fun x hx => nomatch hx⟩
theorem KS.keep {H Hc H2 : Hp} {xs : List V} (h : KS H Hc xs) (e : Same Hc H2) : KS H H2 xs := ⟨h.same.trans e, fun x hx => by
  obtain ⟨t, nv, act, e1, e2, e3, e4⟩ := h.at_ x hx
  exact ⟨t, nv, act, e1, e2, e3, e _ _ e4⟩⟩
theorem KS.add {H Hc : Hp} {xs : List V} {t : Addr} {nv : V} {act : Str} (h : KS H Hc xs) (ht : Hc t = none) (hk : (nv, act) ∈ kinds) : KS H (upd Hc t (.tup [nv, .str act])) (xs ++ [.ref t]) := by
  have k := h.keep (same_upd (o := .tup [nv, .str act]) ht)
  refine ⟨k.same, fun x hx => ?_⟩
  rcases List.mem_append.mp hx with hx | hx
  · exact k.at_ x hx
  · exact ⟨t, nv, act, List.mem_singleton.mp hx, hk, Same.free h.same ht, upd_same⟩
def spRKind : Sp := fun vs H Q _ => ∃ (st cl : Addr) (n : Nat), vs = [.ref st] ∧ Strm H st cl n ∧ n ≤ 90000 ∧
  ∀ (t : Addr) (nv : V) (act : Str) (H' : Hp), (nv, act) ∈ kinds → H t = none → H' t = some (.tup [nv, .str act]) → Strm H' st cl (n + 1) → Kp2 st cl H H' → Q (.ref t) H'
section
variable {P : Program} {w : World} {K : PySem.W.Frag} {mg : Str → Option Value} {base : Heap}
abbrev nRK : List Str := ["_law_stream", "_law_some"]
theorem scRK : FnScope nRK ["_law_stream"] (defScope sRKind) := ⟨rfl, rfl, rfl, by decide +kernel, rfl, by decide +kernel, by decide +kernel⟩
theorem ok_rkind {f fP : Addr} {fd fdP : FuncData} (F : Fun K "_law_r_kind" "_law_r_kind" sRKind f fd) (Pk : At P w K mg base "_law_pick" 2 ["_law_stream", "_law_some"] spPick fP fdP) : FnOk P w K mg base CX0 3 f fd ["_law_stream"] spRKind := by
  refine F.ok scRK (fun vs H Q E h => ?_) (fun cdv A0 outer s H vs Q E hr h => ?_)
  · obtain ⟨st, cl, n, rfl, _⟩ := h
    rfl
  · obtain ⟨st, cl, n, rfl, S, hn, k⟩ := h
    refine ⟨_, pss_mid (ps_set (i := 1) scRK.nd rfl (Or.inl rfl) (pe_lst (pa_cons (pe_tup (pa_cons pe_int (pa_cons pe_str pa_nil))) (pa_cons (pe_tup (pa_cons pe_int (pa_cons pe_str pa_nil))) (pa_cons (pe_tup (pa_cons pe_int (pa_cons pe_str pa_nil))) (pa_cons (pe_tup (pa_cons pe_non (pa_cons pe_str pa_nil))) (pa_cons (pe_tup (pa_cons pe_non (pa_cons pe_str pa_nil))) (pa_cons (pe_tup (pa_cons pe_non (pa_cons pe_str pa_nil))) pa_nil))))))))
      (pss_mid (ps_set (i := 1) scRK.nd rfl (Or.inl rfl) (pe_op op_cat (pv 1) (pe_lst (pa_cons (pe_tup (pa_cons pe_str (pa_cons pe_str pa_nil))) (pa_cons (pe_tup (pa_cons pe_str (pa_cons pe_str pa_nil))) (pa_cons (pe_tup (pa_cons pe_str (pa_cons pe_str pa_nil))) (pa_cons (pe_tup (pa_cons pe_int (pa_cons pe_str pa_nil))) (pa_cons (pe_tup (pa_cons pe_int (pa_cons pe_str pa_nil))) (pa_cons (pe_tup (pa_cons pe_str (pa_cons pe_str pa_nil))) pa_nil)))))))))
      (pss_one (ps_ret (pe_call Pk.ok hr rfl Pk.m Pk.k Pk.b .nil pass0 (pa_cons (pv 0) (pa_cons (pv 1) pa_nil)))))), ?_⟩
    have two : 2 ≤ sizeLine := by decide
    refine ⟨fun σ' H' => ∃ (a : Addr) (xs : List V), σ' = [some (.ref st), some (.ref a)] ∧ KS H H' xs ∧ H' a = some (.lst xs) ∧ xs.length = 6, ?_, ?_⟩
    · refine ⟨two, fun t1 h1 => ⟨two, fun t2 h2 => ⟨two, fun t3 h3 => ⟨two, fun t4 h4 => ⟨two, fun t5 h5 => ⟨two, fun t6 h6 => ⟨(by show 6 ≤ sizeLine; decide), fun a ha => ?_⟩⟩⟩⟩⟩⟩⟩
      have k0 := KS.nil (Same.refl H)
      have k1 := k0.add h1 (nv := .int 0) (act := "store_true") (by decide +kernel)
      have k2 := k1.add h2 (nv := .int 0) (act := "store_true") (by decide +kernel)
      have k3 := k2.add h3 (nv := .int 0) (act := "count") (by decide +kernel)
      have k4 := k3.add h4 (nv := .non) (act := "store") (by decide +kernel)
      have k5 := k4.add h5 (nv := .non) (act := "store") (by decide +kernel)
      have k6 := k5.add h6 (nv := .non) (act := "append") (by decide +kernel)
      exact ⟨a, _, rfl, k6.keep (same_upd ha), upd_same, rfl⟩
    rintro _ H1 ⟨a, xs, rfl, k1, ha, hl⟩
    refine ⟨fun σ' H' => ∃ (a : Addr) (xs : List V), σ' = [some (.ref st), some (.ref a)] ∧ KS H H' xs ∧ H' a = some (.lst xs) ∧ xs.length = 12 ∧ H a = none, ?_, ?_⟩
    · refine ⟨_, rfl, two, fun t1 h1 => ⟨two, fun t2 h2 => ⟨two, fun t3 h3 => ⟨two, fun t4 h4 => ⟨two, fun t5 h5 => ⟨two, fun t6 h6 => ⟨(by show 6 ≤ sizeLine; decide), fun b hb => ?_⟩⟩⟩⟩⟩⟩⟩
      have q1 := k1.add h1 (nv := .str "?") (act := "store") (by decide +kernel)
      have q2 := q1.add h2 (nv := .str "*") (act := "store") (by decide +kernel)
      have q3 := q2.add h3 (nv := .str "+") (act := "store") (by decide +kernel)
      have q4 := q3.add h4 (nv := .int 1) (act := "store") (by decide +kernel)
      have q5 := q4.add h5 (nv := .int 2) (act := "store") (by decide +kernel)
      have q6 := q5.add h6 (nv := .str "...") (act := "store") (by decide +kernel)
      have eB := same_upd (o := .lst [.ref t1, .ref t2, .ref t3, .ref t4, .ref t5, .ref t6]) hb
      have q7 := q6.keep eB
      have ha' := ((((((same_upd h1).trans (same_upd h2)).trans (same_upd h3)).trans (same_upd h4)).trans (same_upd h5)).trans (same_upd h6)).trans eB _ _ ha
      refine ⟨a, b, xs, _, rfl, rfl, ha', upd_same, (by rw [hl]; show 6 + 6 ≤ sizeLine; decide), fun c hc => ⟨c, _, rfl, (q7.keep (same_upd (o := .lst (xs ++ [.ref t1, .ref t2, .ref t3, .ref t4, .ref t5, .ref t6])) hc)), ?_, ?_, Same.free q7.same hc⟩⟩
      · rw [upd_same]
        simp
      · simp [hl]
    rintro _ H2 ⟨a2, xs2, rfl, k2, ha2, hl2, na2⟩
    have n1 : a2 ≠ st := fun z => by
      obtain ⟨o, h1⟩ := S.st
      rw [z, h1] at na2
      cases na2
    have n2 : a2 ≠ cl := fun z => by
      obtain ⟨o, h1⟩ := S.cl
      rw [z, h1] at na2
      cases na2
    refine ⟨_, rfl, _, rfl, st, cl, n, a2, xs2, rfl, S.keep k2.same, ha2, n1, n2, (fun z => by rw [z] at hl2; cases hl2), by omega, by omega, fun x H3 hx S3 kp3 => ?_⟩
    obtain ⟨t, nv, act, rfl, hk, nt, ht⟩ := k2.at_ x hx
    have m1 : t ≠ st := fun z => by
      obtain ⟨o, h1⟩ := S.st
      rw [z, h1] at nt
      cases nt
    have m2 : t ≠ cl := fun z => by
      obtain ⟨o, h1⟩ := S.cl
      rw [z, h1] at nt
      cases nt
    exact k t nv act H3 hk nt (kp3 _ _ ht m1 m2) S3 fun q o e a b => kp3 _ _ (k2.same _ _ e) a b
end
end K01

namespace K01
open PySem L2 PyProof.Rows
/-! ### join, where nothing clashes -/
def kO (O : Addr) (f : Str) : Key × V := (Sum.inr f, .ref O)
theorem filter_more {α : Type} {f : α → Bool} {l : List α} {i : Nat} {x : α} (h : l[i]? = some x) : (l.take (i + 1)).filter f = (l.take i).filter f ++ (if f x = true then [x] else []) := by
  rw [take_more' h, List.filter_append]
  cases e : f x <;> simp [e]
theorem rest_none {rest : List (Key × V)} {rk : List Str} {x : Str} (hr : rest.map (·.1) = rk.map Sum.inr) (hx : x ∉ rk) : valV rest (Sum.inr x : Key) = none := by
  have h := key_isSome (w := x) hr
  rw [decide_eq_false hx] at h
  exact Option.not_isSome_iff_eq_none.mp (by rw [h]; exact Bool.false_ne_true)
theorem nodup_take : ∀ {l : List Str} {i : Nat} {x : Str}, l.Nodup → l[i]? = some x → x ∉ l.take i := fun {l i x} nd hx hm => by
  have hi := (List.getElem?_eq_some_iff.mp hx).1
  have e := (List.getElem?_eq_some_iff.mp hx).2
  obtain ⟨j, hj, ej⟩ := List.getElem_of_mem hm
  rw [List.getElem_take] at ej
  rw [List.length_take] at hj
  have := (List.getElem_inj nd).mp (ej.trans e.symm)
  omega
/-- where a parser's parts stand -/
structure PAd where
  p : Addr
  dx : Addr
  la : Addr
  lf : Addr
  le : Addr
  dd : Addr
  ls : Addr
  s0 : Addr
  s1 : Addr
  m0 : Addr
  m1 : Addr
  aL : Addr
  fi : Addr
  ab : Bool
structure ParAt (CP CS : Addr) (a : PAd) (H : Hp) (kvs : List (Key × V)) (as ns ms : List V) : Prop where
  px : H a.p = some (.ins CP a.dx (pFs "p" "error" a.ab a.aL a.fi a.la a.lf a.le a.dd a.ls))
  hla : H a.la = some (.lst as)
  hlf : H a.lf = some (.dK kvs)
  hdd : H a.dd = some (.dK [])
  hls : H a.ls = some (.lst [.ref a.s0, .ref a.s1])
  hs0 : ∃ d v, H a.s0 = some (.ins CS d (sFs (.ref a.p) v .non a.m0))
  hs1 : ∃ d v, H a.s1 = some (.ins CS d (sFs (.ref a.p) v .non a.m1))
  hm0 : H a.m0 = some (.lst ns)
  hm1 : H a.m1 = some (.lst ms)
  n1 : a.la ≠ a.m1 ∧ a.la ≠ a.m0 ∧ a.m0 ≠ a.m1
  n2 : a.ls ≠ a.la ∧ a.ls ≠ a.m0 ∧ a.ls ≠ a.m1
  n4 : a.lf ≠ a.dd
theorem ParAt.keep {CP CS : Addr} {a : PAd} {H H' : Hp} {kvs : List (Key × V)} {as ns ms : List V} (h : ParAt CP CS a H kvs as ns ms) (e : Same H H') : ParAt CP CS a H' kvs as ns ms := by
  obtain ⟨d, v, s⟩ := h.hs1
  obtain ⟨d0, v0, s0⟩ := h.hs0
  exact ⟨e _ _ h.px, e _ _ h.hla, e _ _ h.hlf, e _ _ h.hdd, e _ _ h.hls, ⟨d0, v0, e _ _ s0⟩, ⟨d, v, e _ _ s⟩, e _ _ h.hm0, e _ _ h.hm1, h.n1, h.n2, h.n4⟩
def okA (fl : List Str) : Prop := fl.length ≤ 20 ∧ ∀ x ∈ fl, x ∈ flagsAll
def spJoin (CP CS CA : Addr) : Sp := fun vs H Q _ => ∃ (a : PAd) (A : Addr) (as ns ms : List V) (rk : List Str) (rest : List (Key × V)) (dA TA : Addr) (afs : List (Str × V)) (fl : List Str), vs = [.ref a.p, .ref A, .non, .non] ∧
  ParAt CP CS a H rest as ns ms ∧ rest.map (·.1) = rk.map Sum.inr ∧ H A = some (.ins CA dA afs) ∧ afs.lookup ("flags" : Str) = some (V.ref TA) ∧ afs.lookup ("is_option" : Str) = some (V.bl (!fl.isEmpty)) ∧ H TA = some (.tup (fl.map V.str)) ∧ okA fl ∧ fl.Nodup ∧ (∀ x ∈ fl, x ∉ rk) ∧
  as.length ≤ 100 ∧ ns.length ≤ 100 ∧ ms.length ≤ 100 ∧ rk.length ≤ 100 ∧
  ∀ H' ns' ms', (∀ b o, H b = some o → b ≠ a.la → b ≠ a.lf → b ≠ a.m0 → b ≠ a.m1 → H' b = some o) → ns'.length ≤ ns.length + 1 → ms'.length ≤ ms.length + 1 → ParAt CP CS a H' (rest ++ fl.map (kO A)) (as ++ [.ref A]) ns' ms' → Q .non H'
section
variable {P : Program} {w : World} {K : PySem.W.Frag} {mg : Str → Option Value} {base : Heap}
abbrev nJoin : List Str := ["self", "argument", "section", "exclusive", "flag", "clash", "home"]
theorem scJoin : FnScope nJoin ["self", "argument", "section", "exclusive"] (defScope sJoin) := ⟨rfl, rfl, rfl, by decide +kernel, rfl, by decide +kernel, by decide +kernel⟩
theorem ok_join {f CP CS CA : Addr} {fd : FuncData} (F : Fun K "join" "Parser.join" sJoin f fd) (T : TxtB mg) (cP : ClsN K CP parF) (cA : ClsN K CA argF) (cS : ClsN K CS secF) : FnOk P w K mg base CX0 2 f fd ["self", "argument", "section", "exclusive"] (spJoin CP CS CA) := by
  refine F.ok scJoin (fun vs H Q E h => ?_) (fun cdv A0 outer s H vs Q E hr h => ?_)
  · obtain ⟨a, A, as, ns, ms, rk, rest, dA, TA, afs, fl, rfl, _⟩ := h
    rfl
  · obtain ⟨a, A, as, ns, ms, rk, rest, dA, TA, afs, fl, rfl, hp, hrk, hA, fA, iA, hTA, okf, nd, dis, la1, ln1, lm1, lr1, k⟩ := h
    have hu : (A0.deeper (PyProof.Rows.envOfC "Parser.join" (defScope sJoin) s.heap.objs.size f cdv)).units + 64 < cLine := hr.units
    have hu1 := hu_of hr
    refine ⟨_, pss_mid (ps_set (i := 5) scJoin.nd rfl (Or.inl rfl) (pe_callTy call_tuple_of (by rfl) T.tuple (by decide +kernel) (pa_cons (pe_lc (own := [("flag", 4)]) (g := gName 4) (tt := tB (tDIn (tVar 4) (tFld K (tVar 0) "flags"))) (te := tVar 4) rfl scJoin.nd (pi_tup (pe_fld (pv 1) rfl)) (blkOk_by (N := nJoin) (sc := defScope sJoin) (by decide +kernel)) (fun _ _ _ _ _ => pg_name (i := 4) scJoin.nd rfl (Or.inl rfl)) (fun _ _ _ _ _ => by exact pts_one (pt_cmp (pc_din (by exact hu1) (pv 4) (by exact pe_fld (pv 0) rfl)))) (fun _ _ _ _ _ => by exact pv 4)) pa_nil)))
      (pss_mid (ps_if (PW.pt (pw_and (pt_cmpR (op_neD hu) (pv 5) (pe_tup pa_nil) (nomark _)) pw_never)) pss_never pss_nil)
      (pss_mid (ps_for PassesOwn.never rfl (pi_tup (pv 5)) (pg_name (i := 4) scJoin.nd rfl (Or.inl rfl)) pss_never)
      (pss_mid (ps_expr (pe_bm PySem.F.plainAttrs_list PySem.F.slot_list_append PySem.F.type_list_append mt_append (pe_fld (pv 0) rfl) (pa_cons (pv 1) pa_nil)))
      (pss_mid (ps_for PassesOwn.never rfl (pi_tup (pe_fld (pv 1) rfl)) (pg_name (i := 4) scJoin.nd rfl (Or.inl rfl)) (pss_one (ps_dput hu1 (pe_fld (pv 0) rfl) (pv 4) (pv 1) rfl)))
      (pss_mid (ps_set (i := 6) scJoin.nd rfl (Or.inl rfl) (pe_ifExp (pt_cmp (pc_isN (pv 2))) (pe_ix ix_list (pe_fld (pv 0) rfl) (pe_callTy call_int1 (by rfl) T.int (by decide +kernel) (pa_cons (pe_fld (pv 1) rfl) pa_nil)) (fun _ _ => rfl)) pe_never))
      (pss_mid (ps_expr (pe_bm PySem.F.plainAttrs_list PySem.F.slot_list_append PySem.F.type_list_append mt_append (pe_fld (pv 6) rfl) (pa_cons (pv 1) pa_nil)))
      (pss_one (ps_if (pt_cmp (pc_notN (pv 3))) pss_never pss_nil)))))))), ?_⟩
    have nF : NoAttr K CP "flags" := cP.no _ (by decide +kernel)
    have nAr : NoAttr K CP "arguments" := cP.no _ (by decide +kernel)
    have nSe : NoAttr K CP "sections" := cP.no _ (by decide +kernel)
    have nAF : NoAttr K CA "flags" := cA.no _ (by decide +kernel)
    have nAI : NoAttr K CA "is_option" := cA.no _ (by decide +kernel)
    have nSM : NoAttr K CS "members" := cS.no _ (by decide +kernel)
    have hfl : fl.length ≤ 20 := okf.1
    -- clash
    refine ⟨fun σ' H' => ∃ C : Addr, σ' = [some (.ref a.p), some (.ref A), some .non, some .non, none, some (.ref C), none] ∧ Same H H' ∧ H' C = some (.tup []), ?_, ?_⟩
    · refine ⟨_, rfl, A, CA, dA, afs, _, rfl, hA, cA.cl, nAF, fA, TA, rfl, ⟨_, SqT.of hTA⟩, fun D hD => ?_⟩
      refine lc_tup (K := K) (a := TA) (xs := fl.map V.str) (fun i H' => Same H H' ∧ H' D = some (.lst [])) ⟨same_upd hD, upd_same⟩ (fun i H' _ h => SqT.of (h.1 _ _ hTA)) (fun i x H' hx h => ?_) (fun H' h => ?_)
      · obtain ⟨z, hz, rfl⟩ := str_at hx
        have g := DGet.k (k := (Sum.inr z : Key)) (h.1 _ _ hp.hlf)
        refine ⟨rfl, _, rfl, _, rfl, a.p, CP, a.dx, _, _, rfl, h.1 _ _ hp.px, cP.cl, nF, rfl, a.lf, _, rfl, g, _, rfl, ?_⟩
        rw [rest_none hrk (dis z (List.mem_of_getElem? hz))]
        exact iteF h
      · obtain ⟨s1, hl1⟩ := h
        exact ⟨D, _, rfl, .inl ⟨SqL.of hl1, fun C hC => ⟨C, rfl, same_upd2 s1 hC, upd_same⟩⟩⟩
    rintro _ H1 ⟨C, rfl, e1, hC⟩
    -- the error that is none
    refine ⟨fun σ' H' => σ' = [some (.ref a.p), some (.ref A), some .non, some .non, none, some (.ref C), none] ∧ Same H1 H', ?_, ?_⟩
    · refine ⟨_, rfl, (by show 0 ≤ sizeLine; decide), fun q hq => ?_⟩
      have eq := same_upd (o := .tup []) hq
      exact ⟨.tuple [], .tuple [], .tup (SqT.of (eq _ _ hC)) .nil, .tup (SqT.of upd_same) .nil, by decide, by decide, false, rfl, iteF ⟨rfl, eq⟩⟩
    rintro _ H2 ⟨rfl, e12⟩
    have e2 := e1.trans e12
    have hC2 := e12 _ _ hC
    -- no flags are taken away
    refine ⟨fun σ' H' => σ' = [some (.ref a.p), some (.ref A), some .non, some .non, none, some (.ref C), none] ∧ H2 = H', ?_, ?_⟩
    · refine ⟨_, rfl, C, rfl, ⟨_, SqT.of hC2⟩, ?_⟩
      exact for_tup (K := K) (a := C) (xs := []) (g := gName 4) (tb := fun _ _ _ => False) (D := { nx := fun σ' H' => σ' = [some (.ref a.p), some (.ref A), some .non, some .non, none, some (.ref C), none] ∧ H2 = H', rt := Q }) (fun _ σ' H' => σ' = [some (.ref a.p), some (.ref A), some .non, some .non, none, some (.ref C), none] ∧ H2 = H') ⟨rfl, rfl⟩ (fun _ _ _ _ h => by rw [← h.2]; exact SqT.of hC2) (fun i y _ _ hy _ => by simp at hy) (fun _ _ h => h)
    rintro _ _ ⟨rfl, rfl⟩
    have hp3 := hp.keep e2
    have plf : a.p ≠ a.lf := ne_of hp.px hp.hlf (by intro z; cases z)
    have hA3 := e2 _ _ hA
    have hTA3 := e2 _ _ hTA
    -- arguments
    refine ⟨fun σ' H' => σ' = [some (.ref a.p), some (.ref A), some .non, some .non, none, some (.ref C), none] ∧ (∀ b o, H2 b = some o → b ≠ a.la → H' b = some o) ∧ H' a.la = some (.lst (as ++ [.ref A])), ?_, ?_⟩
    · exact ⟨_, rfl, a.p, CP, a.dx, _, _, rfl, hp3.px, cP.cl, nAr, rfl, .inl ⟨rfl, _, SqL.of hp3.hla⟩, _, rfl, a.la, as, _, rfl, rfl, hp3.hla, by rw [PySem.sizeLine_eq]; omega, rfl, fun b o e nb => by rw [upd_ne nb]; exact e, upd_same⟩
    rintro _ H4 ⟨rfl, kp4, hla4⟩
    have pla : a.p ≠ a.la := ne_of hp3.px hp3.hla (by intro z; cases z)
    have lfa : a.lf ≠ a.la := ne_of hp3.hlf hp3.hla (by intro z; cases z)
    have hp4 : ParAt CP CS a H4 rest (as ++ [.ref A]) ns ms := by
      obtain ⟨d, v, hs⟩ := hp3.hs1
      obtain ⟨d0, v0, hs0⟩ := hp3.hs0
      exact ⟨kp4 _ _ hp3.px pla, hla4, kp4 _ _ hp3.hlf lfa, kp4 _ _ hp3.hdd (ne_of hp3.hdd hp3.hla (by intro z; cases z)), kp4 _ _ hp3.hls hp3.n2.1, ⟨d0, v0, kp4 _ _ hs0 (ne_of hs0 hp3.hla (by intro z; cases z))⟩, ⟨d, v, kp4 _ _ hs (ne_of hs hp3.hla (by intro z; cases z))⟩, kp4 _ _ hp3.hm0 hp3.n1.2.1.symm, kp4 _ _ hp3.hm1 hp3.n1.1.symm, hp3.n1, hp3.n2, hp3.n4⟩
    have hA4 := kp4 _ _ hA3 (ne_of hA3 hp3.hla (by intro z; cases z))
    have hTA4 := kp4 _ _ hTA3 (ne_of hTA3 hp3.hla (by intro z; cases z))
    -- flags
    refine ⟨fun σ' H' => ∃ r, σ' = [some (.ref a.p), some (.ref A), some .non, some .non, r, some (.ref C), none] ∧ (∀ b o, H4 b = some o → b ≠ a.lf → H' b = some o) ∧ H' a.lf = some (.dK (rest ++ fl.map (kO A))), ?_, ?_⟩
    · refine ⟨_, rfl, A, CA, dA, afs, _, rfl, hA4, cA.cl, nAF, fA, TA, rfl, ⟨_, SqT.of hTA4⟩, ?_⟩
      refine for_tup (K := K) (a := TA) (xs := fl.map V.str) (fun i σ' H' => ∃ r, σ' = [some (.ref a.p), some (.ref A), some .non, some .non, r, some (.ref C), none] ∧ (∀ b o, H4 b = some o → b ≠ a.lf → H' b = some o) ∧ H' a.lf = some (.dK (rest ++ (fl.take i).map (kO A)))) ⟨none, rfl, fun _ _ e _ => e, ?_⟩ ?_ ?_ ?_
      · rw [List.take_zero, List.map_nil, List.append_nil]
        exact hp4.hlf
      · rintro i σ' H' _ ⟨r, _, kp, _⟩
        exact SqT.of (kp _ _ hTA4 (ne_of hTA4 hp4.hlf (by intro z; cases z)))
      · rintro i x σ' H' hx ⟨r, rfl, kp, hl'⟩
        obtain ⟨z, hz, rfl⟩ := str_at hx
        have hzl := List.mem_of_getElem? hz
        have h2 : (rest ++ (fl.take i).map (kO A)).map (·.1) = (rk ++ fl.take i).map Sum.inr := by
          rw [List.map_append, hrk, List.map_append, List.map_map]
          rfl
        have hn : valV (rest ++ (fl.take i).map (kO A)) (Sum.inr z : Key) = none := by
          refine rest_none h2 fun q => ?_
          rcases List.mem_append.mp q with q | q
          · exact dis z hzl q
          · exact nodup_take nd hz q
        have hlen : (rest ++ (fl.take i).map (kO A)).length < sizeLine := by
          have h1 : rest.length = rk.length := by
            have := congrArg List.length hrk
            rwa [List.length_map, List.length_map] at this
          rw [PySem.sizeLine_eq, List.length_append, List.length_map, List.length_take]
          omega
        refine ⟨_, rfl, _, rfl, a.p, CP, a.dx, _, _, rfl, kp _ _ hp4.px plf, cP.cl, nF, rfl, _, rfl, a.lf, _, rfl, DPut.k (k := (Sum.inr z : Key)) hl' hlen, _, rfl, fun b o e nb => by rw [upd_ne nb]; exact kp _ _ e nb, ?_⟩
        rw [upd_same, putK_new _ hn, take_more' hz, List.map_append, List.append_assoc]
        rfl
      · rintro σ' H' ⟨r, rfl, kp, hl'⟩
        rw [List.length_map, List.take_length] at hl'
        exact ⟨r, rfl, kp, hl'⟩
    rintro _ H5 ⟨r5, rfl, kp5, hl5⟩
    have hp5 : ParAt CP CS a H5 (rest ++ fl.map (kO A)) (as ++ [.ref A]) ns ms := by
      obtain ⟨d, v, hs⟩ := hp4.hs1
      obtain ⟨d0, v0, hs0⟩ := hp4.hs0
      exact ⟨kp5 _ _ hp4.px plf, kp5 _ _ hp4.hla lfa.symm, hl5, kp5 _ _ hp4.hdd hp4.n4.symm, kp5 _ _ hp4.hls (ne_of hp4.hls hp4.hlf (by intro z; cases z)), ⟨d0, v0, kp5 _ _ hs0 (ne_of hs0 hp4.hlf (by intro z; cases z))⟩, ⟨d, v, kp5 _ _ hs (ne_of hs hp4.hlf (by intro z; cases z))⟩, kp5 _ _ hp4.hm0 (ne_of hp4.hm0 hp4.hlf (by intro z; cases z)), kp5 _ _ hp4.hm1 (ne_of hp4.hm1 hp4.hlf (by intro z; cases z)), hp4.n1, hp4.n2, hp4.n4⟩
    have hA5 := kp5 _ _ hA4 (ne_of hA4 hp4.hlf (by intro z; cases z))
    obtain ⟨d1, v1, hs5⟩ := hp5.hs1
    obtain ⟨d0, v0, hs50⟩ := hp5.hs0
    have kpE : ∀ b o, H b = some o → b ≠ a.la → b ≠ a.lf → H5 b = some o := fun b o e n1 n2 => kp5 _ _ (kp4 _ _ (e2 _ _ e) n1) n2
    -- home
    refine ⟨fun σ' H' => ∃ sx mx dS vS qs, σ' = [some (.ref a.p), some (.ref A), some .non, some .non, r5, some (.ref C), some (.ref sx)] ∧ H5 = H' ∧ H5 sx = some (.ins CS dS (sFs (.ref a.p) vS .non mx)) ∧ H5 mx = some (.lst qs) ∧ ((mx = a.m0 ∧ qs = ns) ∨ (mx = a.m1 ∧ qs = ms)), ?_, ?_⟩
    · refine ⟨_, rfl, true, rfl, iteT ⟨_, rfl, a.p, CP, a.dx, _, _, rfl, hp5.px, cP.cl, nSe, rfl, _, rfl, A, CA, dA, afs, _, rfl, hA5, cA.cl, nAI, iA, .inr ⟨_, rfl, ?_⟩⟩⟩
      cases fl with
      | nil => exact ⟨a.ls, _, _, _, rfl, rfl, SqL.of hp5.hls, atI_nat (j := 0) rfl, a.s0, a.m0, d0, v0, ns, rfl, rfl, hs50, hp5.hm0, .inl ⟨rfl, rfl⟩⟩
      | cons x xs => exact ⟨a.ls, _, _, _, rfl, rfl, SqL.of hp5.hls, atI_nat (j := 1) rfl, a.s1, a.m1, d1, v1, ms, rfl, rfl, hs5, hp5.hm1, .inr ⟨rfl, rfl⟩⟩
    rintro _ _ ⟨sx, mx, dS, vS, qs, rfl, rfl, hsx, hmx, hq⟩
    have lq : qs.length ≤ 100 := by rcases hq with ⟨_, rfl⟩ | ⟨_, rfl⟩ <;> assumption
    -- members
    refine ⟨fun σ' H' => σ' = [some (.ref a.p), some (.ref A), some .non, some .non, r5, some (.ref C), some (.ref sx)] ∧ (∀ b o, H5 b = some o → b ≠ mx → H' b = some o) ∧ H' mx = some (.lst (qs ++ [.ref A])), ?_, ?_⟩
    · exact ⟨_, rfl, sx, CS, dS, _, _, rfl, hsx, cS.cl, nSM, rfl, .inl ⟨rfl, _, SqL.of hmx⟩, _, rfl, mx, qs, _, rfl, rfl, hmx, by rw [PySem.sizeLine_eq]; omega, rfl, fun b o e nb => by rw [upd_ne nb]; exact e, upd_same⟩
    rintro _ H6 ⟨rfl, kp6, hm6⟩
    refine ⟨_, rfl, false, rfl, iteF ?_⟩
    rcases hq with ⟨rfl, rfl⟩ | ⟨rfl, rfl⟩
    · exact k H6 (qs ++ [.ref A]) ms (fun b o e n1 n2 n3 n4 => kp6 _ _ (kpE _ _ e n1 n2) n3) (by rw [List.length_append]; exact Nat.le_refl _) (by omega) ⟨kp6 _ _ hp5.px (ne_of hp5.px hp5.hm0 (by intro z; cases z)), kp6 _ _ hp5.hla hp5.n1.2.1, kp6 _ _ hp5.hlf (ne_of hp5.hlf hp5.hm0 (by intro z; cases z)), kp6 _ _ hp5.hdd (ne_of hp5.hdd hp5.hm0 (by intro z; cases z)), kp6 _ _ hp5.hls hp5.n2.2.1, ⟨d0, v0, kp6 _ _ hs50 (ne_of hs50 hp5.hm0 (by intro z; cases z))⟩, ⟨d1, v1, kp6 _ _ hs5 (ne_of hs5 hp5.hm0 (by intro z; cases z))⟩, hm6, kp6 _ _ hp5.hm1 hp5.n1.2.2.symm, hp5.n1, hp5.n2, hp5.n4⟩
    · exact k H6 ns (qs ++ [.ref A]) (fun b o e n1 n2 n3 n4 => kp6 _ _ (kpE _ _ e n1 n2) n4) (by omega) (by rw [List.length_append]; exact Nat.le_refl _) ⟨kp6 _ _ hp5.px (ne_of hp5.px hp5.hm1 (by intro z; cases z)), kp6 _ _ hp5.hla hp5.n1.1, kp6 _ _ hp5.hlf (ne_of hp5.hlf hp5.hm1 (by intro z; cases z)), kp6 _ _ hp5.hdd (ne_of hp5.hdd hp5.hm1 (by intro z; cases z)), kp6 _ _ hp5.hls hp5.n2.2.2, ⟨d0, v0, kp6 _ _ hs50 (ne_of hs50 hp5.hm1 (by intro z; cases z))⟩, ⟨d1, v1, kp6 _ _ hs5 (ne_of hs5 hp5.hm1 (by intro z; cases z))⟩, kp6 _ _ hp5.hm0 hp5.n1.2.2, hm6, hp5.n1, hp5.n2, hp5.n4⟩
end
end K01

namespace K01
open PySem L2 PyProof.Rows
/-! ### add_to, add_argument -/
structure AddArg (CP CS : Addr) (H : Hp) (a : PAd) (fa o : Addr) (as ns ms : List V) (rk gs fl : List Str) (rest : List (Key × V)) (r : Str) (d act : Option Str) (n : Option V) : Prop where
  par : ParAt CP CS a H rest as ns ms
  rk_ : rest.map (·.1) = rk.map Sum.inr
  fa_ : H fa = some (.lst (gs.map V.str))
  nm : Named gs fl d r
  nd : fl.Nodup
  opt : OpAt H o d act n
  hact : fl = [] → act = none
  dis : ∀ x ∈ fl, x ∉ rk
  l1 : as.length ≤ 100
  l2 : ns.length ≤ 100
  l3 : ms.length ≤ 100
  l4 : rk.length ≤ 100
structure Added (CP CS : Addr) (H H' : Hp) (a : PAd) (A : Addr) (as ns ms : List V) (fl : List Str) (rest : List (Key × V)) : Prop where
  kp : ∀ b o, H b = some o → b ≠ a.la → b ≠ a.lf → b ≠ a.m0 → b ≠ a.m1 → H' b = some o
  par : ∃ ns' ms', ns'.length ≤ ns.length + 1 ∧ ms'.length ≤ ms.length + 1 ∧ ParAt CP CS a H' (rest ++ fl.map (kO A)) (as ++ [.ref A]) ns' ms'
def spAddTo (CP CS : Addr) : Sp := fun vs H Q _ => ∃ (a : PAd) (fa o : Addr) (as ns ms : List V) (rk gs fl : List Str) (rest : List (Key × V)) (r : Str) (d act : Option Str) (n : Option V), vs = [.ref a.p, .non, .non, .ref fa, .ref o] ∧ AddArg CP CS H a fa o as ns ms rk gs fl rest r d act n ∧
  ∀ (A : Addr) (H' : Hp), Added CP CS H H' a A as ns ms fl rest → Q (.ref A) H'
def spAdd (CP CS : Addr) : Sp := fun vs H Q _ => ∃ (a : PAd) (fa o : Addr) (as ns ms : List V) (rk gs fl : List Str) (rest : List (Key × V)) (r : Str) (d act : Option Str) (n : Option V), vs = [.ref a.p, .ref fa, .ref o] ∧ AddArg CP CS H a fa o as ns ms rk gs fl rest r d act n ∧
  ∀ (A : Addr) (H' : Hp), Added CP CS H H' a A as ns ms fl rest → Q (.ref A) H'
section
variable {P : Program} {w : World} {K : PySem.W.Frag} {mg : Str → Option Value} {base : Heap}
abbrev nAddTo : List Str := ["self", "section", "exclusive", "flags", "options", "argument"]
theorem scAddTo : FnScope nAddTo ["self", "section", "exclusive", "flags", "options"] (defScope sAddTo) := ⟨rfl, rfl, rfl, by decide +kernel, rfl, by decide +kernel, by decide +kernel⟩
theorem ok_addTo {f fM fJ CP CS CA : Addr} {fd fdM fdJ : FuncData} (F : Fun K "add_to" "Parser.add_to" sAddTo f fd) (cP : ClsN K CP parF) (M : At P w K mg base "made_argument" 4 ["flags", "given", "parser", "is_exclusive"] (spMade CA CP) fM fdM)
    (GJ : FnOk P w K mg base CX0 2 fJ fdJ ["self", "argument", "section", "exclusive"] (spJoin CP CS CA)) (mJ : Meth K CP "join" fJ) (bJ : Binds K fdJ ["self", "argument", "section", "exclusive"] []) : FnOk P w K mg base CX0 5 f fd ["self", "section", "exclusive", "flags", "options"] (spAddTo CP CS) := by
  refine F.ok scAddTo (fun vs H Q E h => ?_) (fun cdv A0 outer s H vs Q E hr h => ?_)
  · obtain ⟨a, fa, o, as, ns, ms, rk, gs, fl, rest, r, d, act, n, rfl, _⟩ := h
    rfl
  · obtain ⟨a, fa, o, as, ns, ms, rk, gs, fl, rest, r, d, act, n, rfl, g, k⟩ := h
    have r2 : Room 2 (A0.deeper (PyProof.Rows.envOfC "Parser.add_to" (defScope sAddTo) s.heap.objs.size f cdv)) := hr.mono (by decide)
    refine ⟨_, pss_cons (ps_set (i := 5) scAddTo.nd rfl (Or.inl rfl) (pe_call M.ok hr rfl M.m M.k M.b .nil pass0 (pa_cons (pv 3) (pa_cons (pv 4) (pa_cons (pv 0) (pa_cons (pe_cmp (pc_notN (pv 2)) rfl) pa_nil))))))
      (pss_cons (ps_expr (pe_meth (pv 0) cP.cl mJ GJ r2 bJ .nil pass0 (pa_cons (pv 5) (pa_cons (pv 1) (pa_cons (pv 2) pa_nil))))) (pss_one (ps_ret (pv 5)))), ?_⟩
    refine ⟨_, rfl, _, rfl, _, rfl, _, rfl, fa, o, a.p, a.dd, gs, fl, r, d, act, n, rfl, g.fa_, g.nm, g.nd, g.opt, g.hact, ⟨⟨_, _, g.par.px, rfl, rfl, rfl⟩, g.par.hdd⟩, fun A dA T H1 nA nT m => ?_⟩
    obtain ⟨nn, co, de, ki, ch, re, he, me, ve, cm, fe, _, hA⟩ := m.ex
    have p1 := g.par.keep m.same
    refine ⟨_, rfl, a.p, a.dx, _, rfl, p1.px, rfl, _, rfl, _, rfl, _, rfl, a, A, as, ns, ms, rk, rest, dA, T, _, fl, rfl, p1, g.rk_, hA, rfl, rfl, m.tt, g.nm.fls, g.nd, g.dis, g.l1, g.l2, g.l3, g.l4, fun H2 ns' ms' kp2 q1 q2 p2 => ⟨_, rfl, k A H2 ⟨fun b o e n1 n2 n3 n4 => kp2 _ _ (m.same _ _ e) n1 n2 n3 n4, ns', ms', q1, q2, p2⟩⟩⟩
theorem scAdd : FnScope ["self", "flags", "options"] ["self", "flags", "options"] (defScope sAdd) := ⟨rfl, rfl, rfl, by decide +kernel, rfl, by decide +kernel, by decide +kernel⟩
theorem ok_add {dvs : List V} {kws : List (Str × V)} {f fT CP CS : Addr} {fd fdT : FuncData} (F : FunD K "add_argument" "Parser.add_argument" (defArgs sAdd) (defBody sAdd) (defScope sAdd) dvs kws f fd) (cP : ClsN K CP parF)
    (GT : FnOk P w K mg base CX0 5 fT fdT ["self", "section", "exclusive", "flags", "options"] (spAddTo CP CS)) (mT : Meth K CP "add_to" fT) (bT : Binds K fdT ["self", "section", "exclusive", "flags", "options"] []) : FnOk P w K mg base CX0 6 f fd ["self", "flags", "options"] (spAdd CP CS) := by
  refine F.ok scAdd (fun vs H Q E h => ?_) (fun cdv A0 outer s H vs Q E hr h => ?_)
  · obtain ⟨a, fa, o, as, ns, ms, rk, gs, fl, rest, r, d, act, n, rfl, _⟩ := h
    rfl
  · obtain ⟨a, fa, o, as, ns, ms, rk, gs, fl, rest, r, d, act, n, rfl, g, k⟩ := h
    refine ⟨_, PSs.nox (pss_one (ps_ret (pe_meth (pv 0) cP.cl mT GT hr bT .nil pass0 (pa_cons pe_non (pa_cons pe_non (pa_cons (pv 1) (pa_cons (pv 2) pa_nil))))))), ?_⟩
    exact ⟨_, rfl, a.p, a.dx, _, rfl, g.par.px, rfl, _, rfl, _, rfl, a, fa, o, as, ns, ms, rk, gs, fl, rest, r, d, act, n, rfl, g, k⟩
end
/-! ### putting the options and positionals into a parser -/
structure Opt where
  fl : List Str
  d : Str
  nv : V
  act : Str
def nOf (v : V) : Option V := if v = .non ∨ v = .int 0 then none else some v
theorem kinds_ok : ∀ p ∈ kinds, p.2 ∈ acts ∧ (nOf p.1 = none ∨ (nOf p.1 = some p.1 ∧ p.1 ∈ [V.str "?", V.str "*", V.str "+", V.str "...", V.int 1, V.int 2] ∧ p.2 ∈ (["store", "append"] : List Str))) ∧ (nOf p.1 = none ↔ (p.1 = .non ∨ p.1 = .int 0)) ∧ scal p.1 (.int 0) = true := by
  decide +kernel
structure OT (H : Hp) (v : V) (o : Opt) : Prop where
  ex : ∃ t ft, v = .ref t ∧ H t = some (.tup [.ref ft, .str o.d, o.nv, .str o.act]) ∧ H ft = some (.tup (o.fl.map V.str))
  okf : okF o.fl
  d0 : o.d ≠ ""
  dk : PyData.strOk o.d = true
  kd : (o.nv, o.act) ∈ kinds
theorem OT.keep {H H' : Hp} {v : V} {o : Opt} (h : OT H v o) (e : ∀ b u, (∃ xs, u = HO.tup xs) → H b = some u → H' b = some u) : OT H' v o := by
  obtain ⟨t, ft, e1, e2, e3⟩ := h.ex
  exact ⟨⟨t, ft, e1, e _ _ ⟨_, rfl⟩ e2, e _ _ ⟨_, rfl⟩ e3⟩, h.okf, h.d0, h.dk, h.kd⟩
structure OTs (H : Hp) (vs : List V) (os : List Opt) : Prop where
  len : vs.length = os.length
  at_ : ∀ (i : Nat) (o : Opt), os[i]? = some o → ∃ v, vs[i]? = some v ∧ OT H v o
theorem OTs.keep {H H' : Hp} {vs : List V} {os : List Opt} (h : OTs H vs os) (e : ∀ b u, (∃ xs, u = HO.tup xs) → H b = some u → H' b = some u) : OTs H' vs os := ⟨h.len, fun i o q => by
  obtain ⟨v, hv, k⟩ := h.at_ i o q
  exact ⟨v, hv, k.keep e⟩⟩
theorem OTs.tups {H : Hp} {vs : List V} {os : List Opt} (h : OTs H vs os) : OTups H vs (os.map (·.fl)) := ⟨by rw [h.len, List.length_map], fun i fl q => by
  rw [List.getElem?_map] at q
  cases e : os[i]? with
  | none =>
    rw [e] at q
    cases q
  | some o =>
    rw [e] at q
    cases Option.some.inj (show some o.fl = some fl from q)
    obtain ⟨v, hv, k⟩ := h.at_ i o e
    obtain ⟨t, ft, e1, e2, e3⟩ := k.ex
    exact ⟨v, hv, t, ft, _, e1, e2, e3⟩⟩
def flsOf (os : List Opt) : List Str := (os.map (·.fl)).flatten
theorem flsOf_more {os : List Opt} {i : Nat} {o : Opt} (h : os[i]? = some o) : flsOf (os.take (i + 1)) = flsOf (os.take i) ++ o.fl := by
  unfold flsOf
  rw [take_more' h, List.map_append, List.flatten_append]
  simp
theorem flsOf_split (os : List Opt) (i : Nat) : flsOf os = flsOf (os.take i) ++ flsOf (os.drop i) := by
  unfold flsOf
  rw [← List.flatten_append, ← List.map_append, List.take_append_drop]
/-- a positional as the law keeps it -/
def posN : List V := [.non, .str "?", .str "*", .str "+", .int 1, .int 2]
structure PT1 (H : Hp) (v : V) (p : Str × V) : Prop where
  ex : ∃ t, v = .ref t ∧ H t = some (.tup [.str p.1, p.2])
  g : p.1 ∈ goals
  n : p.2 ∈ posN
structure PTs (H : Hp) (vs : List V) (ps : List (Str × V)) : Prop where
  len : vs.length = ps.length
  at_ : ∀ (i : Nat) (p : Str × V), ps[i]? = some p → ∃ v, vs[i]? = some v ∧ PT1 H v p
theorem PTs.keep {H H' : Hp} {vs : List V} {ps : List (Str × V)} (h : PTs H vs ps) (e : ∀ b u, (∃ xs, u = HO.tup xs) → H b = some u → H' b = some u) : PTs H' vs ps := ⟨h.len, fun i p q => by
  obtain ⟨v, hv, k⟩ := h.at_ i p q
  obtain ⟨t, e1, e2⟩ := k.ex
  exact ⟨v, hv, ⟨t, e1, e _ _ ⟨_, rfl⟩ e2⟩, k.g, k.n⟩⟩
theorem posN_ok : ∀ v ∈ posN, (decide (v = .non) = true → nOf v = none) ∧ (decide (v = .non) = false → nOf v = some v ∧ v ∈ [V.str "?", V.str "*", V.str "+", V.str "...", V.int 1, V.int 2]) := by decide +kernel
/-- a parser behind some adds -/
structure PutAt (CP CS : Addr) (H H' : Hp) (a : PAd) (fs : List Str) (n : Nat) : Prop where
  kp : ∀ b o, H b = some o → b ≠ a.la → b ≠ a.lf → b ≠ a.m0 → b ≠ a.m1 → H' b = some o
  par : ∃ (rest : List (Key × V)) (as ns ms : List V), ParAt CP CS a H' rest as ns ms ∧ rest.map (·.1) = fs.map Sum.inr ∧ as.length ≤ n ∧ ns.length ≤ n ∧ ms.length ≤ n
structure PutPre (CP CS : Addr) (H : Hp) (a : PAd) (m fi lo lp : Addr) (ab : V) (vs ws : List V) (os : List Opt) (ps : List (Str × V)) : Prop where
  m_ : H m = some (.dK (mK ab fi lo lp))
  lo_ : H lo = some (.lst vs)
  lp_ : H lp = some (.lst ws)
  ot : OTs H vs os
  pt : PTs H ws ps
  n1 : m ≠ a.lf
  n2 : lo ≠ a.la ∧ lo ≠ a.m0 ∧ lo ≠ a.m1
  n3 : lp ≠ a.la ∧ lp ≠ a.m0 ∧ lp ≠ a.m1
  nd : (flsOf os).Nodup
  sz : (flsOf os).length ≤ 20
  sz2 : os.length ≤ 10
  sz3 : ps.length ≤ 10
def spPutO (CP CS : Addr) : Sp := fun vs H Q _ => ∃ (a : PAd) (m fi lo lp : Addr) (ab : V) (xs ws : List V) (os : List Opt) (ps : List (Str × V)), vs = [.ref a.p, .ref m] ∧ PutPre CP CS H a m fi lo lp ab xs ws os ps ∧ PutAt CP CS H H a [] 0 ∧
  ∀ (v : V) (H' : Hp), PutAt CP CS H H' a (flsOf os) 10 → Q v H'
def spPut (CP CS : Addr) : Sp := fun vs H Q _ => ∃ (a : PAd) (m fi lo lp : Addr) (ab : V) (xs ws : List V) (os : List Opt) (ps : List (Str × V)), vs = [.ref a.p, .ref m] ∧ PutPre CP CS H a m fi lo lp ab xs ws os ps ∧ PutAt CP CS H H a [] 0 ∧
  ∀ (H' : Hp), PutAt CP CS H H' a (flsOf os) 20 → Q (.ref a.p) H'
section
variable {P : Program} {w : World} {K : PySem.W.Frag} {mg : Str → Option Value} {base : Heap}
theorem PutAt.keepT {CP CS : Addr} {H H' : Hp} {a : PAd} {fs : List Str} {n : Nat} {k0 : List (Key × V)} {as0 ns0 ms0 : List V} (q : PutAt CP CS H H' a fs n) (p0 : ParAt CP CS a H k0 as0 ns0 ms0) : ∀ b u, (∃ xs, u = HO.tup xs) → H b = some u → H' b = some u := by
  rintro b _ ⟨xs, rfl⟩ hb
  exact q.kp b _ hb (ne_of hb p0.hla (by intro z; cases z)) (ne_of hb p0.hlf (by intro z; cases z)) (ne_of hb p0.hm0 (by intro z; cases z)) (ne_of hb p0.hm1 (by intro z; cases z))
abbrev nPO : List Str := ["_law_parser", "_law_m", "_law_flags", "_law_goal", "_law_nargs", "_law_action", "_law_options"]
theorem scPO : FnScope nPO ["_law_parser", "_law_m"] (defScope sPutO) := ⟨rfl, rfl, rfl, by decide +kernel, rfl, by decide +kernel, by decide +kernel⟩
theorem ok_putO {f fA CP CS : Addr} {fd fdA : FuncData} (F : Fun K "_law_r_put_options" "_law_r_put_options" sPutO f fd) (T : TxtB mg) (cP : ClsN K CP parF)
    (GA : FnOk P w K mg base CX0 6 fA fdA ["self", "flags", "options"] (spAdd CP CS)) (mA : Meth K CP "add_argument" fA) (bA : Binds K fdA ["self", "flags", "options"] []) : FnOk P w K mg base CX0 7 f fd ["_law_parser", "_law_m"] (spPutO CP CS) := by
  refine F.ok scPO (fun vs H Q E h => ?_) (fun cdv A0 outer s H vs Q E hr h => ?_)
  · obtain ⟨a, m, fi, lo, lp, ab, ws, ys, os, ps, rfl, _⟩ := h
    rfl
  · obtain ⟨a, m, fi, lo, lp, ab, ws, ys, os, ps, rfl, g, pre, k⟩ := h
    have hu1 := hu_of hr
    refine ⟨_, pss_one (ps_for PassesOwn.never rfl (pi_list (pe_dget hu1 (pv 1) pe_str (fun _ _ => rfl))) (pg_tup rfl (pgs_cons (pg_name (i := 2) scPO.nd rfl (Or.inl rfl)) (pgs_cons (pg_name (i := 3) scPO.nd rfl (Or.inl rfl)) (pgs_cons (pg_name (i := 4) scPO.nd rfl (Or.inl rfl)) (pgs_cons (pg_name (i := 5) scPO.nd rfl (Or.inl rfl)) pgs_nil)))))
      (pss_mid (ps_set (i := 6) scPO.nd rfl (Or.inl rfl) (pe_disp (pps_cons pe_str (pv 3) (pps_cons pe_str (pv 5) pps_nil)) (by rfl) (by rfl) (fun z => by cases z) (by decide)))
      (pss_mid (ps_if (PW.pt (pw_and (pt_cmp (pc_notN (pv 4))) (pw_and1 (pt_cmpR op_ne (pv 4) pe_int (nomark _))))) (pss_one (ps_dput hu1 (pv 6) pe_str (pv 4) rfl)) pss_nil)
      (pss_one (ps_expr (pe_meth (pv 0) cP.cl mA GA hr bA .nil pass0 (pa_cons (pe_callTy call_list_of (by rfl) T.list (by decide +kernel) (pa_cons (pv 2) pa_nil)) (pa_cons (pv 6) pa_nil)))))))), ?_⟩
    obtain ⟨rest0, as0, ns0, ms0, p0, _⟩ := pre.par
    have keepLo : ∀ {H' fs n}, PutAt CP CS H H' a fs n → H' lo = some (.lst ws) := fun q => q.kp _ _ g.lo_ g.n2.1 (ne_of g.lo_ p0.hlf (by intro z; cases z)) g.n2.2.1 g.n2.2.2
    obtain ⟨v1, v2, v3, v4⟩ := mK_get ab fi lo lp
    refine ⟨_, rfl, m, _, rfl, DGet.k (k := (Sum.inr "options" : Key)) g.m_, lo, rfl, ⟨_, SqL.of g.lo_⟩, ?_⟩
    refine for_list (K := K) (a := lo) (xs := ws) (fun i σ' H' => ∃ r2 r3 r4 r5 r6 : Option V, σ' = [some (.ref a.p), some (.ref m), r2, r3, r4, r5, r6] ∧ PutAt CP CS H H' a (flsOf (os.take i)) (0 + i)) ⟨none, none, none, none, none, rfl, pre⟩ ?_ ?_ ?_
    · rintro i σ' H' _ ⟨r2, r3, r4, r5, r6, _, q⟩
      exact SqL.of (keepLo q)
    · rintro i x σ' H' hx ⟨r2, r3, r4, r5, r6, rfl, q⟩
      have hi : i < os.length := by
        rw [← g.ot.len]
        exact (List.getElem?_eq_some_iff.mp hx).1
      obtain ⟨v, hv, ot⟩ := g.ot.at_ i _ (List.getElem?_eq_getElem hi)
      cases Option.some.inj (hv.symm.trans hx)
      generalize hoi : os[i] = o at ot
      have hoi' : os[i]? = some o := by rw [List.getElem?_eq_getElem hi, hoi]
      obtain ⟨t, ft, rfl, ht, hft⟩ := ot.ex
      obtain ⟨ko1, ko2, ko3, ko4⟩ := kinds_ok _ ot.kd
      have ht' := q.keepT p0 _ _ ⟨_, rfl⟩ ht
      have hft' := q.keepT p0 _ _ ⟨_, rfl⟩ hft
      refine ⟨t, _, rfl, SqT.of ht', rfl, _, _, rfl, _, _, rfl, _, _, rfl, _, _, rfl, rfl, ?_⟩
      -- options
      refine ⟨fun σ2 H2 => ∃ o6 : Addr, σ2 = [some (.ref a.p), some (.ref m), some (.ref ft), some (.str o.d), some o.nv, some (.str o.act), some (.ref o6)] ∧ Same H' H2 ∧ H' o6 = none ∧ H2 o6 = some (.dK (optK (some o.d) (some o.act) none)), ?_, ?_⟩
      · exact fun p hp => ⟨_, rfl, _, rfl, upd_same, optK (some o.d) (some o.act) none, rfl, (by show 2 ≤ 15; decide), p, rfl, same_mut (same_upd hp) hp, hp, upd_same⟩
      rintro _ H2 ⟨o6, rfl, e2, n6, h6⟩
      refine ⟨fun σ3 H3 => σ3 = [some (.ref a.p), some (.ref m), some (.ref ft), some (.str o.d), some o.nv, some (.str o.act), some (.ref o6)] ∧ Same H' H3 ∧ H3 o6 = some (.dK (optK (some o.d) (some o.act) (nOf o.nv))), ?_, ?_⟩
      · refine ⟨_, rfl, _, rfl, ?_⟩
        refine ite2 (fun c => ?_) (fun c => ?_)
        · refine ⟨_, rfl, ko4, _, rfl, ?_⟩
          refine ite2 (fun c2 => ?_) (fun c2 => ?_)
          · have en : nOf o.nv = some o.nv := by
              unfold nOf
              rw [if_neg]
              rintro (z | z)
              · rw [z] at c
                exact absurd c (by decide)
              · rw [z] at c2
                exact absurd c2 (by decide)
            refine ⟨_, rfl, _, rfl, o6, _, rfl, DPut.k (k := (Sum.inr "nargs" : Key)) h6 (by show 2 < sizeLine; decide), rfl, same_mut e2 n6, ?_⟩
            rw [upd_same, en]
            rfl
          · have en : nOf o.nv = none := ko3.mpr (.inr (by simpa using c2))
            rw [en]
            exact ⟨rfl, e2, h6⟩
        · have en : nOf o.nv = none := ko3.mpr (.inl (by simpa using c))
          rw [en]
          exact iteF ⟨rfl, e2, h6⟩
      rintro _ H3 ⟨rfl, e3, h63⟩
      obtain ⟨rest, as, ns, ms, par, rk, la1, ln1, lm1⟩ := q.par
      have hsp := flsOf_split os (i + 1)
      rw [flsOf_more hoi'] at hsp
      have hnd := g.nd
      rw [hsp] at hnd
      have hnd2 := (List.nodup_append.mp hnd).1
      have hnd3 := (List.nodup_append.mp hnd2).2.1
      have hsz := g.sz
      rw [hsp, List.length_append, List.length_append] at hsz
      have hs2 := g.sz2
      refine ⟨_, rfl, a.p, a.dx, _, rfl, e3 _ _ par.px, rfl, _, rfl, ft, _, rfl, .inr (SqT.of (e3 _ _ hft')), fun l hl => ?_⟩
      have eL := same_upd (o := .lst (o.fl.map V.str)) hl
      have e4 := e3.trans eL
      refine ⟨_, rfl, a, l, o6, as, ns, ms, flsOf (os.take i), o.fl, o.fl, rest, o.d, some o.d, some o.act, nOf o.nv, rfl, ⟨par.keep e4, rk, upd_same, .inl ⟨ot.okf, rfl, rfl, ot.d0⟩, hnd3, ⟨eL _ _ h63, ?_, ?_, ?_⟩, (fun z => absurd z ot.okf.1), ?_, by omega, by omega, by omega, by omega⟩, fun A H5 ad => ?_⟩
      · intro z hz
        cases hz
        exact ko1
      · rcases ko2 with h | ⟨h, h2, _⟩
        · rw [h]
          exact trivial
        · rw [h]
          exact h2
      · intro v hv
        rcases ko2 with h | ⟨h, _, h3⟩
        · rw [h] at hv
          cases hv
        · exact h3
      · intro x hx hx2
        exact (List.nodup_append.mp hnd2).2.2 x hx2 x hx rfl
      · obtain ⟨ns', ms', q1, q2, par5⟩ := ad.par
        refine ⟨_, _, _, _, _, rfl, fun b u hb n1 n2 n3 n4 => ad.kp _ _ (e4 _ _ (q.kp _ _ hb n1 n2 n3 n4)) n1 n2 n3 n4, rest ++ o.fl.map (kO A), as ++ [.ref A], ns', ms', par5, ?_, by rw [List.length_append]; show as.length + 1 ≤ _; omega, by omega, by omega⟩
        rw [List.map_append, rk, flsOf_more hoi', List.map_append, List.map_map]
        rfl
    · rintro σ' H' ⟨r2, r3, r4, r5, r6, rfl, q⟩
      rw [g.ot.len, List.take_length] at q
      obtain ⟨rest, as, ns, ms, par, rk, la1, ln1, lm1⟩ := q.par
      have hs2 := g.sz2
      exact k _ _ ⟨q.kp, rest, as, ns, ms, par, rk, by omega, by omega, by omega⟩
abbrev nPut : List Str := ["_law_parser", "_law_m", "_law_goal", "_law_nargs"]
theorem scPut : FnScope nPut ["_law_parser", "_law_m"] (defScope sPut) := ⟨rfl, rfl, rfl, by decide +kernel, rfl, by decide +kernel, by decide +kernel⟩
theorem ok_put {f fO fA CP CS : Addr} {fd fdO fdA : FuncData} (F : Fun K "_law_r_put" "_law_r_put" sPut f fd) (cP : ClsN K CP parF) (GA : FnOk P w K mg base CX0 6 fA fdA ["self", "flags", "options"] (spAdd CP CS)) (mA : Meth K CP "add_argument" fA) (bA : Binds K fdA ["self", "flags", "options"] []) (G : At P w K mg base "_law_r_put_options" 7 ["_law_parser", "_law_m"] (spPutO CP CS) fO fdO) : FnOk P w K mg base CX0 8 f fd ["_law_parser", "_law_m"] (spPut CP CS) := by
  refine F.ok scPut (fun vs H Q E h => ?_) (fun cdv A0 outer s H vs Q E hr h => ?_)
  · obtain ⟨a, m, fi, lo, lp, ab, ws, ys, os, ps, rfl, _⟩ := h
    rfl
  · obtain ⟨a, m, fi, lo, lp, ab, ws, ys, os, ps, rfl, g, pre, k⟩ := h
    have hu1 := hu_of hr
    have r6 : Room 6 (A0.deeper (PyProof.Rows.envOfC "_law_r_put" (defScope sPut) s.heap.objs.size f cdv)) := hr.mono (by decide)
    refine ⟨_, pss_cons (ps_expr (pe_call G.ok hr rfl G.m G.k G.b .nil pass0 (pa_cons (pv 0) (pa_cons (pv 1) pa_nil))))
      (pss_mid (ps_for PassesOwn.never rfl (pi_list (pe_dget hu1 (pv 1) pe_str (fun _ _ => rfl))) (pg_tup rfl (pgs_cons (pg_name (i := 2) scPut.nd rfl (Or.inl rfl)) (pgs_cons (pg_name (i := 3) scPut.nd rfl (Or.inl rfl)) pgs_nil)))
        (pss_one (ps_expr (pe_meth (pv 0) cP.cl mA GA r6 bA .nil pass0 (pa_cons (pe_lst (pa_cons (pv 2) pa_nil)) (pa_cons (pe_ifExp (pt_cmp (pc_notN (pv 3))) (pe_disp (pps_cons pe_str (pv 3) pps_nil) (by rfl) (by rfl) (fun z => by cases z) (by decide)) pe_dnewK) pa_nil))))))
      (pss_one (ps_ret (pv 0)))), ?_⟩
    obtain ⟨rest0, as0, ns0, ms0, p0, _⟩ := pre.par
    obtain ⟨v1, v2, v3, v4⟩ := mK_get ab fi lo lp
    refine ⟨_, rfl, _, rfl, a, m, fi, lo, lp, ab, ws, ys, os, ps, rfl, g, pre, fun v H1 q => ?_⟩
    have keepM : ∀ {H' fs n}, PutAt CP CS H H' a fs n → H' m = some (.dK (mK ab fi lo lp)) := fun q => q.kp _ _ g.m_ (ne_of g.m_ p0.hla (by intro z; cases z)) g.n1 (ne_of g.m_ p0.hm0 (by intro z; cases z)) (ne_of g.m_ p0.hm1 (by intro z; cases z))
    have keepL : ∀ {H' fs n}, PutAt CP CS H H' a fs n → H' lp = some (.lst ys) := fun q => q.kp _ _ g.lp_ g.n3.1 (ne_of g.lp_ p0.hlf (by intro z; cases z)) g.n3.2.1 g.n3.2.2
    refine ⟨fun σ' H' => ∃ r2 r3, σ' = [some (.ref a.p), some (.ref m), r2, r3] ∧ PutAt CP CS H H' a (flsOf os) 20, ?_, ?_⟩
    · refine ⟨_, rfl, m, _, rfl, DGet.k (k := (Sum.inr "positionals" : Key)) (keepM q), lp, rfl, ⟨_, SqL.of (keepL q)⟩, ?_⟩
      refine for_list (K := K) (a := lp) (xs := ys) (fun i σ' H' => ∃ r2 r3, σ' = [some (.ref a.p), some (.ref m), r2, r3] ∧ PutAt CP CS H H' a (flsOf os) (10 + i)) ⟨none, none, rfl, q⟩ ?_ ?_ ?_
      · rintro i σ' H' _ ⟨r2, r3, _, q⟩
        exact SqL.of (keepL q)
      · rintro i x σ' H' hx ⟨r2, r3, rfl, q⟩
        have hi : i < ps.length := by
          rw [← g.pt.len]
          exact (List.getElem?_eq_some_iff.mp hx).1
        obtain ⟨v, hv, pt⟩ := g.pt.at_ i _ (List.getElem?_eq_getElem hi)
        cases Option.some.inj (hv.symm.trans hx)
        generalize hpi : ps[i] = p at pt
        obtain ⟨t, rfl, ht⟩ := pt.ex
        have ht' := q.keepT p0 _ _ ⟨_, rfl⟩ ht
        obtain ⟨pn1, pn2⟩ := posN_ok _ pt.n
        obtain ⟨rest, as, ns, ms, par, rk, la1, ln1, lm1⟩ := q.par
        have hsz := g.sz
        have hs2 := g.sz2
        have hs3 := g.sz3
        refine ⟨t, _, rfl, SqT.of ht', rfl, _, _, rfl, _, _, rfl, rfl, ?_⟩
        refine ⟨_, rfl, a.p, a.dx, _, rfl, par.px, rfl, _, rfl, (by show 1 ≤ sizeLine; decide), fun l hl => ?_⟩
        have eL := same_upd (o := .lst [.str p.1]) hl
        have tL : upd H' l (.lst [.str p.1]) l = _ := upd_same
        generalize upd H' l (.lst [.str p.1]) = H2 at eL tL
        have add : ∀ (o6 : Addr) (H3 : Hp), Same H2 H3 → H3 o6 = some (.dK (optK none none (nOf p.2))) → spAdd CP CS [.ref a.p, .ref l, .ref o6] H3 (fun x H1 => ∃ r2 r3, ([some (.ref a.p), some (.ref m), some (.str p.1), some p.2] : L2.St) = [some (.ref a.p), some (.ref m), r2, r3] ∧ PutAt CP CS H H1 a (flsOf os) (10 + (i + 1))) E0 := fun o6 H3 e3 h6 => by
          have e4 := eL.trans e3
          refine ⟨a, l, o6, as, ns, ms, flsOf os, [p.1], [], rest, p.1, none, none, nOf p.2, rfl, ⟨par.keep e4, rk, e3 _ _ tL, .inr ⟨pt.g, rfl, rfl, rfl⟩, List.nodup_nil, ⟨h6, (fun s z => nomatch z), ?_, (fun v _ => by decide +kernel)⟩, (fun _ => rfl), (fun x z => nomatch z), by omega, by omega, by omega, by omega⟩, fun A H5 ad => ?_⟩
          · cases e : decide (p.2 = .non) with
            | true =>
              rw [pn1 e]
              exact trivial
            | false =>
              rw [(pn2 e).1]
              exact (pn2 e).2
          · obtain ⟨ns', ms', q1, q2, par5⟩ := ad.par
            rw [List.map_nil, List.append_nil] at par5
            exact ⟨_, _, rfl, fun b u hb n1 n2 n3 n4 => ad.kp _ _ (e4 _ _ (q.kp _ _ hb n1 n2 n3 n4)) n1 n2 n3 n4, rest, as ++ [.ref A], ns', ms', par5, rk, by rw [List.length_append]; show as.length + 1 ≤ _; omega, by omega, by omega⟩
        refine ⟨_, rfl, _, rfl, ?_⟩
        cases e : decide (p.2 = .non) with
        | true => exact iteF fun o6 h6 => add o6 _ (same_upd h6) (by rw [pn1 e]; exact upd_same)
        | false => exact iteT fun o6 h6 => ⟨_, rfl, upd_same, optK none none (some p.2), rfl, (by show 1 ≤ 15; decide), add o6 _ (same_mut (same_upd h6) h6) (by rw [(pn2 e).1]; exact upd_same)⟩
      · rintro σ' H' ⟨r2, r3, rfl, q⟩
        rw [g.pt.len] at q
        obtain ⟨rest, as, ns, ms, par, rk, la1, ln1, lm1⟩ := q.par
        have hs3 := g.sz3
        exact ⟨r2, r3, rfl, q.kp, rest, as, ns, ms, par, rk, by omega, by omega, by omega⟩
    rintro _ H2 ⟨r2, r3, rfl, q2⟩
    exact ⟨_, rfl, k _ q2⟩
end
end K01

namespace K01
open PySem L2 PyProof.Rows
/-! ### a parser made of a model -/
theorem nd_ne {α : Type} {l : List α} (h : l.Nodup) {i j : Nat} {x y : α} (hi : l[i]? = some x) (hj : l[j]? = some y) (hij : i ≠ j) : x ≠ y := by
  rintro rfl
  have a := (List.getElem?_eq_some_iff.mp hi)
  have b := (List.getElem?_eq_some_iff.mp hj)
  obtain ⟨hi', ei⟩ := a
  obtain ⟨hj', ej⟩ := b
  exact hij ((List.getElem_inj h).mp (ei.trans ej.symm))
structure ModelAt (H : Hp) (m fi lo lp : Addr) (ab : Bool) (vs ws : List V) (os : List Opt) (ps : List (Str × V)) : Prop where
  m_ : H m = some (.dK (mK (.bl ab) fi lo lp))
  lo_ : H lo = some (.lst vs)
  lp_ : H lp = some (.lst ws)
  ot : OTs H vs os
  pt : PTs H ws ps
  nd : (flsOf os).Nodup
  sz : (flsOf os).length ≤ 20
  sz2 : os.length ≤ 10
  sz3 : ps.length ≤ 10
def spMadeP (CP CS : Addr) : Sp := fun vs H Q _ => ∃ (m fi lo lp : Addr) (ab : Bool) (xs ws : List V) (os : List Opt) (ps : List (Str × V)), vs = [.ref m] ∧ ModelAt H m fi lo lp ab xs ws os ps ∧
  ∀ (a : PAd) (H' : Hp) (kvs : List (Key × V)) (as ns ms : List V), Same H H' → ParAt CP CS a H' kvs as ns ms → kvs.map (·.1) = (flsOf os).map Sum.inr → a.ab = ab → Q (.ref a.p) H'
section
variable {P : Program} {w : World} {K : PySem.W.Frag} {mg : Str → Option Value} {base : Heap}
theorem scRM2 : FnScope ["_law_m", "_law_parser"] ["_law_m"] (defScope sRMade) := ⟨rfl, rfl, rfl, by decide +kernel, rfl, by decide +kernel, by decide +kernel⟩
theorem ok_rmade {f fP fU CP CS aP aL : Addr} {fd fdP fdU : FuncData} {g : List Value → List Value → List Value} {gV : List V → List V → List V} (F : Fun K "_law_r_made" "_law_r_made" sRMade f fd) (mP : mg "Parser" = some (.ref CP)) (MP : Mk K CP fP) (GP : FnOk P w K mg base CX0 4 fP fdP pParI (spParI CP CS aP aL)) (kb : KBn K fdP pParI 2 ["add_help", "exit_on_error", "prefix_chars", "allow_abbrev"] g gV)
    (hg : ∀ x p v1 v2 v3 v4, gV [x, p] [v1, v2, v3, v4] = [x, p, .non, .non, .non, .ref aP, .ref aL, .int 78, v3, .str "", .non, .non, .str "error", v1, v4, v2]) (Pu : At P w K mg base "_law_r_put" 8 ["_law_parser", "_law_m"] (spPut CP CS) fU fdU) : FnOk P w K mg base CX0 9 f fd ["_law_m"] (spMadeP CP CS) := by
  refine F.ok scRM2 (fun vs H Q E h => ?_) (fun cdv A0 outer s H vs Q E hr h => ?_)
  · obtain ⟨m, fi, lo, lp, ab, xs, ws, os, ps, rfl, _⟩ := h
    rfl
  · obtain ⟨m, fi, lo, lp, ab, xs, ws, os, ps, rfl, M, k⟩ := h
    have hu1 := hu_of hr
    have r5' : Room 5 (A0.deeper (PyProof.Rows.envOfC "_law_r_made" (defScope sRMade) s.heap.objs.size f cdv)) := hr.mono (by decide)
    refine ⟨_, pss_mid (ps_set (i := 1) scRM2.nd rfl (Or.inl rfl) (pe_makeK MP GP r5' rfl mP kb pass0 (pa_cons pe_str pa_nil) (pk_cons pe_bl (pk_cons pe_bl (pk_cons (pe_dget hu1 (pv 0) pe_str (fun _ _ => rfl)) (pk_cons (pe_dget hu1 (pv 0) pe_str (fun _ _ => rfl)) pk_nil))))))
      (pss_one (ps_ret (pe_call Pu.ok hr rfl Pu.m Pu.k Pu.b .nil pass0 (pa_cons (pv 1) (pa_cons (pv 0) pa_nil))))), ?_⟩
    obtain ⟨v1, v2, v3, v4⟩ := mK_get (.bl ab) fi lo lp
    refine ⟨fun σ' H' => ∃ a : PAd, σ' = [some (.ref m), some (.ref a.p)] ∧ Same H H' ∧ ParAt CP CS a H' [] [] [] [] ∧ a.ab = ab ∧ ∀ b o, H b = some o → b ≠ a.la ∧ b ≠ a.lf ∧ b ≠ a.m0 ∧ b ≠ a.m1, ?_, ?_⟩
    · refine ⟨_, rfl, m, _, rfl, DGet.k (k := (Sum.inr "prefix" : Key)) M.m_, _, rfl, m, _, rfl, DGet.k (k := (Sum.inr "abbrev" : Key)) M.m_, rfl, rfl, fun x dx hx hdx ne => ?_⟩
      rw [hg]
      refine ⟨x, dx, "p", "error", ab, rfl, upd_same, .inl rfl, fun la lf le dd ls s0 s1 m0 m1 H' N => ⟨rfl, ?_⟩⟩
      have e1 : Same H (upd (upd H dx (.own x)) x (.ins CP dx [])) := same_upd2 (same_upd hdx) (by rw [upd_ne ne.symm]; exact hx)
      have e2 : Same H H' := fun b o e => N.kp b o (e1 _ _ e) (ne_of_none e hx)
      obtain ⟨fi', px⟩ := N.px
      have nd := N.nw.nd
      refine ⟨⟨x, dx, la, lf, le, dd, ls, s0, s1, m0, m1, aL, fi', ab⟩, rfl, e2, ⟨px, N.h_la, N.h_lf, N.h_dd, N.h_ls, N.h_s0, N.h_s1, N.h_m0, N.h_m1, ⟨nd_ne nd (i := 8) (j := 1) rfl rfl (by decide), nd_ne nd (i := 8) (j := 3) rfl rfl (by decide), nd_ne nd (i := 3) (j := 1) rfl rfl (by decide)⟩, ⟨nd_ne nd (i := 0) (j := 8) rfl rfl (by decide), nd_ne nd (i := 0) (j := 3) rfl rfl (by decide), nd_ne nd (i := 0) (j := 1) rfl rfl (by decide)⟩, nd_ne nd (i := 7) (j := 5) rfl rfl (by decide)⟩, rfl, fun b o e => ?_⟩
      have q : ∀ y, y ∈ [ls, m1, s1, m0, s0, dd, le, lf, la] → b ≠ y := fun y hy => by
        have := (N.nw.new y hy).1
        exact ne_of_none (e1 _ _ e) this
      exact ⟨q la (by simp), q lf (by simp), q m0 (by simp), q m1 (by simp)⟩
    rintro _ H1 ⟨a, rfl, e1, par, eab, ap⟩
    refine ⟨_, rfl, _, rfl, a, m, fi, lo, lp, _, xs, ws, os, ps, rfl, ⟨e1 _ _ M.m_, e1 _ _ M.lo_, e1 _ _ M.lp_, M.ot.keep fun b u _ e => e1 _ _ e, M.pt.keep fun b u _ e => e1 _ _ e, (ap _ _ M.m_).2.1, ⟨(ap _ _ M.lo_).1, (ap _ _ M.lo_).2.2.1, (ap _ _ M.lo_).2.2.2⟩, ⟨(ap _ _ M.lp_).1, (ap _ _ M.lp_).2.2.1, (ap _ _ M.lp_).2.2.2⟩, M.nd, M.sz, M.sz2, M.sz3⟩, ⟨fun b o e _ _ _ _ => e, [], [], [], [], par, rfl, Nat.le_refl _, Nat.le_refl _, Nat.le_refl _⟩, fun H2 q => ?_⟩
    obtain ⟨rest, as, ns, ms, par2, rk, _⟩ := q.par
    exact k a H2 rest as ns ms (fun b o e => q.kp _ _ (e1 _ _ e) (ap _ _ e).1 (ap _ _ e).2.1 (ap _ _ e).2.2.1 (ap _ _ e).2.2.2) par2 rk eab
end
end K01

namespace K01
open PySem L2 PyProof PyProof.Rows TL
/-! ### numbers below nought, by two ways -/
def dig (c : Nat) : Bool := decide (c ∈ ("0123456789" : Str).cps.toList)
def allD (x : Str) : Bool := x.cps.toList.all dig
def areD (x : Str) : Bool := !decide (x = "") && allD x
def tailOf (w : Str) : Str := cutS w (some 1) none
def headOf (w : Str) : Str := cutS w none (some 1)
def isNumP (w : Str) : Bool := if headOf w = "-" then (if (Txt.partition (tailOf w) ".").2.1 = "" then areD (Txt.partition (tailOf w) ".").1 else areD (Txt.partition (tailOf w) ".").2.2 && (decide ((Txt.partition (tailOf w) ".").1 = "") || areD (Txt.partition (tailOf w) ".").1)) else false
def isNumR (w : Str) : Bool := if headOf w ≠ "-" ∨ 2 < (Txt.split (tailOf w) ".").length ∨ (Txt.split (tailOf w) ".").getLast? = some "" then false else allD (Txt.join "" (Txt.split (tailOf w) "."))
theorem partsL : ∀ l : List Nat, ∃ ps : List (List Nat), ps ≠ [] ∧ (∀ p ∈ ps, 46 ∉ p) ∧ joinL [46] ps = l
  | [] => ⟨[[]], (fun z => nomatch z), (fun p hp => by rw [List.mem_singleton.mp hp]; exact List.not_mem_nil), rfl⟩
  | c :: l => by
    obtain ⟨ps, h1, h2, h3⟩ := partsL l
    cases ps with
    | nil => exact absurd rfl h1
    | cons p r =>
      by_cases e : c = 46
      · subst e
        refine ⟨[] :: p :: r, (fun z => nomatch z), fun q hq => ?_, ?_⟩
        · rcases List.mem_cons.mp hq with rfl | hq
          · exact List.not_mem_nil
          · exact h2 q hq
        · show [] ++ ([46] ++ joinL [46] (p :: r)) = _
          rw [h3]
          rfl
      · refine ⟨(c :: p) :: r, (fun z => nomatch z), fun q hq => ?_, ?_⟩
        · rcases List.mem_cons.mp hq with rfl | hq
          · intro z
            rcases List.mem_cons.mp z with z | z
            · exact e z.symm
            · exact h2 p List.mem_cons_self z
          · exact h2 q (List.mem_cons_of_mem _ hq)
        · rw [← h3]
          cases r <;> rfl
theorem tl_dot : tl ("." : Str) = 46 :: [] := by decide
theorem partsS (t : Str) : ∃ ps : List Str, ps ≠ [] ∧ (∀ p ∈ ps, 46 ∉ tl p) ∧ Txt.join "." ps = t := by
  obtain ⟨ps, h1, h2, h3⟩ := partsL (tl t)
  refine ⟨ps.map fun l => ⟨l.toArray⟩, fun z => h1 (List.map_eq_nil_iff.mp z), fun p hp => ?_, ?_⟩
  · obtain ⟨l, hl, rfl⟩ := List.mem_map.mp hp
    exact h2 l hl
  · apply ext_tl
    rw [join_eq, tl_join, tl_dot, List.map_map, ← h3]
    congr 1
    have : (tl ∘ fun l : List Nat => (⟨l.toArray⟩ : Str)) = id := rfl
    rw [this, List.map_id]
theorem allD_app (a b : Str) : allD (a ++ b) = (allD a && allD b) := by
  unfold allD
  have h : (a ++ b).cps.toList = a.cps.toList ++ b.cps.toList := tl_append a b
  rw [h, List.all_append]
theorem allD_nil : allD "" = true := by decide
theorem areD_dot {x y : Str} : areD (x ++ "." ++ y) = false := by
  unfold areD
  rw [allD_app, allD_app]
  have : allD "." = false := by decide +kernel
  rw [this]
  simp
theorem num_eq (w : Str) : isNumP w = isNumR w := by
  unfold isNumP isNumR
  by_cases hc : headOf w = "-"
  · rw [if_pos hc]
    obtain ⟨ps, h1, h2, h3⟩ := partsS (tailOf w)
    have hs := split_join (y := ".") tl_dot (by decide +kernel) h1 h2
    rw [h3] at hs
    rw [hs]
    have hE : (Str.empty : Str) = "" := by decide
    cases ps with
    | nil => exact absurd rfl h1
    | cons p r =>
      cases r with
      | nil =>
        have e1 : tailOf w = p := by rw [← h3, join_eq]; rfl
        rw [e1, partition_none tl_dot (h2 p List.mem_cons_self)]
        have e2 : Txt.join "" [p] = p := by rw [join_eq]; rfl
        rw [if_pos hE, e2]
        unfold areD
        by_cases hp : p = ""
        · rw [if_pos (.inr (.inr (by rw [hp]; rfl))), hp]
          rfl
        · rw [if_neg, decide_eq_false hp]
          · rfl
          · rintro (z | z | z)
            · exact z hc
            · exact absurd z (by show ¬ 2 < 1; decide)
            · exact hp (Option.some.inj z)
      | cons q r =>
        have e1 : tailOf w = p ++ "." ++ Txt.join "." (q :: r) := by rw [← h3, join_eq, join_eq]; rfl
        rw [e1, partition_app tl_dot (h2 p List.mem_cons_self)]
        rw [if_neg (show ¬ ("." : Str) = "" by decide)]
        cases r with
        | nil =>
          have e2 : Txt.join "" [p, q] = p ++ "" ++ q := by rw [join_eq]; rfl
          have e3 : Txt.join "." [q] = q := by rw [join_eq]; rfl
          rw [e2, e3]
          show (areD q && (decide (p = "") || areD p)) = _
          by_cases hq : q = ""
          · rw [if_pos (.inr (.inr (by rw [hq]; rfl))), hq]
            rfl
          · rw [if_neg]
            · rw [allD_app, allD_app, allD_nil, Bool.and_true]
              unfold areD
              rw [decide_eq_false hq]
              by_cases hp : p = ""
              · rw [hp, allD_nil]
                simp
              · rw [decide_eq_false hp]
                simp [Bool.and_comm]
            · rintro (z | z | z)
              · exact z hc
              · exact absurd z (by show ¬ 2 < 2; decide)
              · exact hq (Option.some.inj z)
        | cons q2 r =>
          have e2 : Txt.join "." (q :: q2 :: r) = q ++ "." ++ Txt.join "." (q2 :: r) := by rw [join_eq, join_eq]; rfl
          rw [if_pos (.inr (.inl (by show 2 < r.length + 3; omega)))]
          show (areD (Txt.join "." (q :: q2 :: r)) && _) = false
          rw [e2, areD_dot, Bool.false_and]
  · rw [if_neg hc, if_pos (.inl hc)]
end K01

/-! xs[::-1] of a list; a text in place -/
namespace XR
open PySem PySem.Spec PyProof.Rows L2
def tRevL (K : PySem.W.Frag) (te : TE) (tk : TO) : TE := fun σ H Q => te σ H fun x H1 => tk σ H1 fun o H2 => o = some (-1) ∧ ∃ a xs, x = .ref a ∧ SqL K H2 a xs ∧ ∀ p, H2 p = none → Q (.ref p) (upd H2 p (.lst xs.reverse))
theorem vals_reverse : ∀ {xs : List V} {us : List Value}, Vals xs us → Vals xs.reverse us.reverse
  | _, _, .nil => .nil
  | _, _, .cons r t => by
    rw [List.reverse_cons, List.reverse_cons]
    exact (vals_reverse t).append (.cons r .nil)
theorem pe_revL {X : Cx} {e : Expr} {te : TE} {st : Expr} {tk : TO} {pos p2 : Pos} (he : PE X e te) (hk : PO X (some st) tk) (hsub : ∀ a sl : Addr, subscripted (.Slice none none (some st) p2) false (.ref a) (.ref sl) = operate [.ref sl, .ref a] (getItem (.ref a) (.ref sl)) := by intros; with_unfolding_all rfl) : PE X (.Subscript e (.Slice none none (some st) p2) pos) (tRevL X.K te tk) := by
  refine ⟨fun pins s σ H Q I h => ?_⟩
  refine Subscript_ (thn (he.run pins s σ H _ I h) fun v s1 ⟨x, H1, I1, r1, q1⟩ => ?_)
  refine wpAny_Slice ?_
  rw [evalPart_none]
  refine wpAny_pure ?_
  refine wpAny_pure ?_
  refine thn (hk.run pins s1 σ H1 _ I1 q1) fun vk s3 ⟨o, H3, I3, pk, q3⟩ => ?_
  obtain ⟨rfl, a, xs, rfl, hx, q⟩ := q3
  cases r1
  have I4 : Inv X pins σ H3 { s3 with heap := s3.heap.push { cls := .type "slice", data := .fields #[.none, .none, vk] } } := I3.kept (t' := s3.toks) fun b ob q => Heap.get?_push_of_some _ q
  obtain ⟨its, r, ht, hz⟩ := I4.list hx
  have hlen := r.length
  show wpAny (model X.prog X.w) X.A (subscriptTail e (.Slice none none (some st) p2) (.ref a) (.ref s3.heap.objs.size)) (EP X pins σ Q) X.xe { s3 with heap := s3.heap.push { cls := .type "slice", data := .fields #[.none, .none, vk] } }
  refine tail_any (ops := [.ref s3.heap.objs.size, .ref a]) ht.isList.typeIs slot_list_getitem.lookup ?_ (hsub _ _)
  refine wpAny_getItem_list_slice ht.isList (Heap.IsSliceOf.new ..) .none .none pk (by decide) ?_ (by rw [List.size_toArray] <;> omega)
  rw [PySem.W.krv_pick]
  refine ⟨.ref _, _, I4.laid (t' := s3.toks) (o := .lst xs.reverse) (fun b ob q => Heap.get?_push_of_some _ q) (Nat.le_refl _) ?_, rfl, q _ (I4.hok.fresh (Nat.le_refl _))⟩
  exact ⟨by rw [List.length_reverse]; exact hz, _, 0, vals_reverse r, Heap.get?_push_size _ rfl⟩
theorem ip_addS {X : Cx} : PIp X .Add (fun x y H Q => ∃ i j, x = .str i ∧ y = .str j ∧ i.length + j.length ≤ sizeLine ∧ Q (.str (i ++ j)) H) := fun pins s σ H x y v u Q I r1 r2 h => iop_add_str pins s σ H x y v u Q I r1 r2 h
end XR
namespace XR
open PySem PySem.Spec PyProof PyProof.Rows L2
theorem op_mulS {X : Cx} : OpR X (binaryOp .Mult) (fun x y H Q => ∃ a n, x = .str a ∧ y = .int n ∧ MulOk a n ∧ Q (.str (Txt.mul a n)) H) := by
  intro pins s σ H x y v u Q I rx ry h
  obtain ⟨a, n, rfl, rfl, hok, q⟩ := h
  obtain ⟨t, rfl⟩ := rx
  obtain ⟨t', rfl⟩ := ry
  exact SB.mul hok fun t' k => ⟨.str _, H, I.tok _, ⟨_, rfl⟩, q⟩
end XR

namespace K01
open PySem L2 PyProof PyProof.Rows TL
/-! ### words -/
def okW (x : Str) : Prop := x.length ≤ 100 ∧ PyData.strOk x = true
theorem shaped_strs {l : List Str} (h : ∀ x ∈ l, PyData.strOk x = true) : SeqAt.shaped (.list (l.map PyData.str)) = true := by
  have key : PyData.canLayAll0 (l.map PyData.str) = true ∧ PyData.depthAll (l.map PyData.str) = 0 := by
    induction l with
    | nil => exact ⟨rfl, rfl⟩
    | cons k ks ih =>
      obtain ⟨i1, i2⟩ := ih fun j hj => h j (List.mem_cons_of_mem _ hj)
      constructor
      · show (PyData.strOk k && PyData.canLayAll0 (ks.map PyData.str)) = true
        rw [i1, Bool.and_true]
        exact h k List.mem_cons_self
      · show max 0 (PyData.depthAll (ks.map PyData.str)) = 0
        rw [i2]
        rfl
  unfold SeqAt.shaped
  rw [Bool.and_eq_true]
  refine ⟨key.1, ?_⟩
  apply decide_eq_true
  show PyData.depthAll (l.map PyData.str) + 1 ≤ 64
  rw [key.2]
  decide
theorem strOk_all {x : Str} : PyData.strOk x = x.cps.toList.all fun c => decide (c < 0x110000) := by
  unfold PyData.strOk
  rw [Array.all_toList]
theorem strOk_mk {l m : List Nat} (h : ∀ c ∈ l, c ∈ m) (k : PyData.strOk ⟨m.toArray⟩ = true) : PyData.strOk ⟨l.toArray⟩ = true := by
  rw [strOk_all, List.all_eq_true] at k ⊢
  exact fun c hc => k c (h c hc)
theorem strOk_pre {z : Str} {i : Nat} (k : PyData.strOk z = true) : PyData.strOk (cutS z none (some (i : Int))) = true := by
  rw [cut_pre]
  exact strOk_mk (m := z.cps.toList) (fun c hc => List.mem_of_mem_take hc) k
theorem strOk_suf {z : Str} {i : Nat} (k : PyData.strOk z = true) : PyData.strOk (cutS z (some (i : Int)) none) = true := by
  rw [cut_suf]
  exact strOk_mk (m := z.cps.toList) (fun c hc => List.mem_of_mem_drop hc) k
theorem strOk_app {a b : Str} (ha : PyData.strOk a = true) (hb : PyData.strOk b = true) : PyData.strOk (a ++ b) = true := by
  rw [strOk_all] at ha hb ⊢
  have h : (a ++ b).cps.toList = a.cps.toList ++ b.cps.toList := tl_append a b
  rw [h, List.all_append, ha, hb]
  rfl
theorem len_app (a b : Str) : (a ++ b).length = a.length + b.length := by
  show (a.cps ++ b.cps).size = _
  rw [Array.size_append]
  rfl
theorem ahead_ok {w : Str} (h : PyData.strOk w = true) : PyData.strOk (aheadOf w) = true ∧ ∀ v, valueOf w = some v → PyData.strOk v = true := by
  rcases find_ahead w with ⟨_, h1, h2⟩ | ⟨i, _, _, h1, h2, h3⟩
  · rw [h1]
    refine ⟨h, fun v hv => ?_⟩
    unfold valueOf at hv
    rw [if_pos h2] at hv
    cases hv
  · rw [h1]
    refine ⟨strOk_pre h, fun v hv => ?_⟩
    unfold valueOf at hv
    rw [if_neg (by rw [h2]; decide)] at hv
    rw [← Option.some.inj hv, h3]
    exact strOk_suf (i := i + 1) h
theorem meantL_ok {ks : List Str} {ab : Bool} {w : Str} (hw : PyData.strOk w = true) (hk : ∀ k ∈ ks, PyData.strOk k = true) : ∀ q ∈ meantL ks ab w, PyData.strOk q.1 = true ∧ ∀ v, q.2 = some v → PyData.strOk v = true := by
  obtain ⟨a1, a2⟩ := ahead_ok hw
  intro q hq
  unfold meantL at hq
  split at hq
  · cases hq
  split at hq
  · rw [List.mem_singleton.mp hq]
    exact ⟨hw, fun v hv => nomatch hv⟩
  split at hq
  · next h1 =>
    rw [List.mem_singleton.mp hq]
    refine ⟨a1, fun v hv => a2 v ?_⟩
    unfold valueOf
    rw [if_neg h1.1]
    exact hv
  · obtain ⟨k, hk', ho⟩ := List.mem_filterMap.mp hq
    unfold oneM at ho
    split at ho
    · rw [← Option.some.inj ho]
      exact ⟨hk k hk', fun v hv => by rw [← Option.some.inj hv]; exact strOk_suf (i := 2) hw⟩
    split at ho
    · rw [← Option.some.inj ho]
      exact ⟨hk k hk', fun v hv => a2 v hv⟩
    · cases ho
theorem shaped_meant {l : List (Str × Option Str)} (h : ∀ q ∈ l, PyData.strOk q.1 = true ∧ ∀ v, q.2 = some v → PyData.strOk v = true) : SeqAt.shaped (.list (l.map toD)) = true := by
  have key : PyData.canLayAll0 (l.map toD) = true ∧ PyData.depthAll (l.map toD) ≤ 1 := by
    induction l with
    | nil => exact ⟨rfl, Nat.zero_le _⟩
    | cons q l ih =>
      obtain ⟨i1, i2⟩ := ih fun j hj => h j (List.mem_cons_of_mem _ hj)
      obtain ⟨k1, k2⟩ := h q List.mem_cons_self
      obtain ⟨f, o⟩ := q
      constructor
      · show (PyData.canLay0 (toD (f, o)) && PyData.canLayAll0 (l.map toD)) = true
        rw [i1, Bool.and_true]
        cases o with
        | none =>
          show (PyData.strOk f && (true && true)) = true
          rw [k1]
          rfl
        | some v =>
          show (PyData.strOk f && (PyData.strOk v && true)) = true
          rw [k1, k2 v rfl]
          rfl
      · show max (PyData.depth (toD (f, o))) (PyData.depthAll (l.map toD)) ≤ 1
        have : PyData.depth (toD (f, o)) ≤ 1 := by cases o <;> exact Nat.le_refl _
        omega
  unfold SeqAt.shaped
  rw [Bool.and_eq_true]
  refine ⟨key.1, ?_⟩
  apply decide_eq_true
  show PyData.depthAll (l.map toD) + 1 ≤ 64
  omega
theorem part_len (t : Str) : (Txt.partition t ".").1.length ≤ t.length ∧ (Txt.partition t ".").2.2.length ≤ t.length := by
  rcases partition_whole t "." with ⟨h, _⟩ | ⟨i, h, _⟩
  · rw [h]
    exact ⟨Nat.le_refl _, Nat.zero_le _⟩
  · rw [h, sub_pre, sub_suf]
    have hl : t.cps.toList.length = t.length := by simp [PySem.Str.length]
    constructor
    · show (t.cps.toList.take i).toArray.size ≤ _
      rw [List.size_toArray, List.length_take]
      omega
    · show (t.cps.toList.drop _).toArray.size ≤ _
      rw [List.size_toArray, List.length_drop]
      omega
theorem tail_len (w : Str) : (tailOf w).length ≤ w.length := by
  unfold tailOf
  have e : cutS w (some 1) none = cutS w (some ((1 : Nat) : Int)) none := rfl
  rw [e, cut_suf]
  have hl : w.cps.toList.length = w.length := by simp [PySem.Str.length]
  show (w.cps.toList.drop 1).toArray.size ≤ _
  rw [List.size_toArray, List.length_drop]
  omega
def spAreD : Sp := fun vs H Q _ => ∃ x : Str, vs = [.str x] ∧ x.length ≤ 900 ∧ ∀ H', Same H H' → Q (.bl (areD x)) H'
def spIsNum : Sp := fun vs H Q _ => ∃ x : Str, vs = [.str x] ∧ x.length ≤ 900 ∧ ∀ H', Same H H' → Q (.bl (isNumP x)) H'
section
variable {P : Program} {w : World} {K : PySem.W.Frag} {mg : Str → Option Value} {base : Heap}
theorem scAreD : FnScope ["text", "sign"] ["text"] (defScope sAreD) := ⟨rfl, rfl, rfl, by decide +kernel, rfl, by decide +kernel, by decide +kernel⟩
theorem ok_areD {f : Addr} {fd : FuncData} (F : Fun K "are_digits" "are_digits" sAreD f fd) (T : TxtB mg) : FnOk P w K mg base CX0 1 f fd ["text"] spAreD := by
  refine F.ok scAreD (fun vs H Q E h => ?_) (fun cdv A outer s H vs Q E hr h => ?_)
  · obtain ⟨x, rfl, _⟩ := h
    rfl
  · obtain ⟨x, rfl, hx, k⟩ := h
    refine ⟨_, pss_one (ps_ret (pe_and (pe_cmpR op_ne (pv 0) pe_str (nomark _)) (pe_one (pe_callB (cr_all rfl) (by rfl) T.all (by decide +kernel) (pa_cons (pe_lc (own := [("sign", 1)]) (g := gName 1) (tt := tYes) rfl scAreD.nd (pi_str (pv 0)) (blkOk_by (N := ["text", "sign"]) (sc := defScope sAreD) (by decide +kernel)) (fun _ _ _ _ _ => pg_name (i := 1) scAreD.nd rfl (Or.inl rfl)) (fun _ _ _ _ _ => pts_nil)
      (fun _ _ _ _ _ => by exact pe_cmpR op_in_sign (pv 1) pe_str (by rfl))) pa_nil))))), ?_⟩
    have hxl : x.cps.toList.length = x.length := by simp [PySem.Str.length]
    refine ⟨_, rfl, rfl, _, rfl, ?_⟩
    unfold areD at k
    by_cases e : x = ""
    · rw [e]
      rw [e] at k
      exact iteF (k _ (Same.refl _))
    · rw [decide_eq_false (fun z => e (V.str.inj z))]
      rw [decide_eq_false e] at k
      refine iteT ⟨_, rfl, x, rfl, fun D hD => ?_⟩
      refine lc_it walk_str (BlI dig H D x.cps.toList) (blI0 hD) (fun _ _ _ _ => trivial) (fun i v H' H'' hi h y => ?_) (fun H' h => ?_)
      · obtain ⟨rfl, c, hc, rfl⟩ := y
        exact ⟨rfl, _, rfl, c, _, rfl, rfl, blI_step hD (by rw [Array.getElem?_toList]; exact hc) h (Same.refl _) rfl (by omega)⟩
      · obtain ⟨e2, hl⟩ := blI_end (by simp) h
        refine ⟨D, _, rfl, SqL.of hl, ?_⟩
        have ea : (x.cps.toList.map dig).all id = allD x := by
          unfold allD
          rw [List.all_map]
          rfl
        rw [ea]
        exact k _ e2
abbrev nIsNum : List Str := ["word", "whole", "point", "part"]
theorem scIsNum : FnScope nIsNum ["word"] (defScope sIsNum) := ⟨rfl, rfl, rfl, by decide +kernel, rfl, by decide +kernel, by decide +kernel⟩
theorem ok_isNum {f fD : Addr} {fd fdD : FuncData} (F : Fun K "is_number" "is_number" sIsNum f fd) (G : At P w K mg base "are_digits" 1 ["text"] spAreD fD fdD) : FnOk P w K mg base CX0 2 f fd ["word"] spIsNum := by
  refine F.ok scIsNum (fun vs H Q E h => ?_) (fun cdv A outer s H vs Q E hr h => ?_)
  · obtain ⟨x, rfl, _⟩ := h
    rfl
  · obtain ⟨x, rfl, hx, k⟩ := h
    refine ⟨_, pss_mid (ps_asg (pe_partition (pe_slice sl_str (pv 0) (po_some pe_int) po_none) pe_str) (pg_tup rfl (pgs_cons (pg_name (i := 1) scIsNum.nd rfl (Or.inl rfl)) (pgs_cons (pg_name (i := 2) scIsNum.nd rfl (Or.inl rfl)) (pgs_cons (pg_name (i := 3) scIsNum.nd rfl (Or.inl rfl)) pgs_nil)))))
      (pss_cons (ps_if (pt_cmpR op_ne (pe_slice sl_str (pv 0) po_none (po_some pe_int)) pe_str (nomark _)) (pss_one (ps_ret pe_bl)) pss_nil)
      (pss_cons (ps_if (pt_cmpR op_eq (pv 2) pe_str (nomark _)) (pss_one (ps_ret (pe_call G.ok hr rfl G.m G.k G.b .nil pass0 (pa_cons (pv 1) pa_nil)))) pss_nil)
      (pss_one (ps_ret (pe_and (pe_call G.ok hr rfl G.m G.k G.b .nil pass0 (pa_cons (pv 3) pa_nil)) (pe_one (pe_or (pe_cmpR op_eq (pv 1) pe_str (nomark _)) (pe_one (pe_call G.ok hr rfl G.m G.k G.b .nil pass0 (pa_cons (pv 1) pa_nil)))))))))), ?_⟩
    have hsl : x.length ≤ sizeLine := by rw [PySem.sizeLine_eq]; omega
    have ht := tail_len x
    obtain ⟨p1, p2⟩ := part_len (tailOf x)
    unfold isNumP at k
    refine ⟨fun σ' H' => σ' = [some (.str x), some (.str (Txt.partition (tailOf x) ".").1), some (.str (Txt.partition (tailOf x) ".").2.1), some (.str (Txt.partition (tailOf x) ".").2.2)] ∧ Same H H', ?_, ?_⟩
    · exact ⟨_, rfl, _, rfl, x, rfl, hsl, ⟨_, rfl⟩, tailOf x, _, rfl, rfl, by decide, by rw [PySem.sizeLine_eq]; omega, fun q hq => ⟨q, _, rfl, SqT.of upd_same, rfl, _, _, rfl, _, _, rfl, _, _, rfl, rfl, rfl, same_upd hq⟩⟩
    rintro _ H1 ⟨rfl, e1⟩
    generalize Txt.partition (tailOf x) "." = pp at p1 p2 k
    obtain ⟨whole, point, part⟩ := pp
    refine ⟨_, rfl, _, rfl, x, rfl, hsl, rfl, _, rfl, ?_⟩
    by_cases hc : headOf x = "-"
    · have hc' : cutS x none (some 1) = "-" := hc
      rw [hc']
      rw [if_pos hc] at k
      refine iteF ⟨_, rfl, rfl, _, rfl, ?_⟩
      by_cases hp : point = ""
      · rw [hp]
        rw [if_pos hp] at k
        exact iteT ⟨_, rfl, whole, rfl, by simp only [] at p1; omega, fun H2 e2 => k _ (e1.trans e2)⟩
      · rw [decide_eq_false (fun z => hp (V.str.inj z))]
        rw [if_neg hp] at k
        refine iteF ⟨_, rfl, part, rfl, by simp only [] at p2; omega, fun H2 e2 => ⟨_, rfl, ?_⟩⟩
        have k' : ∀ H', Same H H' → Q (.bl (areD part && (decide (whole = "") || areD whole))) H' := k
        cases ea : areD part with
        | false =>
          rw [ea] at k'
          exact iteF (k' _ (e1.trans e2))
        | true =>
          rw [ea] at k'
          refine iteT ⟨_, rfl, rfl, _, rfl, ?_⟩
          by_cases hw : whole = ""
          · rw [hw] at k' ⊢
            exact iteT (k' _ (e1.trans e2))
          · rw [decide_eq_false (fun z => hw (V.str.inj z))]
            rw [decide_eq_false hw] at k'
            exact iteF ⟨_, rfl, whole, rfl, by simp only [] at p1; omega, fun H3 e3 => k' _ ((e1.trans e2).trans e3)⟩
    · have hc' : ¬ cutS x none (some 1) = "-" := hc
      rw [decide_eq_false (fun z => hc' (V.str.inj z))]
      rw [if_neg hc] at k
      exact iteT (k _ e1)
end
end K01

namespace K01
open PySem L2 PyProof PyProof.Rows TL
/-! ### the letters that the program tells -/
/-- what is read of a parser -/
structure ParW (CP : Addr) (H : Hp) (p : Addr) (ab : Bool) (ks : List Str) : Prop where
  ex : ∃ dx fs lf kvs fi, H p = some (.ins CP dx fs) ∧ fs.lookup ("prefix_chars" : Str) = some (V.str "-") ∧ fs.lookup ("flags" : Str) = some (V.ref lf) ∧ fs.lookup ("allow_abbrev" : Str) = some (V.bl ab) ∧ fs.lookup ("file_signs" : Str) = some (V.str "") ∧ fs.lookup ("files" : Str) = some (V.ref fi) ∧ H lf = some (.dK kvs) ∧ kvs.map (·.1) = ks.map Sum.inr
  l1 : ks.length ≤ 100
  l2 : ∀ k ∈ ks, k.length ≤ 100 ∧ PyData.strOk k = true
theorem ParW.keep {CP : Addr} {H H' : Hp} {p : Addr} {ab : Bool} {ks : List Str} (h : ParW CP H p ab ks) (e : Same H H') : ParW CP H' p ab ks := by
  obtain ⟨dx, fs, lf, kvs, fi, h1, h2, h3, h4, h5, h6, h7, h8⟩ := h.ex
  exact ⟨⟨dx, fs, lf, kvs, fi, e _ _ h1, h2, h3, h4, h5, h6, e _ _ h7, h8⟩, h.l1, h.l2⟩
def letterL (ks : List Str) (ab : Bool) (w : Str) : Str :=
  if w = "" ∨ inD (wAt w 0) = false ∨ w.length = 1 then "A" else if meantL ks ab w ≠ [] then "O" else if (isNumP w && !(ks.map isNumP).any id) = true then "A" else if 32 ∈ w.cps.toList then "A" else "O"
def stepL (ks : List Str) (ab : Bool) (acc w : Str) : Str := if 45 ∈ acc.cps.toList then acc ++ "A" else if w = "--" then acc ++ "-" else acc ++ letterL ks ab w
def lettersL (ks : List Str) (ab : Bool) (ws : List Str) : Str := ws.foldl (stepL ks ab) ""
theorem letter_len (ks : List Str) (ab : Bool) (w : Str) : (letterL ks ab w).length = 1 := by
  unfold letterL
  split
  · decide
  split
  · decide
  split
  · decide
  split <;> decide
theorem step_len (ks : List Str) (ab : Bool) (acc w : Str) : (stepL ks ab acc w).length = acc.length + 1 := by
  unfold stepL
  have a : ("A" : Str).length = 1 := by decide
  have b : ("-" : Str).length = 1 := by decide
  split
  · rw [len_app, a]
  split
  · rw [len_app, b]
  · rw [len_app, letter_len]
theorem fold_len (ks : List Str) (ab : Bool) : ∀ (ws : List Str) (acc : Str), (ws.foldl (stepL ks ab) acc).length = acc.length + ws.length
  | [], acc => rfl
  | w :: ws, acc => by
    show (ws.foldl (stepL ks ab) (stepL ks ab acc w)).length = _
    rw [fold_len ks ab ws, step_len, List.length_cons]
    omega
def okWs (ws : List Str) : Prop := ws.length ≤ 100 ∧ ∀ x ∈ ws, okW x
def spLetOf (CP : Addr) : Sp := fun vs H Q _ => ∃ (p : Addr) (ab : Bool) (ks : List Str) (w : Str), vs = [.ref p, .str w] ∧ ParW CP H p ab ks ∧ okW w ∧ ∀ H', Same H H' → Q (.str (letterL ks ab w)) H'
def spLetsOf (CP : Addr) : Sp := fun vs H Q _ => ∃ (p a : Addr) (ab : Bool) (ks ws : List Str), vs = [.ref p, .ref a] ∧ ParW CP H p ab ks ∧ H a = some (.lst (ws.map V.str)) ∧ okWs ws ∧ ∀ H', Same H H' → Q (.str (lettersL ks ab ws)) H'
def spExp (CP : Addr) : Sp := fun vs H Q _ => ∃ (p a : Addr) (ab : Bool) (ks ws : List Str), vs = [.ref p, .ref a] ∧ ParW CP H p ab ks ∧ H a = some (.lst (ws.map V.str)) ∧ okWs ws ∧ ∀ L H', Same H H' → H' L = some (.lst (ws.map V.str)) → Q (.ref L) H'
def spWbf (CP : Addr) : Sp := fun vs H Q _ => ∃ (p a : Addr) (ab : Bool) (ks ws : List Str), vs = [.ref p, .ref a] ∧ ParW CP H p ab ks ∧ (H a = some (.lst (ws.map V.str)) ∨ H a = some (.tup (ws.map V.str))) ∧ okWs ws ∧ ∀ L H', Same H H' → H' L = some (.lst (ws.map V.str)) → Q (.ref L) H'
def spLetters (CP : Addr) : Sp := fun vs H Q _ => ∃ (p a : Addr) (ab : Bool) (ks ws : List Str), vs = [.ref p, .ref a] ∧ ParW CP H p ab ks ∧ (H a = some (.lst (ws.map V.str)) ∨ H a = some (.tup (ws.map V.str))) ∧ okWs ws ∧ ∀ H', Same H H' → Q (.str (lettersL ks ab ws)) H'
theorem not_in_empty (c : Nat) : decide (c ∈ ("" : Str).cps.toList) = false := by
  have h : ("" : Str).cps.toList = [] := by decide
  rw [h]
  simp
def lenAt (H : Hp) (l : Addr) : Nat := match H l with
  | some (.lst xs) => xs.length
  | _ => 0
section
variable {P : Program} {w : World} {K : PySem.W.Frag} {mg : Str → Option Value} {base : Heap}
theorem scExp : FnScope ["parser", "words", "found", "left", "word"] ["parser", "words"] (defScope sExpanded) := ⟨rfl, rfl, rfl, by decide +kernel, rfl, by decide +kernel, by decide +kernel⟩
theorem ok_exp {f CP : Addr} {fd : FuncData} (F : Fun K "expanded" "expanded" sExpanded f fd) (T : TxtB mg) (cP : ClsN K CP parF) : FnOk P w K mg base CX0 1 f fd ["parser", "words"] (spExp CP) := by
  refine F.ok scExp (fun vs H Q E h => ?_) (fun cdv A outer s H vs Q E hr h => ?_)
  · obtain ⟨p, a, ab, ks, ws, rfl, _⟩ := h
    rfl
  · obtain ⟨p, a, ab, ks, ws, rfl, hp, ha, hw, k⟩ := h
    have hu : (A.deeper (PyProof.Rows.envOfC "expanded" (defScope sExpanded) s.heap.objs.size f cdv)).units + 64 < cLine := hr.units
    refine ⟨_, pss_mid (ps_par (i := 2) (j := 3) (by rfl) scExp.nd rfl rfl (by decide) rfl rfl (pa_cons (pe_lst pa_nil) (pa_cons (pe_revL (pe_callTy call_list_of (by rfl) T.list (by decide +kernel) (pa_cons (pv 1) pa_nil))) pa_nil)) (by rfl))
      (pss_mid (ps_while PassesOwn.never (pt_cmpR (op_neD hu) (pv 3) (pe_lst pa_nil) (nomark _))
        (pss_cons (ps_set (i := 4) scExp.nd rfl (Or.inl rfl) (pe_bm0 PySem.F.plainAttrs_list PySem.F.slot_list_pop PySem.F.type_list_pop mt_pop (pv 3)))
        (pss_one (ps_if (PW.pt (pw_or (pt_cmpR op_eq (pv 4) pe_str (nomark _)) (pw_or1 (pt_cmpR op_notIn_sign (pe_ix ix_str (pv 4) pe_int (fun _ _ => rfl)) (pe_fld (pv 0) rfl) (by rfl))))) (pss_one (ps_expr (pe_bm PySem.F.plainAttrs_list PySem.F.slot_list_append PySem.F.type_list_append mt_append (pv 2) (pa_cons (pv 4) pa_nil)))) pss_never))))
      (pss_one (ps_ret (pv 2)))), ?_⟩
    obtain ⟨dx, fs, lf, kvs, fi, h1, h2, h3, h4, h5, h6, h7, h8⟩ := hp.ex
    have nFS : NoAttr K CP "file_signs" := cP.no _ (by decide +kernel)
    obtain ⟨wl, wo⟩ := hw
    refine ⟨fun σ' H' => ∃ fo l : Addr, σ' = [some (.ref p), some (.ref a), some (.ref fo), some (.ref l), none] ∧ Same H H' ∧ H' fo = some (.lst []) ∧ H' l = some (.lst (ws.map V.str).reverse) ∧ H fo = none ∧ H l = none ∧ fo ≠ l, ?_, ?_⟩
    · refine ⟨(by show 0 ≤ sizeLine; decide), fun fo hfo => ?_⟩
      have e1 := same_upd (o := .lst []) hfo
      refine ⟨_, rfl, a, _, rfl, .inl (SqL.of (e1 _ _ ha)), fun c hc => ?_⟩
      have e2 := same_upd (o := .lst (ws.map V.str)) hc
      refine ⟨c, _, rfl, SqL.of upd_same, fun l hl => ⟨_, _, rfl, fo, l, rfl, (e1.trans e2).trans (same_upd hl), same_upd hl _ _ (e2 _ _ upd_same), upd_same, hfo, Same.free (e1.trans e2) hl, ?_⟩⟩
      exact ne_of_none (e2 _ _ upd_same) hl
    rintro _ H1 ⟨fo, l, rfl, e1, hfo, hl, nfo, nl, nfl⟩
    refine ⟨fun σ' H' => ∃ r, σ' = [some (.ref p), some (.ref a), some (.ref fo), some (.ref l), r] ∧ Same H H' ∧ H' fo = some (.lst (ws.map V.str)), ?_, ?_⟩
    · refine while_by (fun σ' H' => ∃ (r : Option V) (done rem : List Str), σ' = [some (.ref p), some (.ref a), some (.ref fo), some (.ref l), r] ∧ Same H H' ∧ H' fo = some (.lst (done.map V.str)) ∧ H' l = some (.lst (rem.map V.str).reverse) ∧ done ++ rem = ws) (fun _ H' => lenAt H' l) ⟨none, [], ws, rfl, e1, hfo, hl, rfl⟩ ?_ ?_
      · rintro σ' H' ⟨r, done, rem, rfl, e, hf, hl', hdr⟩
        have hok : ∀ x ∈ rem.reverse, PyData.strOk x = true := fun x hx => (wo x (by rw [← hdr]; exact List.mem_append_right _ (List.mem_reverse.mp hx))).2
        have hrv : (rem.map V.str).reverse = rem.reverse.map V.str := by rw [List.map_reverse]
        refine ⟨_, rfl, (by show 0 ≤ sizeLine; decide), fun q hq => ?_⟩
        have eq := same_upd (o := .lst []) hq
        refine ⟨.list (rem.reverse.map PyData.str), .list [], .lst (SqL.of (eq _ _ (by rw [← hrv]; exact hl'))) (dpAll_strs _), .lst (SqL.of upd_same) .nil, shaped_strs hok, by decide, !rem.isEmpty, ?_, ?_⟩
        · cases rem with
          | nil => rfl
          | cons y ys =>
            rw [List.reverse_cons]
            cases ys.reverse <;> rfl
        have hq1 := eq _ _ hl'
        have hf1 := eq _ _ hf
        have e2 := e.trans eq
        have el : lenAt H' l = rem.length := by
          unfold lenAt
          rw [hl']
          show (rem.map V.str).reverse.length = _
          rw [List.length_reverse, List.length_map]
        generalize upd H' q (.lst []) = H2 at hq1 hf1 e2
        cases rem with
        | nil =>
          refine iteF ⟨r, rfl, e2, ?_⟩
          rw [← hdr, List.append_nil]
          exact hf1
        | cons y ys =>
          rw [el]
          have hl2 : (List.map V.str (y :: ys)).reverse = (ys.map V.str).reverse ++ [V.str y] := by rw [List.map_cons, List.reverse_cons]
          rw [hl2] at hq1
          refine iteT ⟨_, rfl, .inl ⟨rfl, _, SqL.of hq1⟩, l, _, V.str y, rfl, rfl, hq1, ?_, ?_⟩
          · rw [List.length_append]
            simp
          rw [List.dropLast_concat]
          have kpL : ∀ b o, H2 b = some o → b ≠ l → upd H2 l (.lst (ys.map V.str).reverse) b = some o := fun b o e nb => by rw [upd_ne nb]; exact e
          have e3 : Same H (upd H2 l (.lst (ys.map V.str).reverse)) := same_mut e2 nl
          have hl3 : upd H2 l (.lst (ys.map V.str).reverse) l = _ := upd_same
          have hf3 := kpL _ _ hf1 nfl
          generalize upd H2 l (.lst (ys.map V.str).reverse) = H3 at e3 hl3 hf3
          have yok := wo y (by rw [← hdr]; simp)
          have ysl : y.length ≤ sizeLine := by have := yok.1; rw [PySem.sizeLine_eq]; omega
          have dl : done.length < 101 := by
            have := congrArg List.length hdr
            rw [List.length_append, List.length_cons] at this
            omega
          have fin : ∃ l_1 xs y_1, V.ref fo = V.ref l_1 ∧ [V.str y] = [y_1] ∧ H3 l_1 = some (.lst xs) ∧ xs.length < sizeLine ∧ (∃ (r : Option V) (done rem : List Str), ([some (.ref p), some (.ref a), some (.ref fo), some (.ref l), some (.str y)] : L2.St) = [some (.ref p), some (.ref a), some (.ref fo), some (.ref l), r] ∧ Same H (upd H3 l_1 (.lst (xs ++ [y_1]))) ∧ upd H3 l_1 (.lst (xs ++ [y_1])) fo = some (.lst (done.map V.str)) ∧ upd H3 l_1 (.lst (xs ++ [y_1])) l = some (.lst (rem.map V.str).reverse) ∧ done ++ rem = ws) ∧ lenAt (upd H3 l_1 (.lst (xs ++ [y_1]))) l < ys.length + 1 := by
            refine ⟨fo, _, _, rfl, rfl, hf3, by rw [List.length_map, PySem.sizeLine_eq]; omega, ⟨_, done ++ [y], ys, rfl, same_mut e3 nfo, ?_, ?_, ?_⟩, ?_⟩
            · rw [upd_same, List.map_append]
              rfl
            · rw [upd_ne nfl.symm]
              exact hl3
            · rw [← hdr]
              simp
            · unfold lenAt
              rw [upd_ne nfl.symm, hl3]
              show (ys.map V.str).reverse.length < _
              rw [List.length_reverse, List.length_map]
              omega
          refine ⟨_, rfl, rfl, _, rfl, ?_⟩
          by_cases hy : y = ""
          · rw [hy]
            rw [hy] at fin
            exact iteT ⟨_, rfl, .inl ⟨rfl, _, SqL.of hf3⟩, _, rfl, fin⟩
          · rw [decide_eq_false (fun z => hy (V.str.inj z))]
            have hyl : 0 < y.cps.toList.length := by
              cases e : y.cps.toList with
              | nil => exact absurd (ext_tl (y := "") e) hy
              | cons c cs => exact Nat.succ_pos _
            refine iteF ⟨_, rfl, y, 0, _, rfl, rfl, ysl, wAt_some (i := 0) hyl, _, rfl, p, CP, dx, fs, _, rfl, e3 _ _ h1, cP.cl, nFS, h5, _, _, rfl, rfl, true, ?_, iteT ⟨_, rfl, .inl ⟨rfl, _, SqL.of hf3⟩, _, rfl, fin⟩⟩
            rw [not_in_empty]
            rfl
      · rintro σ' H' Q1 Q2 hq ⟨v, hv, sz, h⟩
        exact ⟨v, hv, sz, fun l hl => by
          obtain ⟨d, e, a1, a2, a3, a4, k, hk, q⟩ := h l hl
          exact ⟨d, e, a1, a2, a3, a4, k, hk, hq _ _ q⟩⟩
    rintro _ H2 ⟨r, rfl, e2, hf2⟩
    exact ⟨_, rfl, k fo H2 e2 hf2⟩
end
end K01

namespace K01
open PySem L2 PyProof PyProof.Rows TL
section
variable {P : Program} {w : World} {K : PySem.W.Frag} {mg : Str → Option Value} {base : Heap}
abbrev rListOf (K : PySem.W.Frag) : List V → Hp → VK → Prop := fun xs H Q => ∃ p ys, xs = [V.ref p] ∧ (SqL K H p ys ∨ SqT K H p ys) ∧ ∀ l, H l = none → Q (V.ref l) (upd H l (.lst ys))
theorem scWbf : FnScope ["parser", "words", "line", "e"] ["parser", "words"] (defScope sWbf) := ⟨rfl, rfl, rfl, by decide +kernel, rfl, by decide +kernel, by decide +kernel⟩
theorem ok_wbf {f fE CP CT : Addr} {fd fdE : FuncData} (F : Fun K "words_behind_files" "words_behind_files" sWbf f fd) (T : TxtB mg) (G : At P w K mg base "expanded" 1 ["parser", "words"] (spExp CP) fE fdE) (mT : mg "Trouble" = some (.ref CT)) : FnOk P w K mg base CX0 2 f fd ["parser", "words"] (spWbf CP) := by
  refine F.ok scWbf (fun vs H Q E h => ?_) (fun cdv A outer s H vs Q E hr h => ?_)
  · obtain ⟨p, a, ab, ks, ws, rfl, _⟩ := h
    rfl
  · obtain ⟨p, a, ab, ks, ws, rfl, hp, ha, hw, k⟩ := h
    refine ⟨_, pss_cons (ps_set (i := 2) scWbf.nd rfl (Or.inl rfl) (pe_lst pa_nil))
      (pss_mid (ps_try_as (i := 3) (tb := fun W => tAsg (tCall (spExp CP) [] E0 (tCons (tVar 0) (tCons (tCB (rListOf K) (tCons (tVar 1) tNil)) tNil))) (gName 2)) (ts := fun _ _ _ => fun _ _ _ => False) (Wout := fun _ _ _ _ => False) rfl rfl scWbf.nd rfl rfl ⟨rfl, by decide, Or.inl mT⟩ takes0
        (fun W pn xe tk _ => by exact pss_one (ps_set (i := 2) scWbf.nd rfl (Or.inl rfl) (by exact pe_call G.ok (by exact hr) rfl G.m G.k G.b .nil pass0 (pa_cons (pv 0) (pa_cons (pe_callTy call_list_of (by rfl) T.list (by decide +kernel) (pa_cons (pv 1) pa_nil)) pa_nil)))))
        (fun _ _ _ _ _ _ _ => pss_never))
      (pss_one (ps_ret (pv 2)))), ?_⟩
    refine ⟨(by show 0 ≤ sizeLine; decide), fun l0 hl0 => ?_⟩
    have e0 := same_upd (o := .lst []) hl0
    generalize upd H l0 (.lst []) = H1 at e0
    refine ⟨fun σ' H' => ∃ L, σ' = [some (.ref p), some (.ref a), some (.ref L), none] ∧ Same H H' ∧ H' L = some (.lst (ws.map V.str)), ?_, ?_⟩
    · have hs : SqL K H1 a (ws.map V.str) ∨ SqT K H1 a (ws.map V.str) := by
        rcases ha with h | h
        · exact .inl (SqL.of (e0 _ _ h))
        · exact .inr (SqT.of (e0 _ _ h))
      refine ⟨_, rfl, _, rfl, a, _, rfl, hs, fun c hc => ?_⟩
      have e1 := e0.trans (same_upd (o := .lst (ws.map V.str)) hc)
      exact ⟨p, c, ab, ks, ws, rfl, hp.keep e1, upd_same, hw, fun L H2 e2 hL => ⟨L, rfl, e1.trans e2, hL⟩⟩
    rintro _ H2 ⟨L, rfl, e2, hL⟩
    exact ⟨_, rfl, k L H2 e2 hL⟩
abbrev nLetOf : List Str := ["parser", "word", "flag"]
theorem scLetOf : FnScope nLetOf ["parser", "word"] (defScope sLetOf) := ⟨rfl, rfl, rfl, by decide +kernel, rfl, by decide +kernel, by decide +kernel⟩
theorem ok_letOf {f fM fN CP : Addr} {fd fdM fdN : FuncData} (F : Fun K "letter_of" "letter_of" sLetOf f fd) (T : TxtB mg) (zAny : mg "any" = none) (cP : ClsN K CP parF) (M : At P w K mg base "meant_by" 1 ["parser", "word"] (spMeantW CP) fM fdM) (N : At P w K mg base "is_number" 2 ["word"] spIsNum fN fdN) : FnOk P w K mg base CX0 3 f fd ["parser", "word"] (spLetOf CP) := by
  refine F.ok scLetOf (fun vs H Q E h => ?_) (fun cdv A outer s H vs Q E hr h => ?_)
  · obtain ⟨p, ab, ks, z, rfl, _⟩ := h
    rfl
  · obtain ⟨p, ab, ks, z, rfl, hp, hz, k⟩ := h
    have hu : (A.deeper (PyProof.Rows.envOfC "letter_of" (defScope sLetOf) s.heap.objs.size f cdv)).units + 64 < cLine := hr.units
    have r1 : Room 1 (A.deeper (PyProof.Rows.envOfC "letter_of" (defScope sLetOf) s.heap.objs.size f cdv)) := hr.mono (by decide)
    refine ⟨_, pss_mid (ps_if (PW.pt (pw_or (pt_cmpR op_eq (pv 1) pe_str (nomark _)) (pw_or (pt_cmpR op_notin_str (pe_ix ix_str (pv 1) pe_int (fun _ _ => rfl)) (pe_fld (pv 0) rfl) (by rfl)) (pw_or1 (pt_cmpR op_eq (pe_callB call_len_str (by rfl) T.len PySem.boot_len (pa_cons (pv 1) pa_nil)) pe_int (nomark _)))))) (pss_one (ps_ret pe_str)) pss_nil)
      (pss_mid (ps_if (pt_cmpR (op_neD hu) (pe_call M.ok r1 rfl M.m M.k M.b .nil pass0 (pa_cons (pv 0) (pa_cons (pv 1) pa_nil))) (pe_lst pa_nil) (nomark _)) (pss_one (ps_ret pe_str)) pss_nil)
      (pss_mid (ps_if (PW.pt (pw_and (pt_val (pe_call N.ok hr rfl N.m N.k N.b .nil pass0 (pa_cons (pv 1) pa_nil))) (pw_and1 (pt_not (pt_val (pe_callB (cr_any rfl) (by rfl) zAny (by decide +kernel) (pa_cons (pe_lock (pe_lc (own := [("flag", 2)]) (g := gName 2) (tt := tYes) (te := tCall spIsNum [] E0 (tCons (tVar 2) tNil)) rfl scLetOf.nd (pi_keys (pe_fld (pv 0) rfl)) (blkOk_by (N := nLetOf) (sc := defScope sLetOf) (by decide +kernel)) (fun _ _ _ _ _ => pg_name (i := 2) scLetOf.nd rfl (Or.inl rfl)) (fun _ _ _ _ _ => pts_nil)
        (fun _ _ _ _ _ => by exact pe_call N.ok (by exact hr) rfl N.m N.k N.b .nil pass0 (pa_cons (pv 2) pa_nil)))) pa_nil))))))) (pss_one (ps_ret pe_str)) pss_nil)
      (pss_one (ps_ret (pe_ifExp (pt_cmpR op_in_sign pe_str (pv 1) (by rfl)) pe_str pe_str))))), ?_⟩
    obtain ⟨dx, fs, lf, kvs, fi, h1, h2, h3, h4, h5, h6, h7, h8⟩ := hp.ex
    have n1 : NoAttr K CP "prefix_chars" := cP.no _ (by decide +kernel)
    have n2 : NoAttr K CP "flags" := cP.no _ (by decide +kernel)
    obtain ⟨zl, zo⟩ := hz
    have hsz : z.length ≤ sizeLine := by rw [PySem.sizeLine_eq]; omega
    have hcz : z.cps.toList.length = z.length := by simp [PySem.Str.length]
    -- short ones
    refine ⟨fun σ' H' => σ' = [some (.ref p), some (.str z), none] ∧ H = H' ∧ ¬ (z = "" ∨ inD (wAt z 0) = false ∨ z.length = 1), ?_, ?_⟩
    · have kA : (z = "" ∨ inD (wAt z 0) = false ∨ z.length = 1) → Q (.str "A") H := fun hh => by
        have := k H (Same.refl _)
        unfold letterL at this
        rw [if_pos hh] at this
        exact this
      refine ⟨_, rfl, rfl, _, rfl, ?_⟩
      by_cases hy : z = ""
      · rw [decide_eq_true (congrArg V.str hy)]
        exact iteT (kA (.inl hy))
      rw [decide_eq_false (fun q => hy (V.str.inj q))]
      have hyl : 0 < z.cps.toList.length := by
        cases e : z.cps.toList with
        | nil => exact absurd (ext_tl (y := "") e) hy
        | cons c cs => exact Nat.succ_pos _
      refine iteF ⟨_, rfl, z, 0, _, rfl, rfl, hsz, wAt_some (i := 0) hyl, _, rfl, p, CP, dx, fs, _, rfl, h1, cP.cl, n1, h2, _, _, rfl, rfl, _, rfl, ?_⟩
      refine ite2 (fun hc => ?_) (fun hc => ?_)
      · have hd : inD (wAt z 0) = false := by unfold inD; simpa using hc
        exact iteT (kA (.inr (.inl hd)))
      have hd : inD (wAt z 0) = true := by unfold inD; simpa using hc
      refine ⟨_, rfl, z, rfl, hsz, rfl, _, rfl, ?_⟩
      refine ite2 (fun hc => ?_) (fun hc => ⟨rfl, rfl, ?_⟩)
      · have : z.length = 1 := by have := V.int.inj (of_decide_eq_true hc); omega
        exact kA (.inr (.inr this))
      · rintro (q | q | q)
        · exact hy q
        · rw [hd] at q
          cases q
        · exact hc (decide_eq_true (congrArg V.int (by omega)))
    rintro _ _ ⟨rfl, rfl, hns⟩
    -- meant
    refine ⟨fun σ' H' => σ' = [some (.ref p), some (.str z), none] ∧ Same H H' ∧ meantL ks ab z = [], ?_, ?_⟩
    · refine ⟨_, rfl, _, rfl, p, lf, dx, fs, kvs, ks, ab, z, rfl, h1, h2, h3, h4, h7, h8, ?_, hp.l1, (fun k hk => (hp.l2 k hk).1), fun L N H2 e2 F2 t2 => ?_⟩
      · omega
      refine ⟨(by show 0 ≤ sizeLine; decide), fun q hq => ?_⟩
      have eq := same_upd (o := .lst []) hq
      refine ⟨.list ((meantL ks ab z).map toD), .list [], Dt.dp _ _ (Dt.mono eq _ _ (Dt.mono F2.sub _ _ t2)), .lst (SqL.of upd_same) .nil, shaped_meant (meantL_ok zo fun k hk => (hp.l2 k hk).2), by decide, _, rfl, ?_⟩
      cases hm : meantL ks ab z with
      | nil => exact iteF ⟨rfl, e2.trans eq, rfl⟩
      | cons x xs =>
        have := k _ (e2.trans eq)
        unfold letterL at this
        rw [if_neg hns, if_pos (by rw [hm]; exact fun q => nomatch q)] at this
        exact iteT this
    rintro _ H1 ⟨rfl, e1, hm⟩
    have kB : ∀ H', Same H H' → Q (.str (if (isNumP z && !(ks.map isNumP).any id) = true then "A" else if 32 ∈ z.cps.toList then "A" else "O")) H' := fun H' e => by
      have := k H' e
      unfold letterL at this
      rw [if_neg hns, if_neg (fun q => q hm)] at this
      exact this
    -- numbers
    refine ⟨fun σ' H' => σ' = [some (.ref p), some (.str z), none] ∧ Same H H' ∧ ¬ (isNumP z && !(ks.map isNumP).any id) = true, ?_, ?_⟩
    · refine ⟨_, rfl, z, rfl, by omega, fun H2 e2 => ⟨_, rfl, ?_⟩⟩
      have e12 := e1.trans e2
      cases hn : isNumP z with
      | false => exact iteF ⟨rfl, e12, fun q => nomatch q⟩
      | true =>
        refine iteT ?_
        refine ⟨lf, .dK kvs, e12 _ _ h7, trivial, fun od => ?_⟩
        have fz : (upd H2 lf (.frz od (.dK kvs))) lf = some (.frz od (.dK kvs)) := upd_same
        have fr : ∀ b u, H b = some u → b ≠ lf → (upd H2 lf (.frz od (.dK kvs))) b = some u := fun b u e nb => by rw [upd_ne nb]; exact e12 _ _ e
        have npl : p ≠ lf := ne_of h1 h7 (by intro z; cases z)
        generalize upd H2 lf (.frz od (.dK kvs)) = G at fz fr
        refine ⟨_, rfl, p, CP, dx, fs, _, rfl, fr _ _ h1 npl, cP.cl, n2, h3, lf, od, rfl, .inl ⟨_, fz, fun D hD => ?_⟩⟩
        have kl : kvs.length = ks.length := by
          have := congrArg List.length h8
          rwa [List.length_map, List.length_map] at this
        refine lc_it walk_keys (BlI isNumP G D ks) (blI0 hD) (fun i H' _ h => h.1 _ _ fz) (fun i v H' H'' hi h y => ?_) (fun H' h => ?_)
        · obtain ⟨rfl, kk, vv, hk, rfl⟩ := y
          obtain ⟨flag, hfl, rfl⟩ : ∃ flag, ks[i]? = some flag ∧ kk = Sum.inr flag := by
            have e := congrArg (fun l => l[i]?) h8
            simp only [List.getElem?_map, hk] at e
            cases q : ks[i]? with
            | none =>
              rw [q] at e
              cases e
            | some fl =>
              rw [q] at e
              exact ⟨fl, rfl, Option.some.inj e⟩
          have := hp.l2 flag (List.mem_of_getElem? hfl)
          have hl1 := hp.l1
          exact ⟨rfl, _, rfl, flag, rfl, by omega, fun H3 e3 => blI_step hD hfl h e3 rfl (by omega)⟩
        · obtain ⟨e2', hD2⟩ := blI_end kl h
          refine ⟨e2' _ _ fz, ?_⟩
          have nDo : D ≠ lf := (ne_of_none fz hD).symm
          have e3 : Same H (upd H' lf (.dK kvs)) := fun b u e => by
            by_cases hb : b = lf
            · subst hb
              rw [upd_same, ← e]
              exact h7.symm
            · rw [upd_ne hb]
              exact e2' _ _ (fr _ _ e hb)
          refine ⟨D, _, rfl, SqL.of (by rw [upd_ne nDo]; exact hD2), ⟨_, rfl, ?_⟩⟩
          cases ha : (ks.map isNumP).any id with
          | true => exact iteF ⟨rfl, e3, fun q => nomatch q⟩
          | false =>
            have := kB _ e3
            rw [hn, ha] at this
            exact iteT this
    rintro _ H2 ⟨rfl, e2, hnn⟩
    have kC : ∀ H', Same H H' → Q (.str (if 32 ∈ z.cps.toList then "A" else "O")) H' := fun H' e => by
      have := kB H' e
      rw [if_neg hnn] at this
      exact this
    refine ⟨_, rfl, 32, z, rfl, rfl, _, rfl, ?_⟩
    have := kC H2 e2
    by_cases h32 : 32 ∈ z.cps.toList
    · rw [decide_eq_true h32]
      rw [if_pos h32] at this
      exact iteT this
    · rw [decide_eq_false h32]
      rw [if_neg h32] at this
      exact iteF this
end
end K01

namespace K01
open PySem L2 PyProof PyProof.Rows TL
section
variable {P : Program} {w : World} {K : PySem.W.Frag} {mg : Str → Option Value} {base : Heap}
theorem scLetsOf : FnScope ["parser", "words", "found", "word"] ["parser", "words"] (defScope sLetsOf) := ⟨rfl, rfl, rfl, by decide +kernel, rfl, by decide +kernel, by decide +kernel⟩
theorem ok_letsOf {f fL CP : Addr} {fd fdL : FuncData} (F : Fun K "letters_of" "letters_of" sLetsOf f fd) (G : At P w K mg base "letter_of" 3 ["parser", "word"] (spLetOf CP) fL fdL) : FnOk P w K mg base CX0 4 f fd ["parser", "words"] (spLetsOf CP) := by
  refine F.ok scLetsOf (fun vs H Q E h => ?_) (fun cdv A outer s H vs Q E hr h => ?_)
  · obtain ⟨p, a, ab, ks, ws, rfl, _⟩ := h
    rfl
  · obtain ⟨p, a, ab, ks, ws, rfl, hp, ha, ⟨wl, wo⟩, k⟩ := h
    refine ⟨_, pss_cons (ps_set (i := 2) scLetsOf.nd rfl (Or.inl rfl) pe_str)
      (pss_mid (ps_for PassesOwn.never rfl (pi_list (pv 1)) (pg_name (i := 3) scLetsOf.nd rfl (Or.inl rfl))
        (pss_one (ps_if (pt_cmpR op_in_sign pe_str (pv 2) (by rfl)) (pss_one (ps_aug (i := 2) scLetsOf.nd rfl (.inl rfl) pe_str XR.ip_addS))
          (pss_one (ps_if (pt_cmpR op_eq (pv 3) pe_str (nomark _)) (pss_one (ps_aug (i := 2) scLetsOf.nd rfl (.inl rfl) pe_str XR.ip_addS))
            (pss_one (ps_aug (i := 2) scLetsOf.nd rfl (.inl rfl) (pe_call G.ok hr rfl G.m G.k G.b .nil pass0 (pa_cons (pv 0) (pa_cons (pv 3) pa_nil))) XR.ip_addS)))))))
      (pss_one (ps_ret (pv 2)))), ?_⟩
    have a1 : ("A" : Str).length = 1 := by decide
    have a2 : ("-" : Str).length = 1 := by decide
    refine ⟨fun σ' H' => ∃ r, σ' = [some (.ref p), some (.ref a), some (.str (lettersL ks ab ws)), r] ∧ Same H H', ?_, ?_⟩
    · refine ⟨_, rfl, a, rfl, ⟨_, SqL.of ha⟩, ?_⟩
      refine for_list (K := K) (a := a) (xs := ws.map V.str) (fun i σ' H' => ∃ r, σ' = [some (.ref p), some (.ref a), some (.str ((ws.take i).foldl (stepL ks ab) "")), r] ∧ Same H H') ⟨none, rfl, Same.refl _⟩ ?_ ?_ ?_
      · rintro i σ' H' _ ⟨r, _, e⟩
        exact SqL.of (e _ _ ha)
      · rintro i x σ' H' hx ⟨r, rfl, e⟩
        obtain ⟨z, hz, rfl⟩ := str_at hx
        have hi : i < ws.length := (List.getElem?_eq_some_iff.mp hz).1
        have zok := wo z (List.mem_of_getElem? hz)
        have hstep : (ws.take (i + 1)).foldl (stepL ks ab) "" = stepL ks ab ((ws.take i).foldl (stepL ks ab) "") z := by
          rw [take_more' hz, List.foldl_append]
          rfl
        have hlen : ((ws.take i).foldl (stepL ks ab) "").length ≤ 100 := by
          rw [fold_len, List.length_take]
          have : ("" : Str).length = 0 := by decide
          omega
        rw [hstep]
        generalize (ws.take i).foldl (stepL ks ab) "" = acc at hlen
        refine ⟨_, rfl, 45, acc, rfl, rfl, _, rfl, ?_⟩
        unfold stepL
        by_cases h45 : 45 ∈ acc.cps.toList
        · rw [decide_eq_true h45, if_pos h45]
          exact iteT ⟨_, rfl, _, _, rfl, rfl, by rw [a1, PySem.sizeLine_eq]; omega, _, rfl, e⟩
        · rw [decide_eq_false h45, if_neg h45]
          refine iteF ⟨_, rfl, rfl, _, rfl, ?_⟩
          by_cases hd : z = "--"
          · rw [decide_eq_true (congrArg V.str hd), if_pos hd]
            exact iteT ⟨_, rfl, _, _, rfl, rfl, by rw [a2, PySem.sizeLine_eq]; omega, _, rfl, e⟩
          · rw [decide_eq_false (fun q => hd (V.str.inj q)), if_neg hd]
            exact iteF ⟨_, rfl, _, rfl, _, rfl, p, ab, ks, z, rfl, hp.keep e, zok, fun H2 e2 => ⟨_, _, rfl, rfl, by rw [letter_len, PySem.sizeLine_eq]; omega, _, rfl, e.trans e2⟩⟩
      · rintro σ' H' ⟨r, rfl, e⟩
        rw [List.length_map, List.take_length]
        exact ⟨r, rfl, e⟩
    rintro _ H1 ⟨r, rfl, e⟩
    exact ⟨_, rfl, k H1 e⟩
theorem scLetters : FnScope ["parser", "words"] ["parser", "words"] (defScope sLetters) := ⟨rfl, rfl, rfl, by decide +kernel, rfl, by decide +kernel, by decide +kernel⟩
theorem ok_letters {f fL fW CP : Addr} {fd fdL fdW : FuncData} (F : Fun K "letters" "letters" sLetters f fd) (G : At P w K mg base "letters_of" 4 ["parser", "words"] (spLetsOf CP) fL fdL) (W : At P w K mg base "words_behind_files" 2 ["parser", "words"] (spWbf CP) fW fdW) : FnOk P w K mg base CX0 5 f fd ["parser", "words"] (spLetters CP) := by
  refine F.ok scLetters (fun vs H Q E h => ?_) (fun cdv A outer s H vs Q E hr h => ?_)
  · obtain ⟨p, a, ab, ks, ws, rfl, _⟩ := h
    rfl
  · obtain ⟨p, a, ab, ks, ws, rfl, hp, ha, hw, k⟩ := h
    have r2 : Room 2 (A.deeper (PyProof.Rows.envOfC "letters" (defScope sLetters) s.heap.objs.size f cdv)) := hr.mono (by decide)
    refine ⟨_, pss_one (ps_ret (pe_call G.ok hr rfl G.m G.k G.b .nil pass0 (pa_cons (pv 0) (pa_cons (pe_call W.ok r2 rfl W.m W.k W.b .nil pass0 (pa_cons (pv 0) (pa_cons (pv 1) pa_nil))) pa_nil)))), ?_⟩
    exact ⟨_, rfl, _, rfl, _, rfl, p, a, ab, ks, ws, rfl, hp, ha, hw, fun L H1 e1 hL => ⟨p, L, ab, ks, ws, rfl, hp.keep e1, hL, hw, fun H2 e2 => k H2 (e1.trans e2)⟩⟩
end
end K01

namespace K01
open PySem L2 PyProof PyProof.Rows TL
/-! ### the law's letters: the option of a flag, numbers -/
theorem flags_facts : ∀ k ∈ flagsAll, PyData.strOk k = true ∧ 2 ≤ k.length ∧ k.length ≤ 10 ∧ inD (wAt k 0) = true ∧ k ≠ "--" ∧ k ≠ "" := by decide +kernel
structure LM (H : Hp) (m : Addr) (ab : Bool) (ks : List Str) : Prop where
  ex : ∃ fi lo lp vs os, H m = some (.dK (mK (.bl ab) fi lo lp)) ∧ H lo = some (.lst vs) ∧ OTs H vs os ∧ flsOf os = ks
  l1 : ks.length ≤ 20
  fa : ∀ k ∈ ks, k ∈ flagsAll
theorem LM.keep {H H' : Hp} {m : Addr} {ab : Bool} {ks : List Str} (h : LM H m ab ks) (e : Same H H') : LM H' m ab ks := by
  obtain ⟨fi, lo, lp, vs, os, h1, h2, h3, h4⟩ := h.ex
  exact ⟨⟨fi, lo, lp, vs, os, e _ _ h1, e _ _ h2, h3.keep fun b u _ q => e b u q, h4⟩, h.l1, h.fa⟩
def vD : V → PyData
  | .int i => .int i
  | .str x => .str x
  | _ => .none
def optD (o : Opt) : PyData := .tuple [.tuple (o.fl.map PyData.str), .str o.d, vD o.nv, .str o.act]
theorem kinds_data : ∀ p ∈ kinds, (p.1 = .non ∨ (∃ i, p.1 = .int i) ∨ ∃ x, p.1 = .str x ∧ PyData.strOk x = true) ∧ PyData.strOk p.2 = true := by
  intro p hp
  unfold kinds at hp
  simp only [List.mem_cons, List.not_mem_nil, or_false] at hp
  rcases hp with rfl | rfl | rfl | rfl | rfl | rfl | rfl | rfl | rfl | rfl
  · exact ⟨.inr (.inl ⟨_, rfl⟩), by decide +kernel⟩
  · exact ⟨.inr (.inl ⟨_, rfl⟩), by decide +kernel⟩
  · exact ⟨.inl rfl, by decide +kernel⟩
  · exact ⟨.inl rfl, by decide +kernel⟩
  · exact ⟨.inr (.inr ⟨_, rfl, by decide +kernel⟩), by decide +kernel⟩
  · exact ⟨.inr (.inr ⟨_, rfl, by decide +kernel⟩), by decide +kernel⟩
  · exact ⟨.inr (.inr ⟨_, rfl, by decide +kernel⟩), by decide +kernel⟩
  · exact ⟨.inr (.inl ⟨_, rfl⟩), by decide +kernel⟩
  · exact ⟨.inr (.inl ⟨_, rfl⟩), by decide +kernel⟩
  · exact ⟨.inr (.inr ⟨_, rfl, by decide +kernel⟩), by decide +kernel⟩
theorem lay_strs {l : List Str} (h : ∀ x ∈ l, PyData.strOk x = true) : PyData.canLayAll0 (l.map PyData.str) = true ∧ PyData.depthAll (l.map PyData.str) = 0 := by
  induction l with
  | nil => exact ⟨rfl, rfl⟩
  | cons k ks ih =>
    obtain ⟨i1, i2⟩ := ih fun j hj => h j (List.mem_cons_of_mem _ hj)
    constructor
    · show (PyData.strOk k && PyData.canLayAll0 (ks.map PyData.str)) = true
      rw [i1, Bool.and_true]
      exact h k List.mem_cons_self
    · show max 0 (PyData.depthAll (ks.map PyData.str)) = 0
      rw [i2]
      rfl
theorem opt_data {K : PySem.W.Frag} {H : Hp} {v : V} {o : Opt} (h : OT H v o) : Dp K H v (optD o) ∧ PyData.canLay0 (optD o) = true ∧ PyData.depth (optD o) ≤ 2 := by
  obtain ⟨t, ft, rfl, ht, hft⟩ := h.ex
  obtain ⟨k1, k2⟩ := kinds_data _ h.kd
  obtain ⟨l1, l2⟩ := lay_strs (l := o.fl) fun x hx => (flags_facts x (h.okf.2.2 x hx)).1
  have nv : Dp K H o.nv (vD o.nv) ∧ PyData.canLay0 (vD o.nv) = true ∧ PyData.depth (vD o.nv) = 0 := by
    rcases k1 with e | ⟨i, e⟩ | ⟨x, e, hx⟩
    · have e' : o.nv = .non := e
      rw [e']
      exact ⟨.non, rfl, rfl⟩
    · have e' : o.nv = .int i := e
      rw [e']
      exact ⟨.int i, rfl, rfl⟩
    · have e' : o.nv = .str x := e
      rw [e']
      exact ⟨.str x, hx, rfl⟩
  refine ⟨.tup (SqT.of ht) (.cons (.tup (SqT.of hft) (dpAll_strs _)) (.cons (.str _) (.cons nv.1 (.cons (.str _) .nil)))), ?_, ?_⟩
  · show (PyData.canLayAll0 (o.fl.map PyData.str) && (PyData.strOk o.d && (PyData.canLay0 (vD o.nv) && (PyData.strOk o.act && true)))) = true
    rw [l1, h.dk, nv.2.1, k2]
    rfl
  · show max (PyData.depthAll (o.fl.map PyData.str) + 1) (max 0 (max (PyData.depth (vD o.nv)) (max 0 0))) + 1 ≤ 2
    rw [l2, nv.2.2]
    decide
theorem opts_data {K : PySem.W.Frag} {H : Hp} : ∀ {xs : List V}, (∀ x ∈ xs, ∃ o, OT H x o) → ∃ ds, DpAll K H xs ds ∧ PyData.canLayAll0 ds = true ∧ PyData.depthAll ds ≤ 2 ∧ ds.isEmpty = xs.isEmpty
  | [], _ => ⟨[], .nil, rfl, Nat.zero_le _, rfl⟩
  | x :: xs, h => by
    obtain ⟨o, ho⟩ := h x List.mem_cons_self
    obtain ⟨d1, d2, d3⟩ := opt_data (K := K) ho
    obtain ⟨ds, h1, h2, h3, _⟩ := opts_data (K := K) fun y hy => h y (List.mem_cons_of_mem _ hy)
    refine ⟨optD o :: ds, .cons d1 h1, ?_, ?_, rfl⟩
    · show (PyData.canLay0 (optD o) && PyData.canLayAll0 ds) = true
      rw [d2, h2]
      rfl
    · show max (PyData.depth (optD o)) (PyData.depthAll ds) ≤ 2
      omega
def spROption : Sp := fun vs H Q _ => ∃ (m : Addr) (ab : Bool) (ks : List Str) (z : Str), vs = [.ref m, .str z] ∧ LM H m ab ks ∧ ∀ (v : V) (H' : Hp), Same H H' → ((v = .non) ↔ z ∉ ks) → Q v H'
def spRIsNum : Sp := fun vs H Q _ => ∃ x : Str, vs = [.str x] ∧ x.length ≤ 900 ∧ ∀ H', Same H H' → Q (.bl (isNumP x)) H'
theorem sum_join : ∀ ps : List Str, (ps.map (·.length)).sum ≤ (Txt.join "." ps).length
  | [] => Nat.zero_le _
  | [p] => by
    have e : Txt.join "." [p] = p := by rw [join_eq]; rfl
    rw [e]
    simp
  | p :: q :: r => by
    have e : Txt.join "." (p :: q :: r) = p ++ "." ++ Txt.join "." (q :: r) := by rw [join_eq, join_eq]; rfl
    have ih := sum_join (q :: r)
    rw [e, len_app, len_app, List.map_cons, List.sum_cons]
    omega
theorem split_facts (t : Str) : ∃ ps p, Txt.split t "." = ps ++ [p] ∧ ((ps ++ [p]).map (·.length)).sum ≤ t.length ∧ (ps ++ [p]).length ≤ t.length + 1 := by
  obtain ⟨ps, h1, h2, h3⟩ := partsS t
  have hs := split_join (y := ".") tl_dot (by decide +kernel) h1 h2
  rw [h3] at hs
  have hlen : ∀ ps : List Str, ps.length ≤ (Txt.join "." ps).length + 1 := by
    intro ps
    induction ps with
    | nil => exact Nat.zero_le _
    | cons p r ih =>
      cases r with
      | nil => exact Nat.succ_le_succ (Nat.zero_le _)
      | cons q r =>
        have e : Txt.join "." (p :: q :: r) = p ++ "." ++ Txt.join "." (q :: r) := by rw [join_eq, join_eq]; rfl
        have d1 : ("." : Str).length = 1 := by decide
        rw [e, len_app, len_app, d1]
        show (q :: r).length + 1 ≤ _
        omega
  refine ⟨ps.dropLast, ps.getLast h1, ?_, ?_, ?_⟩
  · rw [hs, List.dropLast_concat_getLast]
  · rw [List.dropLast_concat_getLast, ← h3]
    exact sum_join ps
  · rw [List.dropLast_concat_getLast, ← h3]
    exact hlen ps
section
variable {P : Program} {w : World} {K : PySem.W.Frag} {mg : Str → Option Value} {base : Heap}
abbrev nROp : List Str := ["_law_m", "_law_flag", "_law_some", "_law_one", "_law_option"]
theorem scROp : FnScope nROp ["_law_m", "_law_flag"] (defScope sROption) := ⟨rfl, rfl, rfl, by decide +kernel, rfl, by decide +kernel, by decide +kernel⟩
theorem ok_roption {f fF : Addr} {fd fdF : FuncData} (F : Fun K "_law_r_option" "_law_r_option" sROption f fd) (G : At P w K mg base "_law_r_flags" 1 ["_law_m"] spRFlags fF fdF) : FnOk P w K mg base CX0 2 f fd ["_law_m", "_law_flag"] spROption := by
  refine F.ok scROp (fun vs H Q E h => ?_) (fun cdv A outer s H vs Q E hr h => ?_)
  · obtain ⟨m, ab, ks, z, rfl, _⟩ := h
    rfl
  · obtain ⟨m, ab, ks, z, rfl, M, k⟩ := h
    have hu : (A.deeper (PyProof.Rows.envOfC "_law_r_option" (defScope sROption) s.heap.objs.size f cdv)).units + 64 < cLine := hr.units
    refine ⟨_, pss_mid (ps_setLc (i := 2) (own := [("_law_one", 3), ("_law_option", 4)]) (g := gTup K 2 (gCons (gName 3) (gCons (gName 4) gNil))) (tt := tTest (tOp rEq (tVar 3) (tVar 1))) (te := tVar 4) rfl scROp.nd rfl rfl (sw_true rfl rfl rfl (by decide +kernel)) (pi_list (pe_call G.ok hr rfl G.m G.k G.b .nil pass0 (pa_cons (pv 0) pa_nil))) (blkOk_by (N := nROp) (sc := defScope sROption) (by decide +kernel)) (fun _ _ _ _ _ => pg_tup rfl (pgs_cons (pg_name (i := 3) scROp.nd rfl (Or.inl rfl)) (pgs_cons (pg_name (i := 4) scROp.nd rfl (Or.inl rfl)) pgs_nil))) (fun _ _ _ _ _ => by exact pts_one (pt_cmpR op_eq (pv 3) (pv 1) (nomark _))) (fun _ _ _ _ _ => by exact pv 4))
      (pss_one (ps_ret (pe_ifExp (pt_cmpR (op_neD hu) (pv 2) (pe_lst pa_nil) (nomark _)) (pe_ix ix_list (pv 2) pe_int (fun _ _ => rfl)) pe_non))), ?_⟩
    obtain ⟨fi, lo, lp, os, qs, h1, h2, h3, h4⟩ := M.ex
    have l1 := M.l1
    refine ⟨fun σ' H' => ∃ L xs, σ' = [some (.ref m), some (.str z), some (.ref L), none, none] ∧ Same H H' ∧ H' L = some (.lst xs) ∧ (∀ x ∈ xs, ∃ o, OT H' x o) ∧ (xs.isEmpty = true ↔ z ∉ ks) ∧ (∀ x ∈ xs, ∃ t, x = V.ref t), ?_, ?_⟩
    · refine ⟨_, rfl, m, fi, lo, lp, _, os, qs.map (·.fl), rfl, h1, h2, h3.tups, by show (flsOf qs).length ≤ 100; rw [h4]; omega, fun L xs H1 e1 hL hP => ⟨L, rfl, ⟨_, SqL.of hL⟩, fun D hD => ?_⟩⟩
      have hP' : PairsAt os H1 xs ks := by rw [← h4]; exact hP
      refine lc_list (K := K) (a := L) (xs := xs) (fun j H2 => Same H1 H2 ∧ ∃ acc, H2 D = some (.lst acc) ∧ (∀ x ∈ acc, x ∈ os) ∧ (acc.isEmpty = true ↔ z ∉ ks.take j) ∧ acc.length ≤ j) ⟨same_upd hD, [], upd_same, (fun x hx => nomatch hx), ⟨fun _ => by simp, fun _ => rfl⟩, Nat.le_refl _⟩ (fun j H2 _ h => SqL.of (h.1 _ _ hL)) (fun j y H2 hy h => ?_) (fun H2 h => ?_)
      · obtain ⟨s2, acc, hDa, a1, a2, a3⟩ := h
        have hj : j < ks.length := by
          rw [← hP'.len]
          exact (List.getElem?_eq_some_iff.mp hy).1
        obtain ⟨t, v, e2, ht, hv⟩ := hP'.at_ j _ (List.getElem?_eq_getElem hj)
        cases Option.some.inj (e2.symm.trans hy)
        refine ⟨t, _, rfl, SqT.of (s2 _ _ ht), rfl, _, _, rfl, _, _, rfl, rfl, rfl, _, rfl, _, rfl, rfl, _, rfl, ?_⟩
        have etk : ks.take (j + 1) = ks.take j ++ [ks[j]] := take_more' (List.getElem?_eq_getElem hj)
        refine ite2 (fun c => ?_) (fun c => ⟨s2, acc, hDa, a1, ?_, by omega⟩)
        · have ez : ks[j] = z := V.str.inj (of_decide_eq_true c)
          refine ⟨_, rfl, acc, hDa, by rw [PySem.sizeLine_eq]; omega, same_mut s2 hD, _, upd_same, fun x hx => ?_, ⟨fun q => ?_, fun q => ?_⟩, by rw [List.length_append]; exact Nat.succ_le_succ a3⟩
          · rcases List.mem_append.mp hx with hx | hx
            · exact a1 x hx
            · rw [List.mem_singleton.mp hx]
              exact hv
          · cases acc <;> cases q
          · rw [etk, ez] at q
            exact absurd (List.mem_append_right _ List.mem_cons_self) q
        · have ez : ks[j] ≠ z := fun q => c (decide_eq_true (congrArg V.str q))
          rw [a2, etk, List.mem_append, not_or, List.mem_singleton]
          exact ⟨fun q => ⟨q, fun y => ez y.symm⟩, fun q => q.1⟩
      · obtain ⟨s2, acc, hDa, a1, a2, _⟩ := h
        rw [hP'.len, List.take_length] at a2
        have e := e1.trans s2
        have h3' := h3.keep fun b u _ q => e b u q
        have hOT : ∀ x ∈ acc, ∃ o, OT H2 x o := fun x hx => by
          obtain ⟨i, hi, ei⟩ := List.getElem_of_mem (a1 x hx)
          have hq : i < qs.length := by rw [← h3'.len]; exact hi
          obtain ⟨v, hv, ot⟩ := h3'.at_ i _ (List.getElem?_eq_getElem hq)
          rw [List.getElem?_eq_getElem hi, ei] at hv
          rw [Option.some.inj hv]
          exact ⟨_, ot⟩
        exact ⟨D, acc, rfl, e, hDa, hOT, a2, fun x hx => by
          obtain ⟨o, ot⟩ := hOT x hx
          obtain ⟨t, ft, e1, _⟩ := ot.ex
          exact ⟨t, e1⟩⟩
    rintro _ H1 ⟨L, xs, rfl, e1, hL, hx, hz, hr⟩
    refine ⟨_, rfl, (by show 0 ≤ sizeLine; decide), fun q hq => ?_⟩
    have eq := same_upd (o := .lst []) hq
    obtain ⟨ds, d1, d2, d3, d4⟩ := opts_data (K := K) (H := upd H1 q (.lst [])) (xs := xs) fun x h => by
      obtain ⟨o, ot⟩ := hx x h
      exact ⟨o, ot.keep fun b u _ e => eq b u e⟩
    have hsh : SeqAt.shaped (.list ds) = true := by
      unfold SeqAt.shaped
      rw [Bool.and_eq_true]
      refine ⟨d2, decide_eq_true ?_⟩
      show PyData.depthAll ds + 1 ≤ 64
      omega
    refine ⟨.list ds, .list [], .lst (SqL.of (eq _ _ hL)) d1, .lst (SqL.of upd_same) .nil, hsh, by decide, !xs.isEmpty, ?_, ?_⟩
    · rw [← d4]
      cases ds <;> rfl
    cases xs with
    | nil => exact iteF (k .non _ (e1.trans eq) ⟨fun _ => hz.mp rfl, fun _ => rfl⟩)
    | cons x xs =>
      obtain ⟨t, rfl⟩ := hr x List.mem_cons_self
      refine iteT ⟨_, rfl, L, _, _, _, rfl, rfl, SqL.of (eq _ _ hL), atI_nat (j := 0) rfl, k _ _ (e1.trans eq) ⟨(fun q => nomatch q), fun q => nomatch hz.mpr q⟩⟩
theorem scRNum : FnScope ["_law_word", "_law_parts", "_law_sign"] ["_law_word"] (defScope sRIsNum) := ⟨rfl, rfl, rfl, by decide +kernel, rfl, by decide +kernel, by decide +kernel⟩
theorem ok_rnum {f : Addr} {fd : FuncData} (F : Fun K "_law_r_is_number" "_law_r_is_number" sRIsNum f fd) (T : TxtB mg) : FnOk P w K mg base CX0 1 f fd ["_law_word"] spRIsNum := by
  refine F.ok scRNum (fun vs H Q E h => ?_) (fun cdv A outer s H vs Q E hr h => ?_)
  · obtain ⟨x, rfl, _⟩ := h
    rfl
  · obtain ⟨x, rfl, hx, k⟩ := h
    refine ⟨_, pss_cons (ps_set (i := 1) scRNum.nd rfl (Or.inl rfl) (pe_split (pe_slice sl_str (pv 0) (po_some pe_int) po_none) pe_str))
      (pss_cons (ps_if (PW.pt (pw_or (pt_cmpR op_ne (pe_slice sl_str (pv 0) po_none (po_some pe_int)) pe_str (nomark _)) (pw_or (pt_cmpR op_gt (pe_callB call_len_seq (by rfl) T.len PySem.boot_len (pa_cons (pv 1) pa_nil)) pe_int (nomark _)) (pw_or1 (pt_cmpR op_eq (pe_ix ix_list (pv 1) (pe_un un_neg pe_int) (fun _ _ => rfl)) pe_str (nomark _)))))) (pss_one (ps_ret pe_bl)) pss_nil)
      (pss_one (ps_ret (pe_callB (cr_all rfl) (by rfl) T.all (by decide +kernel) (pa_cons (pe_lc (own := [("_law_sign", 2)]) (g := gName 2) (tt := tYes) rfl scRNum.nd (pi_str (pe_join pe_str (pv 1))) (blkOk_by (N := ["_law_word", "_law_parts", "_law_sign"]) (sc := defScope sRIsNum) (by decide +kernel)) (fun _ _ _ _ _ => pg_name (i := 2) scRNum.nd rfl (Or.inl rfl)) (fun _ _ _ _ _ => pts_nil)
        (fun _ _ _ _ _ => by exact pe_cmpR op_in_sign (pv 2) pe_str (by rfl))) pa_nil))))), ?_⟩
    have hsl : x.length ≤ sizeLine := by rw [PySem.sizeLine_eq]; omega
    have ht := tail_len x
    rw [num_eq] at k
    unfold isNumR at k
    obtain ⟨ps, pl, hs, hsum, hln⟩ := split_facts (tailOf x)
    rw [hs] at k
    refine ⟨_, rfl, _, rfl, x, rfl, hsl, ⟨_, rfl⟩, tailOf x, _, rfl, rfl, by decide, by rw [PySem.sizeLine_eq]; omega, fun L hL => ?_⟩
    rw [hs]
    have e1 := same_upd (o := .lst ((ps ++ [pl]).map V.str)) hL
    have t1 : upd H L (.lst ((ps ++ [pl]).map V.str)) L = _ := upd_same
    generalize upd H L (.lst ((ps ++ [pl]).map V.str)) = H1 at e1 t1
    refine ⟨_, rfl, _, rfl, x, rfl, hsl, rfl, _, rfl, ?_⟩
    by_cases hc : headOf x = "-"
    rotate_left
    · have hc' : ¬ cutS x none (some 1) = "-" := hc
      rw [decide_eq_false (fun z => hc' (V.str.inj z))]
      rw [if_pos (.inl hc)] at k
      exact iteT (iteT (k _ e1))
    have hc' : cutS x none (some 1) = "-" := hc
    rw [hc']
    refine iteF ⟨_, rfl, L, _, rfl, .inl (SqL.of t1), _, _, rfl, rfl, _, rfl, ?_⟩
    refine ite2 (fun h2 => ?_) (fun h2 => ?_)
    · have h2' : 2 < (ps ++ [pl]).length := by
        have := of_decide_eq_true h2
        rw [List.length_map] at this
        omega
      rw [if_pos (.inr (.inl h2'))] at k
      exact iteT (k _ e1)
    have h2' : ¬ 2 < (ps ++ [pl]).length := fun q => h2 (decide_eq_true (by rw [List.length_map]; omega))
    refine ⟨_, rfl, _, rfl, L, _, _, V.str pl, rfl, rfl, SqL.of t1, ?_, rfl, _, rfl, ?_⟩
    · rw [List.map_append]
      exact atI_last _ _
    by_cases hp : pl = ""
    · rw [if_pos (.inr (.inr (by rw [hp]; simp)))] at k
      rw [hp]
      exact iteT (k _ e1)
    rw [decide_eq_false (fun z => hp (V.str.inj z))]
    rw [if_neg] at k
    rotate_left
    · rintro (q | q | q)
      · exact q hc
      · exact h2' q
      · simp at q
        exact hp q
    have hjl : (Txt.join "" (ps ++ [pl])).cps.toList.length ≤ 1000 := by
      have e : ∀ l : List Str, (Txt.join "" l).length = (l.map (·.length)).sum := by
        intro l
        rw [join_eq]
        induction l with
        | nil => rfl
        | cons a l ih =>
          cases l with
          | nil => simp [Str.join]
          | cons b l =>
            show (a ++ "" ++ Str.join "" (b :: l)).length = _
            have z : ("" : Str).length = 0 := by decide
            have hs : (List.map (fun x => x.length) (a :: b :: l)).sum = a.length + (List.map (fun x => x.length) (b :: l)).sum := by rw [List.map_cons, List.sum_cons]
            rw [len_app, len_app, z, ih, hs]
            omega
      have h1 : (Txt.join "" (ps ++ [pl])).cps.toList.length = (Txt.join "" (ps ++ [pl])).length := by simp [PySem.Str.length]
      rw [h1, e]
      omega
    have z0 : ("" : Str).length = 0 := by decide
    refine iteF ⟨⟨_, rfl⟩, _, rfl, "", L, ps ++ [pl], rfl, rfl, .inl (SqL.of t1), by rw [z0, Nat.mul_zero]; omega, _, rfl, fun D hD => ?_⟩
    refine lc_it walk_str (BlI dig H1 D (Txt.join "" (ps ++ [pl])).cps.toList) (blI0 hD) (fun _ _ _ _ => trivial) (fun i v H' H'' hi h y => ?_) (fun H' h => ?_)
    · obtain ⟨rfl, c, hc, rfl⟩ := y
      exact ⟨rfl, _, rfl, c, _, rfl, rfl, blI_step hD (by rw [Array.getElem?_toList]; exact hc) h (Same.refl _) rfl hjl⟩
    · obtain ⟨e2, hl⟩ := blI_end (by simp) h
      refine ⟨D, _, rfl, SqL.of hl, ?_⟩
      have ea : ((Txt.join "" (ps ++ [pl])).cps.toList.map dig).all id = allD (Txt.join "" (ps ++ [pl])) := by
        unfold allD
        rw [List.all_map]
        rfl
      rw [ea]
      exact k _ (e1.trans e2)
end
end K01

namespace K01
open PySem L2 PyProof PyProof.Rows TL
/-! ### the law's letter of a word -/
def spRLetter : Sp := fun vs H Q _ => ∃ (m : Addr) (ab : Bool) (ks : List Str) (z : Str), vs = [.ref m, .str z] ∧ LM H m ab ks ∧ okW z ∧ ∀ H', Same H H' → Q (.str (letterL ks ab z)) H'
theorem letter_flag {ks : List Str} {ab : Bool} {z : Str} (fa : ∀ k ∈ ks, k ∈ flagsAll) (hz : z ∈ ks) : letterL ks ab z = "O" := by
  obtain ⟨_, f2, f3, f4, f5, f6⟩ := flags_facts z (fa z hz)
  unfold letterL
  rw [if_neg, if_pos]
  · unfold meantL
    rw [if_neg, if_pos hz]
    · exact fun q => nomatch q
    · rintro (q | q | q)
      · omega
      · rw [f4] at q
        cases q
      · exact f5 q
  · rintro (q | q | q)
    · exact f6 q
    · rw [f4] at q
      cases q
    · omega
theorem in_bools (bs : List Bool) : inV (.bl true) (bs.map V.bl) = bs.any id := by
  induction bs with
  | nil => rfl
  | cons b bs ih =>
    unfold inV at ih ⊢
    rw [List.map_cons, List.any_cons, List.any_cons, ih]
    cases b <;> rfl
theorem flat_bools (bs : List Bool) : (bs.map V.bl).all flatV = true := by
  induction bs with
  | nil => rfl
  | cons b bs ih => exact ih
section
variable {P : Program} {w : World} {K : PySem.W.Frag} {mg : Str → Option Value} {base : Heap}
abbrev nRLt : List Str := ["_law_m", "_law_word", "_law_flag", "_law_option"]
theorem scRLt : FnScope nRLt ["_law_m", "_law_word"] (defScope sRLetter) := ⟨rfl, rfl, rfl, by decide +kernel, rfl, by decide +kernel, by decide +kernel⟩
theorem ok_rletter {f fO fM fN fF : Addr} {fd fdO fdM fdN fdF : FuncData} (F : Fun K "_law_r_letter" "_law_r_letter" sRLetter f fd) (T : TxtB mg) (O : At P w K mg base "_law_r_option" 2 ["_law_m", "_law_flag"] spROption fO fdO) (M : At P w K mg base "_law_r_meant" 2 ["_law_m", "_law_word"] spRMeant fM fdM) (N : At P w K mg base "_law_r_is_number" 1 ["_law_word"] spRIsNum fN fdN) (G : At P w K mg base "_law_r_flags" 1 ["_law_m"] spRFlags fF fdF) : FnOk P w K mg base CX0 3 f fd ["_law_m", "_law_word"] spRLetter := by
  refine F.ok scRLt (fun vs H Q E h => ?_) (fun cdv A outer s H vs Q E hr h => ?_)
  · obtain ⟨m, ab, ks, z, rfl, _⟩ := h
    rfl
  · obtain ⟨m, ab, ks, z, rfl, hp, hz, k⟩ := h
    have hu : (A.deeper (PyProof.Rows.envOfC "_law_r_letter" (defScope sRLetter) s.heap.objs.size f cdv)).units + 64 < cLine := hr.units
    have hu1 := hu_of hr
    have r1 : Room 1 (A.deeper (PyProof.Rows.envOfC "_law_r_letter" (defScope sRLetter) s.heap.objs.size f cdv)) := hr.mono (by decide)
    refine ⟨_, pss_mid (ps_if (PW.pt (pw_or (pt_cmpR op_eq (pv 1) pe_str (nomark _)) (pw_or1 (pt_cmpR op_notin_str (pe_ix ix_str (pv 1) pe_int (fun _ _ => rfl)) (pe_dget hu1 (pv 0) pe_str (fun _ _ => rfl)) (by rfl))))) (pss_one (ps_ret pe_str)) pss_nil)
      (pss_mid (ps_if (pt_cmp (pc_notN (pe_call O.ok hr rfl O.m O.k O.b .nil pass0 (pa_cons (pv 0) (pa_cons (pv 1) pa_nil))))) (pss_one (ps_ret pe_str)) pss_nil)
      (pss_mid (ps_if (pt_cmpR op_eq (pe_callB call_len_str (by rfl) T.len PySem.boot_len (pa_cons (pv 1) pa_nil)) pe_int (nomark _)) (pss_one (ps_ret pe_str)) pss_nil)
      (pss_mid (ps_if (pt_cmpR (op_neD hu) (pe_call M.ok hr rfl M.m M.k M.b .nil pass0 (pa_cons (pv 0) (pa_cons (pv 1) pa_nil))) (pe_lst pa_nil) (nomark _)) (pss_one (ps_ret pe_str)) pss_nil)
      (pss_mid (ps_if (PW.pt (pw_and (pt_val (pe_call N.ok r1 rfl N.m N.k N.b .nil pass0 (pa_cons (pv 1) pa_nil))) (pw_and1 (pt_cmpR op_notIn_seq pe_bl (pe_lc (own := [("_law_flag", 2), ("_law_option", 3)]) (g := gTup K 2 (gCons (gName 2) (gCons (gName 3) gNil))) (tt := tYes) (te := tCall spRIsNum [] E0 (tCons (tVar 2) tNil)) rfl scRLt.nd (pi_list (pe_call G.ok r1 rfl G.m G.k G.b .nil pass0 (pa_cons (pv 0) pa_nil))) (blkOk_by (N := nRLt) (sc := defScope sRLetter) (by decide +kernel)) (fun _ _ _ _ _ => pg_tup rfl (pgs_cons (pg_name (i := 2) scRLt.nd rfl (Or.inl rfl)) (pgs_cons (pg_name (i := 3) scRLt.nd rfl (Or.inl rfl)) pgs_nil))) (fun _ _ _ _ _ => pts_nil)
        (fun _ _ _ _ _ => by exact pe_call N.ok (by exact r1) rfl N.m N.k N.b .nil pass0 (pa_cons (pv 2) pa_nil))) (by rfl))))) (pss_one (ps_ret pe_str)) pss_nil)
      (pss_one (ps_ret (pe_ix ix_list (pe_lst (pa_cons pe_str (pa_cons pe_str pa_nil))) (pe_callTy call_int1 (by rfl) T.int (by decide +kernel) (pa_cons (pe_cmpR op_in_sign pe_str (pv 1) (by rfl)) pa_nil)) (fun _ _ => rfl)))))))), ?_⟩
    obtain ⟨fi, lo, lp, os, qs, h1, h2, h3, h4⟩ := hp.ex
    obtain ⟨v1, v2, v3, v4⟩ := mK_get (.bl ab) fi lo lp
    obtain ⟨zl, zo⟩ := hz
    have hsz : z.length ≤ sizeLine := by rw [PySem.sizeLine_eq]; omega
    have hcz : z.cps.toList.length = z.length := by simp [PySem.Str.length]
    have kfa := hp.fa
    have hl1 := hp.l1
    have hfl : (qs.map (·.fl)).flatten = ks := h4
    -- no sign
    refine ⟨fun σ' H' => σ' = [some (.ref m), some (.str z), none, none] ∧ H = H' ∧ z ≠ "" ∧ inD (wAt z 0) = true, ?_, ?_⟩
    · have kA : (z = "" ∨ inD (wAt z 0) = false ∨ z.length = 1) → Q (.str "A") H := fun hh => by
        have := k H (Same.refl _)
        unfold letterL at this
        rw [if_pos hh] at this
        exact this
      refine ⟨_, rfl, rfl, _, rfl, ?_⟩
      by_cases hy : z = ""
      · rw [decide_eq_true (congrArg V.str hy)]
        exact iteT (kA (.inl hy))
      rw [decide_eq_false (fun q => hy (V.str.inj q))]
      have hyl : 0 < z.cps.toList.length := by
        cases e : z.cps.toList with
        | nil => exact absurd (ext_tl (y := "") e) hy
        | cons c cs => exact Nat.succ_pos _
      refine iteF ⟨_, rfl, z, 0, _, rfl, rfl, hsz, wAt_some (i := 0) hyl, _, rfl, m, _, rfl, DGet.k (k := (Sum.inr "prefix" : Key)) h1, _, _, rfl, rfl, _, rfl, ?_⟩
      refine ite2 (fun hc => ?_) (fun hc => ?_)
      · have hd : inD (wAt z 0) = false := by unfold inD; simpa using hc
        exact kA (.inr (.inl hd))
      have hd : inD (wAt z 0) = true := by unfold inD; simpa using hc
      exact ⟨rfl, rfl, hy, hd⟩
    rintro _ _ ⟨rfl, rfl, hne, hd⟩
    -- a flag
    refine ⟨fun σ' H' => σ' = [some (.ref m), some (.str z), none, none] ∧ Same H H' ∧ z ∉ ks, ?_, ?_⟩
    · refine ⟨_, rfl, _, rfl, m, ab, ks, z, rfl, hp, fun v H1 e1 hv => ⟨_, rfl, ?_⟩⟩
      by_cases hzk : z ∈ ks
      · have hvn : ¬ v = .non := fun q => hv.mp q hzk
        rw [decide_eq_false hvn]
        have := k H1 e1
        rw [letter_flag kfa hzk] at this
        exact iteT this
      · rw [decide_eq_true (hv.mpr hzk)]
        exact iteF ⟨rfl, e1, hzk⟩
    rintro _ H1 ⟨rfl, e1, hzk⟩
    -- one sign
    refine ⟨fun σ' H' => σ' = [some (.ref m), some (.str z), none, none] ∧ H1 = H' ∧ z.length ≠ 1, ?_, ?_⟩
    · refine ⟨_, rfl, z, rfl, hsz, rfl, _, rfl, ?_⟩
      refine ite2 (fun hc => ?_) (fun hc => ⟨rfl, rfl, fun q => hc (decide_eq_true (congrArg V.int (by omega)))⟩)
      have hq : z.length = 1 := by have := V.int.inj (of_decide_eq_true hc); omega
      have := k H1 e1
      unfold letterL at this
      rw [if_pos (.inr (.inr hq))] at this
      exact this
    rintro _ _ ⟨rfl, rfl, hl⟩
    have hns : ¬ (z = "" ∨ inD (wAt z 0) = false ∨ z.length = 1) := by
      rintro (q | q | q)
      · exact hne q
      · rw [hd] at q
        cases q
      · exact hl q
    -- meant
    refine ⟨fun σ' H' => σ' = [some (.ref m), some (.str z), none, none] ∧ Same H H' ∧ meantL ks ab z = [], ?_, ?_⟩
    · refine ⟨_, rfl, _, rfl, m, fi, lo, lp, ab, os, qs.map (·.fl), z, rfl, e1 _ _ h1, e1 _ _ h2, (h3.keep fun b u _ e => e1 b u e).tups, by rw [hfl]; omega, by omega, (fun y hy => by rw [hfl] at hy; have := (flags_facts y (kfa y hy)).2.2.1; omega), fun L H2 e2 t2 => ?_⟩
      rw [hfl] at t2
      refine ⟨(by show 0 ≤ sizeLine; decide), fun q hq => ?_⟩
      have eq := same_upd (o := .lst []) hq
      refine ⟨.list ((meantL ks ab z).map toD), .list [], Dt.dp _ _ (Dt.mono eq _ _ t2), .lst (SqL.of upd_same) .nil, shaped_meant (meantL_ok zo fun y hy => (flags_facts y (kfa y hy)).1), by decide, _, rfl, ?_⟩
      cases hm : meantL ks ab z with
      | nil => exact iteF ⟨rfl, (e1.trans e2).trans eq, rfl⟩
      | cons x xs =>
        have := k _ ((e1.trans e2).trans eq)
        unfold letterL at this
        rw [if_neg hns, if_pos (by rw [hm]; exact fun q => nomatch q)] at this
        exact iteT this
    rintro _ H2 ⟨rfl, e2, hm⟩
    have kB : ∀ H', Same H H' → Q (.str (if (isNumP z && !(ks.map isNumP).any id) = true then "A" else if 32 ∈ z.cps.toList then "A" else "O")) H' := fun H' e => by
      have := k H' e
      unfold letterL at this
      rw [if_neg hns, if_neg (fun q => q hm)] at this
      exact this
    -- numbers
    refine ⟨fun σ' H' => σ' = [some (.ref m), some (.str z), none, none] ∧ Same H H' ∧ ¬ (isNumP z && !(ks.map isNumP).any id) = true, ?_, ?_⟩
    · refine ⟨_, rfl, z, rfl, by omega, fun H3 e3 => ⟨_, rfl, ?_⟩⟩
      have e13 := e2.trans e3
      cases hn : isNumP z with
      | false => exact iteF ⟨rfl, e13, fun q => nomatch q⟩
      | true =>
        refine iteT ?_
        refine ⟨_, rfl, m, fi, lo, lp, _, os, qs.map (·.fl), rfl, e13 _ _ h1, e13 _ _ h2, (h3.keep fun b u _ e => e13 b u e).tups, by rw [hfl]; omega, fun L xs H4 e4 hL hP => ⟨L, rfl, ⟨_, SqL.of hL⟩, fun D hD => ?_⟩⟩
        rw [hfl] at hP
        refine lc_list (K := K) (a := L) (xs := xs) (BlI isNumP H4 D ks) (blI0 hD) (fun j H2 _ h => SqL.of (h.1 _ _ hL)) (fun j y H2 hy h => ?_) (fun H' h => ?_)
        · have hj : j < ks.length := by
            rw [← hP.len]
            exact (List.getElem?_eq_some_iff.mp hy).1
          obtain ⟨t, v, e2, ht, hv⟩ := hP.at_ j _ (List.getElem?_eq_getElem hj)
          cases Option.some.inj (e2.symm.trans hy)
          have fk := flags_facts _ (kfa _ (List.getElem_mem hj))
          refine ⟨t, _, rfl, SqT.of (h.1 _ _ ht), rfl, _, _, rfl, _, _, rfl, rfl, rfl, _, rfl, ks[j], rfl, by omega, fun H5 e5 => ?_⟩
          exact blI_step hD (List.getElem?_eq_getElem hj) h e5 rfl (by omega)
        · obtain ⟨e5, hD2⟩ := blI_end hP.len h
          have e := (e13.trans e4).trans e5
          refine ⟨D, _, rfl, .inl (SqL.of hD2), rfl, flat_bools _, _, rfl, ?_⟩
          rw [in_bools]
          cases ha : (ks.map isNumP).any id with
          | true => exact iteF ⟨rfl, e, fun q => nomatch q⟩
          | false =>
            have := kB _ e
            rw [hn, ha] at this
            exact iteT this
    rintro _ H3 ⟨rfl, e3, hnn⟩
    have kC : ∀ H', Same H H' → Q (.str (if 32 ∈ z.cps.toList then "A" else "O")) H' := fun H' e => by
      have := kB H' e
      rw [if_neg hnn] at this
      exact this
    refine ⟨(by show 2 ≤ sizeLine; decide), fun q hq => ?_⟩
    have eq := same_upd (o := .lst [.str "O", .str "A"]) hq
    refine ⟨_, rfl, 32, z, rfl, rfl, .inr ⟨_, rfl, ?_⟩⟩
    have := kC _ (e3.trans eq)
    by_cases h32 : 32 ∈ z.cps.toList
    · rw [decide_eq_true h32]
      rw [if_pos h32] at this
      exact ⟨q, _, _, _, rfl, rfl, SqL.of upd_same, atI_nat (j := 1) rfl, this⟩
    · rw [decide_eq_false h32]
      rw [if_neg h32] at this
      exact ⟨q, _, _, _, rfl, rfl, SqL.of upd_same, atI_nat (j := 0) rfl, this⟩
end
end K01

namespace K01
open PySem L2 PyProof PyProof.Rows TL
/-! ### the law's letters of a line -/
def cutOf : List Str → Nat
  | [] => 0
  | w :: ws => if w = "--" then 0 else cutOf ws + 1
theorem cut_le : ∀ ws : List Str, cutOf ws ≤ ws.length
  | [] => Nat.le_refl _
  | w :: ws => by
    have ih := cut_le ws
    unfold cutOf
    split
    · exact Nat.zero_le _
    · rw [List.length_cons]
      omega
theorem cut_at : ∀ ws : List Str, (cutOf ws < ws.length ↔ ("--" : Str) ∈ ws) ∧ (cutOf ws < ws.length → ws[cutOf ws]? = some ("--" : Str)) ∧ ∀ j, j < cutOf ws → ∀ z, ws[j]? = some z → z ≠ "--"
  | [] => ⟨⟨fun h => absurd h (Nat.lt_irrefl _), fun h => nomatch h⟩, fun h => absurd h (Nat.lt_irrefl _), fun j h => absurd h (Nat.not_lt_zero _)⟩
  | w :: ws => by
    obtain ⟨i1, i2, i3⟩ := cut_at ws
    by_cases h : w = "--"
    · have e : cutOf (w :: ws) = 0 := by unfold cutOf; rw [if_pos h]
      rw [e]
      refine ⟨⟨fun _ => by rw [h]; exact List.mem_cons_self, fun _ => Nat.succ_pos _⟩, fun _ => by rw [h]; rfl, fun j hj => absurd hj (Nat.not_lt_zero _)⟩
    · have e : cutOf (w :: ws) = cutOf ws + 1 := by
        show (if w = "--" then 0 else cutOf ws + 1) = _
        rw [if_neg h]
      rw [e, List.length_cons]
      refine ⟨⟨fun q => List.mem_cons_of_mem _ (i1.mp (by omega)), fun q => ?_⟩, fun q => ?_, fun j hj z hz => ?_⟩
      · rcases List.mem_cons.mp q with q | q
        · exact absurd q.symm h
        · have := i1.mpr q
          omega
      · rw [List.getElem?_cons_succ]
        exact i2 (by omega)
      · cases j with
        | zero =>
          cases Option.some.inj (show some w = some z from hz)
          exact h
        | succ j =>
          rw [List.getElem?_cons_succ] at hz
          exact i3 j (by omega) z hz
theorem joinL_nil : ∀ l : List (List Nat), joinL [] l = l.flatten
  | [] => rfl
  | [p] => by show p = _; simp
  | p :: q :: r => by
    show p ++ ([] ++ joinL [] (q :: r)) = _
    rw [joinL_nil (q :: r), List.nil_append]
    simp
theorem tl_A : tl ("A" : Str) = [65] := by decide
theorem tl_D : tl ("-" : Str) = [45] := by decide
theorem tl_E : tl ("" : Str) = [] := by decide
theorem letter_no (ks : List Str) (ab : Bool) (w : Str) : 45 ∉ tl (letterL ks ab w) := by
  have a : (45 : Nat) ∉ tl ("A" : Str) := by decide
  have o : (45 : Nat) ∉ tl ("O" : Str) := by decide
  unfold letterL
  split
  · exact a
  split
  · exact o
  split
  · exact a
  split
  · exact a
  · exact o
theorem letters_fold (ks : List Str) (ab : Bool) : ∀ (ws : List Str) (acc : Str), tl (ws.foldl (stepL ks ab) acc) = tl acc ++ if 45 ∈ tl acc then List.replicate ws.length 65 else (((ws.take (cutOf ws)).map (letterL ks ab)).map tl).flatten ++ if cutOf ws < ws.length then 45 :: List.replicate (ws.length - cutOf ws - 1) 65 else []
  | [], acc => by
    show tl acc = tl acc ++ _
    by_cases h : 45 ∈ tl acc
    · rw [if_pos h]
      simp
    · rw [if_neg h]
      simp [cutOf]
  | w :: ws, acc => by
    show tl (ws.foldl (stepL ks ab) (stepL ks ab acc w)) = _
    rw [letters_fold ks ab ws]
    unfold stepL
    by_cases h : 45 ∈ tl acc
    · rw [if_pos (show 45 ∈ acc.cps.toList from h), if_pos h, tl_append, tl_A, if_pos (List.mem_append_left _ h), List.append_assoc, List.length_cons, List.replicate_succ]
      rfl
    · rw [if_neg (show ¬ 45 ∈ acc.cps.toList from h), if_neg h]
      by_cases hw : w = "--"
      · have e : cutOf (w :: ws) = 0 := by unfold cutOf; rw [if_pos hw]
        rw [if_pos hw, e, tl_append, tl_D, if_pos (List.mem_append_right _ List.mem_cons_self), if_pos (show 0 < (w :: ws).length from Nat.succ_pos _), List.append_assoc, List.length_cons]
        simp
      · have e : cutOf (w :: ws) = cutOf ws + 1 := by
          show (if w = "--" then 0 else cutOf ws + 1) = _
          rw [if_neg hw]
        have hn : 45 ∉ tl (acc ++ letterL ks ab w) := by
          rw [tl_append, List.mem_append, not_or]
          exact ⟨h, letter_no ks ab w⟩
        rw [if_neg hw, e, if_neg hn, tl_append, List.take_succ_cons, List.map_cons, List.map_cons, List.flatten_cons, List.length_cons, List.append_assoc, List.append_assoc]
        congr 3
        have e2 : ws.length + 1 - (cutOf ws + 1) - 1 = ws.length - cutOf ws - 1 := by omega
        rw [e2]
        by_cases hc : cutOf ws < ws.length
        · rw [if_pos hc, if_pos (by omega)]
        · rw [if_neg hc, if_neg (by omega)]
theorem mulA : ∀ n, n < 101 → tl (Txt.mul "A" ((n : Nat) : Int)) = List.replicate n 65 := by decide +kernel
theorem mulA_ok : ∀ n, n < 101 → MulOk "A" ((n : Nat) : Int) := by unfold MulOk; decide +kernel
theorem mulA_neg : tl (Txt.mul "A" (-1)) = [] ∧ MulOk "A" (-1) := by unfold MulOk; decide +kernel
theorem mulD : tl (Txt.mul "-" 1) = [45] ∧ MulOk "-" 1 ∧ tl (Txt.mul "-" 0) = [] ∧ MulOk "-" 0 := by unfold MulOk; decide +kernel
theorem letters_eq (ks : List Str) (ab : Bool) (ws : List Str) : tl (lettersL ks ab ws) = (((ws.take (cutOf ws)).map (letterL ks ab)).map tl).flatten ++ if cutOf ws < ws.length then 45 :: List.replicate (ws.length - cutOf ws - 1) 65 else [] := by
  unfold lettersL
  rw [letters_fold, tl_E, if_neg (fun h => nomatch h), List.nil_append]
theorem tl_join0 (l : List Str) : tl (Txt.join "" l) = (l.map tl).flatten := by
  rw [join_eq, tl_join, tl_E, joinL_nil]
theorem len_of_tl (x : Str) : x.length = (tl x).length := by simp [tl, PySem.Str.length]
theorem sum_letters (ks : List Str) (ab : Bool) : ∀ ws : List Str, (List.map (fun x => x.length) (ws.map (letterL ks ab))).sum = ws.length
  | [] => rfl
  | w :: ws => by
    rw [List.map_cons, List.map_cons, List.sum_cons, sum_letters ks ab ws, letter_len, List.length_cons]
    omega
theorem flat_len (l : List Str) : ((l.map tl).flatten).length = (List.map (fun x => x.length) l).sum := by
  induction l with
  | nil => rfl
  | cons a l ih => rw [List.map_cons, List.flatten_cons, List.length_append, ih, List.map_cons, List.sum_cons, len_of_tl]
theorem inV_dash (ws : List Str) : inV (.str "--") (ws.map V.str) = decide (cutOf ws < ws.length) := by
  rw [inV_strs]
  by_cases h : cutOf ws < ws.length
  · rw [decide_eq_true h, decide_eq_true ((cut_at ws).1.mp h)]
  · rw [decide_eq_false h, decide_eq_false (fun q => h ((cut_at ws).1.mpr q))]
def spRLetters : Sp := fun vs H Q _ => ∃ (m a : Addr) (ab : Bool) (ks ws : List Str), vs = [.ref m, .ref a] ∧ LM H m ab ks ∧ H a = some (.lst (ws.map V.str)) ∧ okWs ws ∧ ∀ H', Same H H' → Q (.str (lettersL ks ab ws)) H'
section
variable {P : Program} {w : World} {K : PySem.W.Frag} {mg : Str → Option Value} {base : Heap}
abbrev nRLs : List Str := ["_law_m", "_law_words", "_law_word", "_law_cut", "_law_found"]
theorem scRLs : FnScope nRLs ["_law_m", "_law_words"] (defScope sRLetters) := ⟨rfl, rfl, rfl, by decide +kernel, rfl, by decide +kernel, by decide +kernel⟩
theorem ok_rletters {f fL : Addr} {fd fdL : FuncData} (F : Fun K "_law_r_letters" "_law_r_letters" sRLetters f fd) (T : TxtB mg) (L : At P w K mg base "_law_r_letter" 3 ["_law_m", "_law_word"] spRLetter fL fdL) : FnOk P w K mg base CX0 4 f fd ["_law_m", "_law_words"] spRLetters := by
  refine F.ok scRLs (fun vs H Q E h => ?_) (fun cdv A outer s H vs Q E hr h => ?_)
  · obtain ⟨m, a, ab, ks, ws, rfl, _⟩ := h
    rfl
  · obtain ⟨m, a, ab, ks, ws, rfl, hp, ha, ⟨wl, wo⟩, k⟩ := h
    refine ⟨_, pss_mid (ps_set (i := 3) scRLs.nd rfl (Or.inl rfl) (pe_ifExp (pt_cmpR op_in_seq pe_str (pv 1) (by rfl)) (pe_bm PySem.F.plainAttrs_list PySem.F.slot_list_index PySem.F.type_list_index mt_index (pv 1) (pa_cons pe_str pa_nil)) (pe_callB call_len_seq (by rfl) T.len PySem.boot_len (pa_cons (pv 1) pa_nil))))
      (pss_mid (ps_set (i := 4) scRLs.nd rfl (Or.inl rfl) (pe_join pe_str (pe_lc (own := [("_law_word", 2)]) (g := gName 2) (tt := tYes) (te := tCall spRLetter [] E0 (tCons (tVar 0) (tCons (tVar 2) tNil))) rfl scRLs.nd (pi_list (pe_slice sl_list (pv 1) po_none (po_some (pv 3)))) (blkOk_by (N := nRLs) (sc := defScope sRLetters) (by decide +kernel)) (fun _ _ _ _ _ => pg_name (i := 2) scRLs.nd rfl (Or.inl rfl)) (fun _ _ _ _ _ => pts_nil)
        (fun _ _ _ _ _ => by exact pe_call L.ok (by exact hr) rfl L.m L.k L.b .nil pass0 (pa_cons (pv 0) (pa_cons (pv 2) pa_nil))))))
      (pss_one (ps_ret (pe_op op_add_str (pe_op op_add_str (pv 4) (pe_op XR.op_mulS pe_str (pe_callTy call_int1 (by rfl) T.int (by decide +kernel) (pa_cons (pe_cmpR op_lt (pv 3) (pe_callB call_len_seq (by rfl) T.len PySem.boot_len (pa_cons (pv 1) pa_nil)) (nomark _)) pa_nil)))) (pe_op XR.op_mulS pe_str (pe_op op_sub (pe_op op_sub (pe_callB call_len_seq (by rfl) T.len PySem.boot_len (pa_cons (pv 1) pa_nil)) (pv 3)) pe_int)))))), ?_⟩
    obtain ⟨c1, c2, c3⟩ := cut_at ws
    have cl := cut_le ws
    -- the cut
    refine ⟨fun σ' H' => σ' = [some (.ref m), some (.ref a), none, some (.int (cutOf ws : Nat)), none] ∧ H = H', ?_, ?_⟩
    · refine ⟨_, rfl, a, _, rfl, .inl (SqL.of ha), rfl, flat_strs ws, _, rfl, ?_⟩
      rw [if_neg Bool.false_ne_true, inV_dash]
      by_cases hc : cutOf ws < ws.length
      · rw [decide_eq_true hc]
        refine iteT ⟨_, rfl, .inl ⟨rfl, _, SqL.of ha⟩, a, _, _, cutOf ws, .str "--", rfl, rfl, SqL.of ha, rfl, flat_strs ws, ?_, rfl, fun j z hj hz => ?_, rfl, rfl⟩
        · rw [List.getElem?_map, c2 hc]
          rfl
        · obtain ⟨y, hy, rfl⟩ := str_at hz
          have := c3 j hj y hy
          show (y == ("--" : Str)) = false
          simpa using this
      · rw [decide_eq_false hc]
        refine iteF ⟨_, rfl, a, _, rfl, .inl (SqL.of ha), ?_, rfl⟩
        have : cutOf ws = ws.length := by omega
        rw [this, List.length_map]
        rfl
    rintro _ _ ⟨rfl, rfl⟩
    -- the words ahead of it
    refine ⟨fun σ' H' => σ' = [some (.ref m), some (.ref a), none, some (.int (cutOf ws : Nat)), some (.str (Txt.join "" ((ws.take (cutOf ws)).map (letterL ks ab))))] ∧ Same H H', ?_, ?_⟩
    · refine ⟨⟨_, rfl⟩, _, rfl, _, rfl, _, rfl, a, _, rfl, SqL.of ha, fun c hc => ?_⟩
      have e1 := same_upd (o := .lst (cutV (ws.map V.str) none (some ((cutOf ws : Nat) : Int)))) hc
      have hcl : upd H c (.lst (cutV (ws.map V.str) none (some ((cutOf ws : Nat) : Int)))) c = some (.lst ((ws.take (cutOf ws)).map V.str)) := by
        rw [upd_same, cut_take (by rw [List.length_map]; exact cl), List.map_take]
      generalize upd H c (.lst (cutV (ws.map V.str) none (some ((cutOf ws : Nat) : Int)))) = H1 at e1 hcl
      refine ⟨c, rfl, ⟨_, SqL.of hcl⟩, fun D hD => ?_⟩
      refine lc_list (K := K) (a := c) (xs := (ws.take (cutOf ws)).map V.str) (fun j H2 => Same H1 H2 ∧ H2 D = some (.lst ((((ws.take (cutOf ws)).take j).map (letterL ks ab)).map V.str))) ⟨same_upd hD, upd_same⟩ (fun j H2 _ h => SqL.of (h.1 _ _ hcl)) (fun j y H2 hy h => ?_) (fun H2 h => ?_)
      · obtain ⟨z, hz, rfl⟩ := str_at hy
        have hj := (List.getElem?_eq_some_iff.mp hz).1
        have zm : z ∈ ws := List.mem_of_mem_take (List.mem_of_getElem? hz)
        refine ⟨rfl, _, rfl, _, rfl, m, ab, ks, z, rfl, hp.keep (e1.trans h.1), wo z zm, fun H3 e3 => ⟨_, e3 _ _ h.2, ?_, same_mut (h.1.trans e3) hD, ?_⟩⟩
        · rw [List.length_map, List.length_map, List.length_take, PySem.sizeLine_eq]
          rw [List.length_take] at hj
          omega
        · rw [upd_same, take_more' hz, List.map_append, List.map_append]
          rfl
      · obtain ⟨s2, hl⟩ := h
        rw [List.length_map, List.take_length] at hl
        refine ⟨"", D, _, rfl, rfl, .inl (SqL.of hl), ?_, rfl, e1.trans s2⟩
        have z0 : ("" : Str).length = 0 := by decide
        rw [z0, Nat.mul_zero]
        have := sum_letters ks ab (ws.take (cutOf ws))
        rw [List.length_take] at this
        omega
    rintro _ H2 ⟨rfl, e2⟩
    have jl : (Txt.join "" ((ws.take (cutOf ws)).map (letterL ks ab))).length ≤ 100 := by
      rw [len_of_tl, tl_join0, flat_len, sum_letters, List.length_take]
      omega
    have kk := k H2 e2
    have hlv : (ws.map V.str).length = ws.length := List.length_map _
    refine ⟨_, rfl, _, rfl, _, rfl, a, _, rfl, .inl (SqL.of (e2 _ _ ha)), _, _, rfl, rfl, .inr ⟨_, rfl, ?_⟩⟩
    rw [hlv]
    by_cases hc : cutOf ws < ws.length
    · have hc' : ((cutOf ws : Nat) : Int) < ((ws.length : Nat) : Int) := by omega
      rw [decide_eq_true hc', if_pos rfl]
      refine ⟨"-", 1, rfl, rfl, mulD.2.1, _, _, rfl, rfl, ?_, _, rfl, a, _, rfl, .inl (SqL.of (e2 _ _ ha)), _, rfl, _, _, rfl, rfl, _, _, rfl, rfl, ?_⟩
      · rw [len_of_tl (Txt.mul "-" 1), mulD.1, PySem.sizeLine_eq]
        show _ + 1 ≤ _
        omega
      rw [hlv]
      have en : ((ws.length : Nat) : Int) - ((cutOf ws : Nat) : Int) - 1 = ((ws.length - cutOf ws - 1 : Nat) : Int) := by omega
      have hn : ws.length - cutOf ws - 1 < 101 := by omega
      refine ⟨"A", _, rfl, congrArg V.int en, mulA_ok _ hn, _, _, rfl, rfl, ?_, ?_⟩
      · rw [len_app, len_of_tl (Txt.mul "-" 1), mulD.1, len_of_tl (Txt.mul "A" _), mulA _ hn, List.length_replicate, PySem.sizeLine_eq]
        show _ + 1 + _ ≤ _
        omega
      have eq : Txt.join "" ((ws.take (cutOf ws)).map (letterL ks ab)) ++ Txt.mul "-" 1 ++ Txt.mul "A" ((ws.length - cutOf ws - 1 : Nat) : Int) = lettersL ks ab ws := by
        apply ext_tl
        rw [tl_append, tl_append, tl_join0, mulD.1, mulA _ hn, letters_eq, if_pos hc, List.append_assoc]
        rfl
      rw [eq]
      exact kk
    · have hc' : ¬ ((cutOf ws : Nat) : Int) < ((ws.length : Nat) : Int) := by omega
      rw [decide_eq_false hc', if_neg Bool.false_ne_true]
      refine ⟨"-", 0, rfl, rfl, mulD.2.2.2, _, _, rfl, rfl, ?_, _, rfl, a, _, rfl, .inl (SqL.of (e2 _ _ ha)), _, rfl, _, _, rfl, rfl, _, _, rfl, rfl, ?_⟩
      · rw [len_of_tl (Txt.mul "-" 0), mulD.2.2.1, PySem.sizeLine_eq]
        show _ + 0 ≤ _
        omega
      rw [hlv]
      have en : ((ws.length : Nat) : Int) - ((cutOf ws : Nat) : Int) - 1 = -1 := by omega
      refine ⟨"A", _, rfl, congrArg V.int en, mulA_neg.2, _, _, rfl, rfl, ?_, ?_⟩
      · rw [len_app, len_of_tl (Txt.mul "-" 0), mulD.2.2.1, len_of_tl (Txt.mul "A" _), mulA_neg.1, PySem.sizeLine_eq]
        show _ + 0 + 0 ≤ _
        omega
      have eq : Txt.join "" ((ws.take (cutOf ws)).map (letterL ks ab)) ++ Txt.mul "-" 0 ++ Txt.mul "A" (-1) = lettersL ks ab ws := by
        apply ext_tl
        rw [tl_append, tl_append, tl_join0, mulD.2.2.1, mulA_neg.1, letters_eq, if_neg hc, List.append_assoc]
        rfl
      rw [eq]
      exact kk
end
end K01

namespace K01
open PySem L2 PyProof.Rows
/-! ### the law's parser as data: one option -/
def forBody (s : Stmt) : List Stmt := match s with
  | .For _ _ b _ _ => b
  | _ => []
def at_ (ss : List Stmt) (i : Nat) : Stmt := ss.getD i (.Pass ⟨0, 0, 0, 0⟩)
theorem Kp2.nl {st cl : Addr} {H H' : Hp} {n : Nat} {b : Addr} {o : HO} (k : Kp2 st cl H H') (S : Strm H st cl n) (e : H b = some o) (ho : ∀ xs, o ≠ .lst xs) : H' b = some o := by
  obtain ⟨c, a, ns, h1, h2, _⟩ := S.ex
  exact k _ _ e (ne_of e h1 (ho _)) (ne_of e h2 (ho _))
theorem Strm.fr {H H' : Hp} {st cl b : Addr} {n : Nat} (S : Strm H st cl n) (e : H' b = none) (k : Same H H') : b ≠ st ∧ b ≠ cl := by
  obtain ⟨x, h1⟩ := S.st
  obtain ⟨y, h2⟩ := S.cl
  exact ⟨(ne_of_none (k _ _ h1) e).symm, (ne_of_none (k _ _ h2) e).symm⟩
theorem Strm.put {H : Hp} {st cl a : Addr} {o : HO} {n : Nat} (S : Strm H st cl n) (h1 : a ≠ st) (h2 : a ≠ cl) : Strm (upd H a o) st cl n := by
  obtain ⟨c, b, ns, g1, g2, g3⟩ := S.ex
  exact ⟨c, b, ns, by rw [upd_ne h1.symm]; exact g1, by rw [upd_ne h2.symm]; exact g2, g3⟩
def unS : V → Str
  | .str x => x
  | _ => ""
theorem perm_strs {ys : List V} {l : List Str} (h : ys.Perm (l.map V.str)) : ∃ l' : List Str, ys = l'.map V.str ∧ l'.Perm l := by
  refine ⟨ys.map unS, ?_, ?_⟩
  · rw [List.map_map]
    have : ∀ y ∈ ys, (V.str ∘ unS) y = y := fun y hy => by
      obtain ⟨z, _, rfl⟩ := List.mem_map.mp (h.mem_iff.mp hy)
      rfl
    rw [List.map_congr_left this, List.map_id']
  · have := h.map unS
    rw [List.map_map] at this
    have e : l.map (unS ∘ V.str) = l := by
      have : (unS ∘ V.str) = id := rfl
      rw [this, List.map_id]
    rw [e] at this
    exact this
theorem cut_int (xs : List V) (i j : Int) (h0 : 0 ≤ i) (hij : i ≤ j) (hj : j ≤ xs.length) : cutV xs (some i) (some j) = (xs.drop i.toNat).take (j - i).toNat := by
  obtain ⟨a, rfl⟩ := Int.eq_ofNat_of_zero_le h0
  obtain ⟨b, rfl⟩ := Int.eq_ofNat_of_zero_le (show 0 ≤ j by omega)
  unfold cutV
  rw [HT.sIx_nat, HT.sIx_nat, Nat.min_eq_left (by omega), Nat.min_eq_left (by omega)]
  congr 1
  omega
theorem o_name : ∀ n : Nat, n < 21 → (("o" : Str) ++ ((toString (n : Int) : String) : Str)) ≠ "" ∧ PyData.strOk (("o" : Str) ++ ((toString (n : Int) : String) : Str)) = true ∧ ((toString (n : Int) : String) : Str).length ≤ 5 := by decide +kernel
theorem OTs.snoc {H : Hp} {vs : List V} {os : List Opt} {v : V} {o : Opt} (h : OTs H vs os) (k : OT H v o) : OTs H (vs ++ [v]) (os ++ [o]) := by
  refine ⟨by rw [List.length_append, List.length_append, h.len]; rfl, fun i p e => ?_⟩
  by_cases hi : i < os.length
  · rw [List.getElem?_append_left hi] at e
    rw [List.getElem?_append_left (by rw [h.len]; exact hi)]
    exact h.at_ i p e
  · have hi' := Nat.le_of_not_lt hi
    rw [List.getElem?_append_right hi'] at e
    cases ej : i - os.length with
    | zero =>
      rw [ej] at e
      cases Option.some.inj (show some o = some p from e)
      exact ⟨v, by rw [List.getElem?_append_right (by rw [h.len]; exact hi'), h.len, ej]; rfl, k⟩
    | succ j =>
      rw [ej] at e
      simp at e
theorem PTs.snoc {H : Hp} {vs : List V} {os : List (Str × V)} {v : V} {o : Str × V} (h : PTs H vs os) (k : PT1 H v o) : PTs H (vs ++ [v]) (os ++ [o]) := by
  refine ⟨by rw [List.length_append, List.length_append, h.len]; rfl, fun i p e => ?_⟩
  by_cases hi : i < os.length
  · rw [List.getElem?_append_left hi] at e
    rw [List.getElem?_append_left (by rw [h.len]; exact hi)]
    exact h.at_ i p e
  · have hi' := Nat.le_of_not_lt hi
    rw [List.getElem?_append_right hi'] at e
    cases ej : i - os.length with
    | zero =>
      rw [ej] at e
      cases Option.some.inj (show some o = some p from e)
      exact ⟨v, by rw [List.getElem?_append_right (by rw [h.len]; exact hi'), h.len, ej]; rfl, k⟩
    | succ j =>
      rw [ej] at e
      simp at e
theorem flsOf_app (a b : List Opt) : flsOf (a ++ b) = flsOf a ++ flsOf b := by
  unfold flsOf
  rw [List.map_append, List.flatten_append]
theorem flsOf_one (o : Opt) : flsOf [o] = o.fl := by
  unfold flsOf
  simp
/-- what is drawn so far -/
structure DrA (H : Hp) (st cl fp op pp : Addr) (l : List Str) (vs : List V) (os : List Opt) (ws : List V) (ps : List (Str × V)) (k : Nat) : Prop where
  fp_ : H fp = some (.lst (l.map V.str))
  pl : l.Perm flagsAll
  f1 : fp ≠ st
  f2 : fp ≠ cl
  op_ : H op = some (.lst vs)
  o1 : op ≠ st
  o2 : op ≠ cl
  pp_ : H pp = some (.lst ws)
  p1 : pp ≠ st
  p2 : pp ≠ cl
  ot : OTs H vs os
  pt : PTs H ws ps
  sub : (flsOf os).Sublist (l.take (2 * k))
  lo : os.length ≤ k
  lp : ps.length ≤ 4
  n1 : fp ≠ op
  n2 : fp ≠ pp
  n3 : op ≠ pp
theorem DrA.kp {H H' : Hp} {st cl fp op pp : Addr} {l : List Str} {vs ws : List V} {os : List Opt} {ps : List (Str × V)} {k n : Nat} (h : DrA H st cl fp op pp l vs os ws ps k) (S : Strm H st cl n) (e : Kp2 st cl H H') : DrA H' st cl fp op pp l vs os ws ps k :=
  { h with
    fp_ := e _ _ h.fp_ h.f1 h.f2
    op_ := e _ _ h.op_ h.o1 h.o2
    pp_ := e _ _ h.pp_ h.p1 h.p2
    ot := h.ot.keep fun b u ⟨xs, hu⟩ q => e.nl S q (by subst hu; intro _ z; cases z)
    pt := h.pt.keep fun b u ⟨xs, hu⟩ q => e.nl S q (by subst hu; intro _ z; cases z) }
theorem DrA.keep {H H' : Hp} {st cl fp op pp : Addr} {l : List Str} {vs ws : List V} {os : List Opt} {ps : List (Str × V)} {k : Nat} (h : DrA H st cl fp op pp l vs os ws ps k) (e : Same H H') : DrA H' st cl fp op pp l vs os ws ps k :=
  { h with
    fp_ := e _ _ h.fp_
    op_ := e _ _ h.op_
    pp_ := e _ _ h.pp_
    ot := h.ot.keep fun b u _ q => e _ _ q
    pt := h.pt.keep fun b u _ q => e _ _ q }
theorem take_two {l : List Str} {k b : Nat} (h : (flagsAll).length = l.length) (hk : k < 4) (hb : b < 2) : (l.take (2 * k) ++ (l.drop (2 * k)).take (1 + b)).Sublist (l.take (2 * (k + 1))) := by
  have e : l.take (2 * (k + 1)) = l.take (2 * k) ++ (l.drop (2 * k)).take 2 := by
    rw [show 2 * (k + 1) = 2 * k + 2 from rfl, List.take_add]
  rw [e]
  refine List.Sublist.append (List.Sublist.refl _) ?_
  have : (l.drop (2 * k)).take (1 + b) = ((l.drop (2 * k)).take 2).take (1 + b) := by
    rw [List.take_take]
    congr 1
    omega
  rw [this]
  exact List.take_sublist _ _
section
variable {P : Program} {w : World} {K : PySem.W.Frag} {mg : Str → Option Value} {base : Heap}
abbrev bDr : List Stmt := defBody sRDrawn
abbrev nDr : List Str := ["_law_stream", "_law_most", "_law_room", "_law_flags", "_law_options", "_law_positionals", "_law_k", "_law_own", "_law_m"]
theorem scDr : FnScope nDr ["_law_stream", "_law_most", "_law_room"] (defScope sRDrawn) := ⟨rfl, rfl, rfl, by decide +kernel, rfl, by decide +kernel, by decide +kernel⟩
abbrev XD (P : Program) (w : World) (K : PySem.W.Frag) (mg : Str → Option Value) (base : Heap) (f : Addr) (cdv : Value) (A0 : Around) (outer : List Env) (s : Shared) (H : Hp) (E : XK) : Cx := (cxOf CX0 P w K mg base nDr "_law_r_drawn" (defScope sRDrawn) f cdv A0 outer s H E).nox
theorem opt_walk {f fD fK : Addr} {fdD fdK : FuncData} (T : TxtB mg) (zStr : mg "str" = none) (Dr : At P w K mg base "_law_draw" 1 ["_law_stream", "_law_many"] spDraw fD fdD) (Rk : At P w K mg base "_law_r_kind" 3 ["_law_stream"] spRKind fK fdK)
    {cdv : Value} {A0 : Around} {outer : List Env} {s : Shared} {H0 : Hp} {E : XK} (hr : Room 3 (A0.deeper (PyProof.Rows.envOfC "_law_r_drawn" (defScope sRDrawn) s.heap.objs.size f cdv))) :
    ∃ t : TS, PSs (XD P w K mg base f cdv A0 outer s H0 E) (forBody (at_ bDr 2)) t ∧ ∀ (D : Ends) (H : Hp) (r1 r2 r7 r8 : Option V) (st cl fp op pp : Addr) (l : List Str) (vs ws : List V) (os : List Opt) (ps : List (Str × V)) (k n : Nat), Strm H st cl n → n ≤ 80000 → k < 4 → DrA H st cl fp op pp l vs os ws ps k →
      (∀ (r7 : Option V) (vs' : List V) (os' : List Opt) (H' : Hp), Strm H' st cl (n + 2) → DrA H' st cl fp op pp l vs' os' ws ps (k + 1) → D.nx [some (.ref st), r1, r2, some (.ref fp), some (.ref op), some (.ref pp), some (.int (k : Nat)), r7, r8] H') →
      t D [some (.ref st), r1, r2, some (.ref fp), some (.ref op), some (.ref pp), some (.int (k : Nat)), r7, r8] H := by
  have r1' := hr.mono (show 1 ≤ 3 by decide)
  refine ⟨_, pss_mid (ps_set (i := 7) scDr.nd rfl (Or.inl rfl) (pe_slice sl_list (pv 3) (po_some (pe_op op_mul pe_int (pv 6))) (po_some (pe_op op_add (pe_op op_add (pe_op op_mul pe_int (pv 6)) pe_int) (pe_callTy call_int1 (by rfl) T.int (by decide +kernel) (pa_cons (pe_cmpR op_eq (pe_call Dr.ok r1' rfl Dr.m Dr.k Dr.b .nil pass0 (pa_cons (pv 0) (pa_cons pe_int pa_nil))) pe_int (nomark _)) pa_nil))))))
    (pss_one (ps_expr (pe_bm PySem.F.plainAttrs_list PySem.F.slot_list_append PySem.F.type_list_append mt_append (pv 4) (pa_cons (pe_op op_catT (pe_tup (pa_cons (pe_callTy call_tuple_of (by rfl) T.tuple (by decide +kernel) (pa_cons (pv 7) pa_nil)) (pa_cons (pe_op op_add_str pe_str (pe_callTy call_str_int (by rfl) zStr (by decide +kernel) (pa_cons (pv 6) pa_nil))) pa_nil))) (pe_call Rk.ok hr rfl Rk.m Rk.k Rk.b .nil pass0 (pa_cons (pv 0) pa_nil))) pa_nil)))), ?_⟩
  intro D H r1 r2 r7 r8 st cl fp op pp l vs ws os ps k n S hn hk h cont
  have hlen : flagsAll.length = l.length := h.pl.length_eq.symm
  have h11 : flagsAll.length = 11 := rfl
  have hlm : (l.map V.str).length = 11 := by rw [List.length_map, ← hlen, h11]
  have cm : CMul 2 ((k : Nat) : Int) := .inl ⟨by decide, by decide⟩
  -- own flags
  refine ⟨fun σ' H' => ∃ (ow : Addr) (b : Nat), σ' = [some (.ref st), r1, r2, some (.ref fp), some (.ref op), some (.ref pp), some (.int (k : Nat)), some (.ref ow), r8] ∧ b < 2 ∧ H' ow = some (.lst (((l.drop (2 * k)).take (1 + b)).map V.str)) ∧ ow ≠ st ∧ ow ≠ cl ∧ ow ≠ op ∧ Strm H' st cl (n + 1) ∧ DrA H' st cl fp op pp l vs os ws ps k, ?_, ?_⟩
  · refine ⟨_, rfl, _, rfl, 2, _, rfl, rfl, cm, _, rfl, _, rfl, 2, _, rfl, rfl, cm, _, 1, rfl, rfl, _, rfl, st, cl, n, 3, rfl, S, by decide, by decide, by omega, fun j H1 j0 j1 S1 k1 => ?_⟩
    have h1 := h.kp S k1
    refine ⟨rfl, .inr ⟨_, rfl, _, _, rfl, rfl, _, rfl, fp, _, rfl, SqL.of h1.fp_, fun ow how => ?_⟩⟩
    obtain ⟨b, hb, eb⟩ : ∃ b : Nat, b < 2 ∧ (if decide (V.int j = V.int 0) = true then (1 : Int) else 0) = (b : Int) := by
      by_cases q : decide (V.int j = V.int 0) = true
      · exact ⟨1, by decide, by rw [if_pos q]; rfl⟩
      · exact ⟨0, by decide, by rw [if_neg q]; rfl⟩
    rw [eb, cut_int _ _ _ (by omega) (by omega) (by rw [hlm]; omega)]
    have e1 : (2 * ((k : Nat) : Int)).toNat = 2 * k := by omega
    have e2 : (2 * ((k : Nat) : Int) + 1 + (b : Int) - 2 * ((k : Nat) : Int)).toNat = 1 + b := by omega
    rw [e1, e2, ← List.map_drop, ← List.map_take]
    have f1 := S1.fr how (Same.refl _)
    have es := same_upd (o := .lst (((l.drop (2 * k)).take (1 + b)).map V.str)) how
    exact ⟨ow, b, rfl, hb, upd_same, f1.1, f1.2, (ne_of_none h1.op_ how).symm, S1.keep es, h1.keep es⟩
  rintro _ H1 ⟨ow, b, rfl, hb, how, w1, w2, w3, S1, h1⟩
  obtain ⟨od, ok, ol⟩ := o_name k (by omega)
  have os1 : ("o" : Str).length = 1 := by decide
  refine ⟨_, rfl, .inl ⟨rfl, _, SqL.of h1.op_⟩, _, rfl, ow, _, rfl, .inl ⟨SqL.of how, fun ft hft => ?_⟩⟩
  generalize hfl : (l.drop (2 * k)).take (1 + b) = fl at *
  have e1 := same_upd (o := .tup (fl.map V.str)) hft
  have t1 : upd H1 ft (.tup (fl.map V.str)) ft = _ := upd_same
  have f1 := S1.fr hft (Same.refl _)
  generalize upd H1 ft (.tup (fl.map V.str)) = H2 at e1 t1
  refine ⟨_, rfl, _, rfl, ?_, _, _, rfl, rfl, by rw [os1, PySem.sizeLine_eq]; omega, (by show 2 ≤ sizeLine; decide), fun t ht => ?_⟩
  · have := Nat.log2_le_self (((k : Nat) : Int)).natAbs
    omega
  generalize hd : (("o" : Str) ++ ((toString ((k : Nat) : Int) : String) : Str)) = d at *
  have e2 := same_upd (o := .tup [.ref ft, .str d]) ht
  have t2 : upd H2 t (.tup [.ref ft, .str d]) t = _ := upd_same
  have f2 := S1.fr ht e1
  generalize upd H2 t (.tup [.ref ft, .str d]) = H3 at e2 t2
  have e12 := e1.trans e2
  have S3 := S1.keep e12
  have h3 := h1.keep e12
  refine ⟨_, rfl, st, cl, n + 1, rfl, S3, by omega, fun u nv act H4 hkd nu hu S4 k4 => ?_⟩
  have fu := S3.fr nu (Same.refl _)
  have t4 := k4 _ _ t2 f2.1 f2.2
  have tf4 := k4 _ _ (e2 _ _ t1) f1.1 f1.2
  have h4 := h3.kp S3 k4
  refine ⟨t, u, _, _, rfl, rfl, SqT.of t4, SqT.of hu, (fun q => nomatch q), (by show 2 + 2 ≤ sizeLine; decide), (fun q => nomatch q), fun _ p hp => ?_⟩
  have ep := same_upd (o := .tup [.ref ft, .str d, nv, .str act]) hp
  have ec : [V.ref ft, .str d] ++ [nv, .str act] = [.ref ft, .str d, nv, .str act] := rfl
  rw [ec]
  have h5 := h4.keep ep
  have t5 : upd H4 p (.tup [.ref ft, .str d, nv, .str act]) p = _ := upd_same
  have tf5 := ep _ _ tf4
  have S5 := S4.keep ep
  generalize upd H4 p (.tup [.ref ft, .str d, nv, .str act]) = H5 at h5 t5 tf5 S5
  have hvl := h5.ot.len
  have hlo := h5.lo
  refine ⟨op, vs, _, rfl, rfl, h5.op_, by rw [PySem.sizeLine_eq]; omega, ?_⟩
  have kT : ∀ b u, (∃ xs, u = HO.tup xs) → H5 b = some u → upd H5 op (.lst (vs ++ [.ref p])) b = some u := by
    rintro b _ ⟨xs, rfl⟩ e
    rw [upd_ne (ne_of e h5.op_ (by intro z; cases z))]
    exact e
  have fln : fl.length = 1 + b := by
    rw [← hfl, List.length_take, List.length_drop, ← hlen, h11]
    omega
  have hin : ∀ x ∈ fl, x ∈ flagsAll := fun x hx => by
    rw [← hfl] at hx
    exact h.pl.mem_iff.mp (List.mem_of_mem_drop (List.mem_of_mem_take hx))
  refine cont _ _ (os ++ [⟨fl, d, nv, act⟩]) _ (S5.put h5.o1 h5.o2) { h5 with
    fp_ := by rw [upd_ne h5.n1]; exact h5.fp_
    op_ := upd_same
    pp_ := by rw [upd_ne h5.n3.symm]; exact h5.pp_
    ot := (h5.ot.keep kT).snoc ⟨⟨p, ft, rfl, kT _ _ ⟨_, rfl⟩ t5, kT _ _ ⟨_, rfl⟩ tf5⟩, ⟨?_, by show fl.length ≤ 20; omega, hin⟩, od, ok, hkd⟩
    pt := h5.pt.keep kT
    sub := ?_
    lo := by rw [List.length_append]; show os.length + 1 ≤ k + 1; omega }
  · intro q
    have q' : fl = [] := q
    rw [q'] at fln
    simp at fln
    omega
  · rw [flsOf_app, flsOf_one]
    refine (List.Sublist.append h5.sub (List.Sublist.refl fl)).trans ?_
    rw [← hfl]
    exact take_two hlen hk hb
end
end K01

namespace K01
open PySem L2 PyProof.Rows
/-! ### the law's parser as data -/
theorem pq_at : ∀ k, k < 2 → ∃ c, atI ("pqrst" : Str).cps.toList ((k : Nat) : Int) = some c ∧ (⟨#[c]⟩ : Str) ∈ goals
  | 0, _ => ⟨112, by decide +kernel, by decide +kernel⟩
  | 1, _ => ⟨113, by decide +kernel, by decide +kernel⟩
  | k + 2, h => absurd h (by omega)
theorem picked_n : ∀ v ∈ [V.non, .non, .str "?", .str "*", .str "+", .int 1, .int 2], v ∈ posN := by decide +kernel
theorem flagsAll_nd : flagsAll.Nodup := by decide +kernel
def spDrawn : Sp := fun vs H Q _ => ∃ (st cl : Addr) (n : Nat), vs = [.ref st, .int 4, .int 2] ∧ Strm H st cl n ∧ n ≤ 70000 ∧
  ∀ (m fi lo lp : Addr) (ab : Bool) (xs ws : List V) (os : List Opt) (ps : List (Str × V)) (H' : Hp) (n' : Nat), Strm H' st cl n' → n' ≤ n + 40 → ModelAt H' m fi lo lp ab xs ws os ps → lo ≠ st → lo ≠ cl → (∀ x ∈ flsOf os, x ∈ flagsAll) → Q (.ref m) H'
section
variable {P : Program} {w : World} {K : PySem.W.Frag} {mg : Str → Option Value} {base : Heap}
theorem pos_walk {f fP : Addr} {fdP : FuncData} (Pk : At P w K mg base "_law_pick" 2 ["_law_stream", "_law_some"] spPick fP fdP)
    {cdv : Value} {A0 : Around} {outer : List Env} {s : Shared} {H0 : Hp} {E : XK} (hr : Room 3 (A0.deeper (PyProof.Rows.envOfC "_law_r_drawn" (defScope sRDrawn) s.heap.objs.size f cdv))) :
    ∃ t : TS, PSs (XD P w K mg base f cdv A0 outer s H0 E) (forBody (at_ bDr 3)) t ∧ ∀ (D : Ends) (H : Hp) (r1 r2 r7 r8 : Option V) (st cl fp op pp : Addr) (l : List Str) (vs ws : List V) (os : List Opt) (ps : List (Str × V)) (k n q : Nat), Strm H st cl n → n ≤ 80000 → k < 2 → DrA H st cl fp op pp l vs os ws ps q → ps.length ≤ k →
      (∀ (ws' : List V) (ps' : List (Str × V)) (H' : Hp), Strm H' st cl (n + 1) → DrA H' st cl fp op pp l vs os ws' ps' q → ps'.length ≤ k + 1 → D.nx [some (.ref st), r1, r2, some (.ref fp), some (.ref op), some (.ref pp), some (.int (k : Nat)), r7, r8] H') →
      t D [some (.ref st), r1, r2, some (.ref fp), some (.ref op), some (.ref pp), some (.int (k : Nat)), r7, r8] H := by
  have r2' := hr.mono (show 2 ≤ 3 by decide)
  refine ⟨_, pss_one (ps_expr (pe_bm PySem.F.plainAttrs_list PySem.F.slot_list_append PySem.F.type_list_append mt_append (pv 5) (pa_cons (pe_tup (pa_cons (pe_ix ix_str pe_str (pv 6) (fun _ _ => rfl)) (pa_cons (pe_call Pk.ok r2' rfl Pk.m Pk.k Pk.b .nil pass0 (pa_cons (pv 0) (pa_cons (pe_lst (pa_cons pe_non (pa_cons pe_non (pa_cons pe_str (pa_cons pe_str (pa_cons pe_str (pa_cons pe_int (pa_cons pe_int pa_nil)))))))) pa_nil))) pa_nil))) pa_nil))), ?_⟩
  intro D H r1 r2 r7 r8 st cl fp op pp l vs ws os ps k n q S hn hk h hps cont
  obtain ⟨c, hc, hg⟩ := pq_at k hk
  refine ⟨_, rfl, .inl ⟨rfl, _, SqL.of h.pp_⟩, _, rfl, "pqrst", _, c, rfl, rfl, (by show 5 ≤ sizeLine; decide), hc, _, rfl, (by show 7 ≤ sizeLine; decide), fun a ha => ?_⟩
  have ea := same_upd (o := .lst [.non, .non, .str "?", .str "*", .str "+", .int 1, .int 2]) ha
  have fa := S.fr ha (Same.refl _)
  refine ⟨st, cl, n, a, _, rfl, S.keep ea, upd_same, fa.1, fa.2, (fun q => nomatch q), (by show 7 < 1000; decide), by omega, fun x H1 hx S1 k1 => ?_⟩
  have h1 := (h.keep ea).kp (S.keep ea) k1
  refine ⟨(by show 2 ≤ sizeLine; decide), fun t ht => ?_⟩
  have et := same_upd (o := .tup [.str ⟨#[c]⟩, x]) ht
  have h2 := h1.keep et
  have t2 : upd H1 t (.tup [.str ⟨#[c]⟩, x]) t = _ := upd_same
  have S2 := S1.keep et
  generalize upd H1 t (.tup [.str ⟨#[c]⟩, x]) = H2 at h2 t2 S2
  have hwl := h2.pt.len
  refine ⟨pp, ws, _, rfl, rfl, h2.pp_, by rw [PySem.sizeLine_eq]; omega, ?_⟩
  have kT : ∀ b u, (∃ xs, u = HO.tup xs) → H2 b = some u → upd H2 pp (.lst (ws ++ [.ref t])) b = some u := by
    rintro b _ ⟨xs, rfl⟩ e
    rw [upd_ne (ne_of e h2.pp_ (by intro z; cases z))]
    exact e
  have hl : (ps ++ [((⟨#[c]⟩ : Str), x)]).length ≤ k + 1 := by rw [List.length_append]; show ps.length + 1 ≤ k + 1; omega
  exact cont _ (ps ++ [(⟨#[c]⟩, x)]) _ (S2.put h2.p1 h2.p2) { h2 with
    fp_ := by rw [upd_ne h2.n2]; exact h2.fp_
    op_ := by rw [upd_ne h2.n3]; exact h2.op_
    pp_ := upd_same
    ot := h2.ot.keep kT
    pt := (h2.pt.keep kT).snoc ⟨⟨t, rfl, kT _ _ ⟨_, rfl⟩ t2⟩, hg, picked_n _ hx⟩
    lp := by omega } hl
theorem ok_drawn {f fD fP fM fO fK : Addr} {fd fdD fdP fdM fdO fdK : FuncData} (F : Fun K "_law_r_drawn" "_law_r_drawn" sRDrawn f fd) (T : TxtB mg) (zStr : mg "str" = none) (Dr : At P w K mg base "_law_draw" 1 ["_law_stream", "_law_many"] spDraw fD fdD) (Pk : At P w K mg base "_law_pick" 2 ["_law_stream", "_law_some"] spPick fP fdP) (Mx : At P w K mg base "_law_mixed" 2 ["_law_stream", "_law_some"] spMixed fM fdM) (Mo : At P w K mg base "_law_r_model" 1 ["_law_options", "_law_positionals"] spModel fO fdO) (Rk : At P w K mg base "_law_r_kind" 3 ["_law_stream"] spRKind fK fdK) : FnOk P w K mg base CX0 4 f fd ["_law_stream", "_law_most", "_law_room"] spDrawn := by
  refine F.ok scDr (fun vs H Q E h => ?_) (fun cdv A0 outer s H vs Q E hr h => ?_)
  · obtain ⟨st, cl, n, rfl, _⟩ := h
    rfl
  · obtain ⟨st, cl, n, rfl, S, hn, kQ⟩ := h
    have r2' := hr.mono (show 2 ≤ 3 by decide)
    have r1' := hr.mono (show 1 ≤ 3 by decide)
    have hu1 := hu_of hr
    obtain ⟨tb, hb, rb⟩ := opt_walk (base := base) (outer := outer) (H0 := H) (E := E) T zStr Dr Rk hr
    obtain ⟨tc, hc, rc⟩ := pos_walk (base := base) (outer := outer) (H0 := H) (E := E) Pk hr
    refine ⟨_, pss_mid (ps_set (i := 3) scDr.nd rfl (Or.inl rfl) (pe_call Mx.ok r2' rfl Mx.m Mx.k Mx.b .nil pass0 (pa_cons (pv 0) (pa_cons (pe_lst (pa_cons pe_str (pa_cons pe_str (pa_cons pe_str (pa_cons pe_str (pa_cons pe_str (pa_cons pe_str (pa_cons pe_str (pa_cons pe_str (pa_cons pe_str (pa_cons pe_str (pa_cons pe_str pa_nil)))))))))))) pa_nil))))
      (pss_mid (ps_par (i := 4) (j := 5) (by rfl) scDr.nd rfl rfl (by decide) rfl rfl (pa_cons (pe_lst pa_nil) (pa_cons (pe_lst pa_nil) pa_nil)) (by rfl))
      (pss_mid (ps_for PassesOwn.never rfl (pi_range1 rfl T.range (pa_cons (pe_call Dr.ok r1' rfl Dr.m Dr.k Dr.b .nil pass0 (pa_cons (pv 0) (pa_cons (pe_op op_add (pv 1) pe_int) pa_nil))) pa_nil)) (pg_name (i := 6) scDr.nd rfl (Or.inl rfl)) hb)
      (pss_mid (ps_for PassesOwn.never rfl (pi_range1 rfl T.range (pa_cons (pe_call Dr.ok r1' rfl Dr.m Dr.k Dr.b .nil pass0 (pa_cons (pv 0) (pa_cons (pe_op op_add (pv 2) pe_int) pa_nil))) pa_nil)) (pg_name (i := 6) scDr.nd rfl (Or.inl rfl)) hc)
      (pss_mid (ps_set (i := 8) scDr.nd rfl (Or.inl rfl) (pe_call Mo.ok r1' rfl Mo.m Mo.k Mo.b .nil pass0 (pa_cons (pv 4) (pa_cons (pv 5) pa_nil))))
      (pss_mid (ps_dput hu1 (pv 8) pe_str (pe_cmpR op_gt (pe_call Dr.ok r1' rfl Dr.m Dr.k Dr.b .nil pass0 (pa_cons (pv 0) (pa_cons pe_int pa_nil))) pe_int (nomark _)) rfl)
      (pss_one (ps_ret (pv 8)))))))), ?_⟩
    -- flags
    refine ⟨fun σ' H' => ∃ (fp : Addr) (l : List Str), σ' = [some (.ref st), some (.int 4), some (.int 2), some (.ref fp), none, none, none, none, none] ∧ H' fp = some (.lst (l.map V.str)) ∧ l.Perm flagsAll ∧ fp ≠ st ∧ fp ≠ cl ∧ Strm H' st cl (n + 11), ?_, ?_⟩
    · refine ⟨_, rfl, (by show 11 ≤ sizeLine; decide), fun a ha => ?_⟩
      have ea := same_upd (o := .lst (flagsAll.map V.str)) ha
      refine ⟨st, cl, a, n, flagsAll.map V.str, rfl, S.keep ea, upd_same, (by show 11 ≤ 100; decide), by omega, fun B ys H1 nB hB pp S1 k1 => ?_⟩
      obtain ⟨l, rfl, pl⟩ := perm_strs pp
      have fB := (S.keep ea).fr nB (Same.refl _)
      exact ⟨B, l, rfl, hB, pl, fB.1, fB.2, S1⟩
    rintro _ H1 ⟨fp, l, rfl, hfp, pl, f1, f2, S1⟩
    -- none yet
    refine ⟨fun σ' H' => ∃ op pp : Addr, σ' = [some (.ref st), some (.int 4), some (.int 2), some (.ref fp), some (.ref op), some (.ref pp), none, none, none] ∧ DrA H' st cl fp op pp l [] [] [] [] 0 ∧ Strm H' st cl (n + 11), ?_, ?_⟩
    · refine ⟨(by show 0 ≤ sizeLine; decide), fun op hop => ⟨(by show 0 ≤ sizeLine; decide), fun pp hpp => ⟨_, _, rfl, op, pp, rfl, ?_, ?_⟩⟩⟩
      · have e1 := same_upd (o := .lst []) hop
        have e2 := same_upd (o := .lst []) hpp
        have g1 := S1.fr hop (Same.refl _)
        have g2 := S1.fr hpp e1
        exact ⟨e2 _ _ (e1 _ _ hfp), pl, f1, f2, e2 _ _ upd_same, g1.1, g1.2, upd_same, g2.1, g2.2, ⟨rfl, fun i o q => by simp at q⟩, ⟨rfl, fun i o q => by simp at q⟩, List.nil_sublist _, Nat.le_refl _, Nat.zero_le _, ne_of_none hfp hop, ne_of_none (e1 _ _ hfp) hpp, ne_of_none (upd_same (H := H1) (a := op) (o := .lst [])) hpp⟩
      · exact (S1.keep (same_upd hop)).keep (same_upd hpp)
    rintro _ H2 ⟨op, pp, rfl, h2, S2⟩
    -- options
    refine ⟨fun σ' H' => ∃ (r6 r7 : Option V) (vs : List V) (os : List Opt) (q n' : Nat), σ' = [some (.ref st), some (.int 4), some (.int 2), some (.ref fp), some (.ref op), some (.ref pp), r6, r7, none] ∧ DrA H' st cl fp op pp l vs os [] [] q ∧ q ≤ 4 ∧ Strm H' st cl n' ∧ n' ≤ n + 20, ?_, ?_⟩
    · refine ⟨_, rfl, _, rfl, _, _, rfl, rfl, st, cl, n + 11, 5, rfl, S2, by decide, by decide, by omega, fun j H3 j0 j1 S3 k3 => ?_⟩
      refine ⟨j, rfl, by omega, by omega, ?_⟩
      refine for_range (lo := 0) (n := j.toNat) (fun i σ' H' => ∃ (r6 r7 : Option V) (vs : List V) (os : List Opt), σ' = [some (.ref st), some (.int 4), some (.int 2), some (.ref fp), some (.ref op), some (.ref pp), r6, r7, none] ∧ DrA H' st cl fp op pp l vs os [] [] i ∧ Strm H' st cl (n + 12 + 2 * i)) ⟨none, none, [], [], rfl, h2.kp S2 k3, S3⟩ ?_ ?_
      · rintro i σ' H' hi ⟨r6, r7, vs, os, rfl, h', S'⟩
        have ez : (0 : Int) + ((i : Nat) : Int) = ((i : Nat) : Int) := by omega
        rw [ez]
        exact rb _ H' _ _ r7 none st cl fp op pp l vs [] os [] i _ S' (by omega) (by omega) h' fun r7 vs' os' H'' S'' h'' => ⟨_, r7, vs', os', rfl, h'', S''⟩
      · rintro σ' H' ⟨r6, r7, vs, os, rfl, h', S'⟩
        exact ⟨r6, r7, vs, os, _, _, rfl, h', by omega, S', by omega⟩
    rintro _ H3 ⟨r6, r7, vs, os, q, n3, rfl, h3, hq, S3, hn3⟩
    -- positionals
    refine ⟨fun σ' H' => ∃ (r6 : Option V) (ws : List V) (ps : List (Str × V)) (n' : Nat), σ' = [some (.ref st), some (.int 4), some (.int 2), some (.ref fp), some (.ref op), some (.ref pp), r6, r7, none] ∧ DrA H' st cl fp op pp l vs os ws ps q ∧ ps.length ≤ 2 ∧ Strm H' st cl n' ∧ n' ≤ n + 30, ?_, ?_⟩
    · refine ⟨_, rfl, _, rfl, _, _, rfl, rfl, st, cl, n3, 3, rfl, S3, by decide, by decide, by omega, fun j H4 j0 j1 S4 k4 => ?_⟩
      refine ⟨j, rfl, by omega, by omega, ?_⟩
      refine for_range (lo := 0) (n := j.toNat) (fun i σ' H' => ∃ (r6 : Option V) (ws : List V) (ps : List (Str × V)), σ' = [some (.ref st), some (.int 4), some (.int 2), some (.ref fp), some (.ref op), some (.ref pp), r6, r7, none] ∧ DrA H' st cl fp op pp l vs os ws ps q ∧ ps.length ≤ i ∧ Strm H' st cl (n3 + 1 + i)) ⟨r6, [], [], rfl, h3.kp S3 k4, Nat.le_refl _, S4⟩ ?_ ?_
      · rintro i σ' H' hi ⟨r6, ws, ps, rfl, h', hl, S'⟩
        have ez : (0 : Int) + ((i : Nat) : Int) = ((i : Nat) : Int) := by omega
        rw [ez]
        exact rc _ H' _ _ r7 none st cl fp op pp l vs ws os ps i _ q S' (by omega) (by omega) h' hl fun ws' ps' H'' S'' h'' hl' => ⟨_, ws', ps', rfl, h'', hl', S''⟩
      · rintro σ' H' ⟨r6, ws, ps, rfl, h', hl, S'⟩
        exact ⟨r6, ws, ps, _, rfl, h', by omega, S', by omega⟩
    rintro _ H4 ⟨r6, ws, ps, n4, rfl, h4, hps, S4, hn4⟩
    -- the data
    refine ⟨fun σ' H' => ∃ m fi : Addr, σ' = [some (.ref st), some (.int 4), some (.int 2), some (.ref fp), some (.ref op), some (.ref pp), r6, r7, some (.ref m)] ∧ H' m = some (.dK (mK (.bl true) fi op pp)) ∧ DrA H' st cl fp op pp l vs os ws ps q ∧ Strm H' st cl n4, ?_, ?_⟩
    · exact ⟨_, rfl, _, rfl, op, pp, rfl, fun m fi H' e nm hm => ⟨m, fi, rfl, hm, h4.keep e, S4.keep e⟩⟩
    rintro _ H5 ⟨m, fi, rfl, hm, h5, S5⟩
    refine ⟨fun σ' H' => ∃ ab : Bool, σ' = [some (.ref st), some (.int 4), some (.int 2), some (.ref fp), some (.ref op), some (.ref pp), r6, r7, some (.ref m)] ∧ H' m = some (.dK (mK (.bl ab) fi op pp)) ∧ DrA H' st cl fp op pp l vs os ws ps q ∧ Strm H' st cl (n4 + 1), ?_, ?_⟩
    · refine ⟨_, rfl, st, cl, n4, _, rfl, S5, by decide, by decide, by omega, fun j H6 j0 j1 S6 k6 => ?_⟩
      have hm6 := k6.nl S5 hm (by intro _ z; cases z)
      have h6 := h5.kp S5 k6
      refine ⟨_, _, rfl, rfl, _, rfl, m, _, rfl, DPut.k (k := (Sum.inr "abbrev" : Key)) hm6 (by show 7 < sizeLine; decide), ?_⟩
      rw [(mK_put (.bl true) _ fi op pp op).1]
      have up : ∀ b o, H6 b = some o → (∀ kvs, o ≠ .dK kvs) → upd H6 m (.dK (mK (.bl (decide (0 < j))) fi op pp)) b = some o := fun b o e ho => by
        rw [upd_ne (ne_of e hm6 (ho _))]
        exact e
      refine ⟨decide (0 < j), rfl, upd_same, { h6 with
        fp_ := up _ _ h6.fp_ (by intro _ z; cases z)
        op_ := up _ _ h6.op_ (by intro _ z; cases z)
        pp_ := up _ _ h6.pp_ (by intro _ z; cases z)
        ot := h6.ot.keep fun b u ⟨xs, hu⟩ e => up _ _ e (by subst hu; intro _ z; cases z)
        pt := h6.pt.keep fun b u ⟨xs, hu⟩ e => up _ _ e (by subst hu; intro _ z; cases z) }, ?_⟩
      obtain ⟨c, a, ns, g1, g2, g3⟩ := S6.ex
      exact ⟨c, a, ns, up _ _ g1 (by intro _ z; cases z), up _ _ g2 (by intro _ z; cases z), g3⟩
    rintro _ H6 ⟨ab, rfl, hm6, h6, S6⟩
    have hl8 := h6.sub.length_le
    rw [List.length_take] at hl8
    have hlo := h6.lo
    exact ⟨_, rfl, kQ m fi op pp ab vs ws os ps H6 _ S6 (by omega) ⟨hm6, h6.op_, h6.pp_, h6.ot, h6.pt, h6.sub.nodup ((List.take_sublist _ _).nodup (pl.nodup_iff.mpr flagsAll_nd)), by omega, by omega, by omega⟩ h6.o1 h6.o2 (fun x hx => pl.mem_iff.mp (List.mem_of_mem_take (h6.sub.subset hx)))⟩
end
end K01

namespace K01
open PySem L2 PyProof.Rows
/-! ### the law's words -/
structure LMs (H : Hp) (st cl m : Addr) (ab : Bool) (ks : List Str) : Prop where
  ex : ∃ fi lo lp vs os, H m = some (.dK (mK (.bl ab) fi lo lp)) ∧ H lo = some (.lst vs) ∧ lo ≠ st ∧ lo ≠ cl ∧ OTs H vs os ∧ flsOf os = ks
  l1 : ks.length ≤ 20
  fa : ∀ k ∈ ks, k ∈ flagsAll
theorem LMs.lm {H : Hp} {st cl m : Addr} {ab : Bool} {ks : List Str} (h : LMs H st cl m ab ks) : LM H m ab ks := by
  obtain ⟨fi, lo, lp, vs, os, h1, h2, _, _, h3, h4⟩ := h.ex
  exact ⟨⟨fi, lo, lp, vs, os, h1, h2, h3, h4⟩, h.l1, h.fa⟩
theorem LMs.kp {H H' : Hp} {st cl m : Addr} {ab : Bool} {ks : List Str} {n : Nat} (h : LMs H st cl m ab ks) (S : Strm H st cl n) (e : Kp2 st cl H H') : LMs H' st cl m ab ks := by
  obtain ⟨fi, lo, lp, vs, os, h1, h2, n1, n2, h3, h4⟩ := h.ex
  exact ⟨⟨fi, lo, lp, vs, os, e.nl S h1 (by intro _ z; cases z), e _ _ h2 n1 n2, n1, n2, h3.keep (fun b u ⟨xs, hu⟩ q => e.nl S q (by subst hu; intro _ z; cases z)), h4⟩, h.l1, h.fa⟩
theorem LMs.keep {H H' : Hp} {st cl m : Addr} {ab : Bool} {ks : List Str} {n : Nat} (h : LMs H st cl m ab ks) (S : Strm H st cl n) (e : Same H H') : LMs H' st cl m ab ks := h.kp S (Kp2.of_same e)
def okS (n : Nat) (z : Str) : Prop := z.length ≤ n ∧ PyData.strOk z = true
instance (n : Nat) (z : Str) : Decidable (okS n z) := by unfold okS; infer_instance
theorem cutS_ok {n : Nat} {z : Str} (h : okS n z) (a b : Option Int) : okS n (cutS z a b) := by
  have hl : z.cps.toList.length = z.length := by simp [PySem.Str.length]
  constructor
  · have h1 := h.1
    unfold cutS
    show (List.take _ _).toArray.size ≤ n
    simp only [List.size_toArray, List.length_take, List.length_drop]
    omega
  · unfold cutS
    exact strOk_mk (m := z.cps.toList) (fun c hc => List.mem_of_mem_drop (List.mem_of_mem_take hc)) h.2
theorem app_ok {n m : Nat} {a b : Str} (h : okS n a) (k : okS m b) : okS (n + m) (a ++ b) := ⟨by rw [len_app]; have := h.1; have := k.1; omega, strOk_app h.2 k.2⟩
theorem okS.w {n : Nat} {z : Str} (h : okS n z) (hn : n ≤ 100) : okW z := ⟨Nat.le_trans h.1 hn, h.2⟩
def plain14 : List Str := ["1", "1", "2", "x y", "", "-5", "-", "--", "c=d", "-q", "--zz", "-.5", "-1e3", "-z w"]
theorem plain_ok : ∀ z ∈ plain14, okS 10 z := by decide +kernel
def tails6 : List Str := ["1", "7", "", "-5", "b=c", "--"]
theorem tails6_ok : ∀ z ∈ tails6, okS 10 z := by decide +kernel
def tails3 : List Str := ["1", "", "-a"]
theorem tails3_ok : ∀ z ∈ tails3, okS 10 z := by decide +kernel
def tails5 : List Str := ["", "", "7", "=3", "q", "-"]
theorem tails5_ok : ∀ z ∈ tails5, okS 10 z := by decide +kernel
def tails7 : List Str := ["7", "a", "-", "=", "ab", "q"]
theorem tails7_ok : ∀ z ∈ tails7, okS 10 z := by decide +kernel
theorem eq_ok : okS 1 "=" := by decide +kernel
theorem fl_ok {ks : List Str} (fa : ∀ k ∈ ks, k ∈ flagsAll) : ∀ z ∈ ks ++ [("-v" : Str)], okS 10 z ∧ 0 < z.length := by
  intro z hz
  rcases List.mem_append.mp hz with h | h
  · obtain ⟨h1, h2, h3, _⟩ := flags_facts z (fa z h)
    exact ⟨⟨h3, h1⟩, by omega⟩
  · rw [List.mem_singleton.mp h]
    decide +kernel
theorem sz2 {n m : Nat} {a b : Str} (h : okS n a) (k : okS m b) (hn : n + m ≤ 100) : a.length + b.length ≤ sizeLine := by
  have := h.1
  have := k.1
  rw [PySem.sizeLine_eq]
  omega
def spSome : Sp := fun vs H Q _ => ∃ (st cl m : Addr) (ab : Bool) (ks : List Str) (n : Nat), vs = [.ref st, .ref m] ∧ Strm H st cl n ∧ n ≤ 80000 ∧ LMs H st cl m ab ks ∧
  ∀ (z : Str) (H' : Hp) (n' : Nat), okW z → Strm H' st cl n' → n' ≤ n + 5 → Kp2 st cl H H' → Q (.str z) H'
section
variable {P : Program} {w : World} {K : PySem.W.Frag} {mg : Str → Option Value} {base : Heap}
abbrev nSm : List Str := ["_law_stream", "_law_m", "_law_plain", "_law_flag", "_law_flags", "_law_way", "_law_other", "_law_option"]
theorem scSm : FnScope nSm ["_law_stream", "_law_m"] (defScope sRSome) := ⟨rfl, rfl, rfl, by decide +kernel, rfl, by decide +kernel, by decide +kernel⟩
theorem ok_some {f fD fP fF : Addr} {fd fdD fdP fdF : FuncData} (F : Fun K "_law_r_some_word" "_law_r_some_word" sRSome f fd) (T : TxtB mg) (Dr : At P w K mg base "_law_draw" 1 ["_law_stream", "_law_many"] spDraw fD fdD) (Pk : At P w K mg base "_law_pick" 2 ["_law_stream", "_law_some"] spPick fP fdP) (G : At P w K mg base "_law_r_flags" 1 ["_law_m"] spRFlags fF fdF) : FnOk P w K mg base CX0 3 f fd ["_law_stream", "_law_m"] spSome := by
  refine F.ok scSm (fun vs H Q E h => ?_) (fun cdv A outer s H vs Q E hr h => ?_)
  · obtain ⟨st, cl, m, ab, ks, n, rfl, _⟩ := h
    rfl
  · obtain ⟨st, cl, m, ab, ks, n, rfl, S, hn, M, k⟩ := h
    have hu : (A.deeper (PyProof.Rows.envOfC "_law_r_some_word" (defScope sRSome) s.heap.objs.size f cdv)).units + 64 < cLine := hr.units
    have r1 := hr.mono (show 1 ≤ 2 by decide)
    refine ⟨_, pss_mid (ps_set (i := 2) scSm.nd rfl (Or.inl rfl) (pe_lst (pa_cons pe_str (pa_cons pe_str (pa_cons pe_str (pa_cons pe_str (pa_cons pe_str (pa_cons pe_str (pa_cons pe_str (pa_cons pe_str (pa_cons pe_str (pa_cons pe_str (pa_cons pe_str (pa_cons pe_str (pa_cons pe_str (pa_cons pe_str pa_nil))))))))))))))))
      (pss_mid (ps_setLc (i := 4) (own := [("_law_flag", 3), ("_law_option", 7)]) (g := gTup K 2 (gCons (gName 3) (gCons (gName 7) gNil))) (tt := tYes) (te := tVar 3) rfl scSm.nd rfl rfl (sw_true rfl rfl rfl (by decide +kernel)) (pi_list (pe_call G.ok r1 rfl G.m G.k G.b .nil pass0 (pa_cons (pv 1) pa_nil))) (blkOk_by (N := nSm) (sc := defScope sRSome) (by decide +kernel)) (fun _ _ _ _ _ => pg_tup rfl (pgs_cons (pg_name (i := 3) scSm.nd rfl (Or.inl rfl)) (pgs_cons (pg_name (i := 7) scSm.nd rfl (Or.inl rfl)) pgs_nil))) (fun _ _ _ _ _ => pts_nil) (fun _ _ _ _ _ => by exact pv 3))
      (pss_mid (ps_set (i := 5) scSm.nd rfl (Or.inl rfl) (pe_ifExp (pt_cmpR (op_neD hu) (pv 4) (pe_lst pa_nil) (nomark _)) (pe_call Dr.ok r1 rfl Dr.m Dr.k Dr.b .nil pass0 (pa_cons (pv 0) (pa_cons pe_int pa_nil))) pe_int))
      (pss_mid (ps_if (pt_cmpR op_gt (pv 5) pe_int (nomark _)) (pss_one (ps_ret (pe_call Pk.ok hr rfl Pk.m Pk.k Pk.b .nil pass0 (pa_cons (pv 0) (pa_cons (pv 2) pa_nil))))) pss_nil)
      (pss_mid (ps_par (i := 3) (j := 6) (by rfl) scSm.nd rfl rfl (by decide) rfl rfl (pa_cons (pe_call Pk.ok hr rfl Pk.m Pk.k Pk.b .nil pass0 (pa_cons (pv 0) (pa_cons (pe_op op_cat (pv 4) (pe_lst (pa_cons pe_str pa_nil))) pa_nil))) (pa_cons (pe_call Pk.ok hr rfl Pk.m Pk.k Pk.b .nil pass0 (pa_cons (pv 0) (pa_cons (pe_op op_cat (pv 4) (pe_lst (pa_cons pe_str pa_nil))) pa_nil))) pa_nil)) (by rfl))
      (pss_mid (ps_if (pt_cmpR op_lt (pv 5) pe_int (nomark _)) (pss_one (ps_ret (pv 3))) pss_nil)
      (pss_mid (ps_if (pt_cmpR op_eq (pv 5) pe_int (nomark _)) (pss_one (ps_ret (pe_op op_add_str (pe_op op_add_str (pv 3) pe_str) (pe_call Pk.ok hr rfl Pk.m Pk.k Pk.b .nil pass0 (pa_cons (pv 0) (pa_cons (pe_lst (pa_cons pe_str (pa_cons pe_str (pa_cons pe_str (pa_cons pe_str (pa_cons pe_str (pa_cons pe_str pa_nil))))))) pa_nil)))))) pss_nil)
      (pss_mid (ps_if (pt_cmpR op_eq (pv 5) pe_int (nomark _)) (pss_one (ps_ret (pe_slice sl_str (pv 3) po_none (po_some (pe_op op_add pe_int (pe_call Dr.ok r1 rfl Dr.m Dr.k Dr.b .nil pass0 (pa_cons (pv 0) (pa_cons (pe_callB call_len_str (by rfl) T.len PySem.boot_len (pa_cons (pv 3) pa_nil)) pa_nil)))))))) pss_nil)
      (pss_mid (ps_if (pt_cmpR op_eq (pv 5) pe_int (nomark _)) (pss_one (ps_ret (pe_op op_add_str (pe_op op_add_str (pe_slice sl_str (pv 3) po_none (po_some (pe_op op_add pe_int (pe_call Dr.ok r1 rfl Dr.m Dr.k Dr.b .nil pass0 (pa_cons (pv 0) (pa_cons (pe_callB call_len_str (by rfl) T.len PySem.boot_len (pa_cons (pv 3) pa_nil)) pa_nil)))))) pe_str) (pe_call Pk.ok hr rfl Pk.m Pk.k Pk.b .nil pass0 (pa_cons (pv 0) (pa_cons (pe_lst (pa_cons pe_str (pa_cons pe_str (pa_cons pe_str pa_nil)))) pa_nil)))))) pss_nil)
      (pss_mid (ps_if (pt_cmpR op_eq (pv 5) pe_int (nomark _)) (pss_one (ps_ret (pe_op op_add_str (pe_op op_add_str (pe_slice sl_str (pv 3) po_none (po_some pe_int)) (pe_slice sl_str (pv 6) (po_some pe_int) (po_some pe_int))) (pe_call Pk.ok hr rfl Pk.m Pk.k Pk.b .nil pass0 (pa_cons (pv 0) (pa_cons (pe_lst (pa_cons pe_str (pa_cons pe_str (pa_cons pe_str (pa_cons pe_str (pa_cons pe_str (pa_cons pe_str pa_nil))))))) pa_nil)))))) pss_nil)
      (pss_one (ps_ret (pe_op op_add_str (pv 3) (pe_call Pk.ok hr rfl Pk.m Pk.k Pk.b .nil pass0 (pa_cons (pv 0) (pa_cons (pe_lst (pa_cons pe_str (pa_cons pe_str (pa_cons pe_str (pa_cons pe_str (pa_cons pe_str (pa_cons pe_str (pa_cons (pe_slice sl_str (pv 6) (po_some pe_int) po_none) pa_nil)))))))) pa_nil))))))))))))))), ?_⟩
    -- plain words
    refine ⟨fun σ' H' => ∃ pl : Addr, σ' = [some (.ref st), some (.ref m), some (.ref pl), none, none, none, none, none] ∧ Same H H' ∧ H' pl = some (.lst (plain14.map V.str)) ∧ pl ≠ st ∧ pl ≠ cl, ?_, ?_⟩
    · refine ⟨(by show 14 ≤ sizeLine; decide), fun pl hpl => ?_⟩
      have f := S.fr hpl (Same.refl _)
      exact ⟨pl, rfl, same_upd hpl, upd_same, f.1, f.2⟩
    rintro _ H1 ⟨pl, rfl, e1, hpl, q1, q2⟩
    -- flags
    refine ⟨fun σ' H' => ∃ fp : Addr, σ' = [some (.ref st), some (.ref m), some (.ref pl), none, some (.ref fp), none, none, none] ∧ Same H H' ∧ H' pl = some (.lst (plain14.map V.str)) ∧ H' fp = some (.lst (ks.map V.str)) ∧ fp ≠ st ∧ fp ≠ cl, ?_, ?_⟩
    · obtain ⟨fi, lo, lp, os, qs, h1, h2, _, _, h3, h4⟩ := M.ex
      have hfl : (qs.map (·.fl)).flatten = ks := h4
      have hl1 := M.l1
      refine ⟨_, rfl, m, fi, lo, lp, _, os, qs.map (·.fl), rfl, e1 _ _ h1, e1 _ _ h2, (h3.keep fun b u _ e => e1 b u e).tups, by rw [hfl]; omega, fun L xs H2 e2 hL hP => ⟨L, rfl, ⟨_, SqL.of hL⟩, fun D hD => ?_⟩⟩
      rw [hfl] at hP
      have fD := S.fr hD (e1.trans e2)
      refine lc_list (K := K) (a := L) (xs := xs) (fun j H3 => Same H2 H3 ∧ H3 D = some (.lst ((ks.take j).map V.str))) ⟨same_upd hD, upd_same⟩ (fun j H3 _ h => SqL.of (h.1 _ _ hL)) (fun j y H3 hy h => ?_) (fun H3 h => ?_)
      · have hj : j < ks.length := by
          rw [← hP.len]
          exact (List.getElem?_eq_some_iff.mp hy).1
        obtain ⟨t, v, e3, ht, _⟩ := hP.at_ j _ (List.getElem?_eq_getElem hj)
        cases Option.some.inj (e3.symm.trans hy)
        refine ⟨t, _, rfl, SqT.of (h.1 _ _ ht), rfl, _, _, rfl, _, _, rfl, rfl, rfl, _, rfl, _, h.2, sz_lt1 (by rw [List.length_map, List.length_take]; omega) (show j < 1001 by omega), same_mut h.1 hD, ?_⟩
        rw [upd_same, take_more' (List.getElem?_eq_getElem hj), List.map_append]
        rfl
      · obtain ⟨s2, hl⟩ := h
        rw [hP.len, List.take_length] at hl
        exact ⟨D, rfl, (e1.trans e2).trans s2, s2 _ _ (e2 _ _ hpl), hl, fD.1, fD.2⟩
    rintro _ H2 ⟨fp, rfl, e2, hpl2, hfp, f1, f2⟩
    have flo := fl_ok M.fa
    -- the way
    refine ⟨fun σ' H' => ∃ (i : Int) (n1 : Nat), σ' = [some (.ref st), some (.ref m), some (.ref pl), none, some (.ref fp), some (.int i), none, none] ∧ Strm H' st cl n1 ∧ n1 ≤ n + 1 ∧ Kp2 st cl H H' ∧ H' pl = some (.lst (plain14.map V.str)) ∧ H' fp = some (.lst (ks.map V.str)), ?_, ?_⟩
    · refine ⟨_, rfl, (by show 0 ≤ sizeLine; decide), fun q hq => ?_⟩
      have eq := same_upd (o := .lst []) hq
      refine ⟨.list (ks.map PyData.str), .list [], .lst (SqL.of (eq _ _ hfp)) (dpAll_strs _), .lst (SqL.of upd_same) .nil, shaped_strs (fun x hx => (flags_facts x (M.fa x hx)).1), by decide, !ks.isEmpty, ?_, ?_⟩
      · cases ks <;> rfl
      have e3 := e2.trans eq
      cases ks with
      | nil => exact iteF ⟨_, _, rfl, S.keep e3, by omega, Kp2.of_same e3, eq _ _ hpl2, eq _ _ hfp⟩
      | cons x xs =>
        refine iteT ⟨_, rfl, st, cl, n, _, rfl, S.keep e3, by decide, by decide, by omega, fun j H3 j0 j1 S3 k3 => ⟨j, _, rfl, S3, Nat.le_refl _, (Kp2.of_same e3).trans k3, k3 _ _ (eq _ _ hpl2) q1 q2, k3 _ _ (eq _ _ hfp) f1 f2⟩⟩
    rintro _ H3 ⟨i, n1, rfl, S3, hn1, k3, hpl3, hfp3⟩
    -- a plain word
    refine ⟨fun σ' H' => σ' = [some (.ref st), some (.ref m), some (.ref pl), none, some (.ref fp), some (.int i), none, none] ∧ H3 = H', ?_, ?_⟩
    · refine ⟨_, rfl, _, _, rfl, rfl, _, rfl, ?_⟩
      refine ite2 (fun _ => ?_) (fun _ => ⟨rfl, rfl⟩)
      refine ⟨_, rfl, _, rfl, st, cl, n1, pl, _, rfl, S3, hpl3, q1, q2, (fun q => nomatch q), (by show 14 < 1000; decide), by omega, fun x H4 hx S4 k4 => ?_⟩
      obtain ⟨z, hz, rfl⟩ := List.mem_map.mp hx
      exact k z H4 _ ((plain_ok z hz).w (by decide)) S4 (by omega) (k3.trans k4)
    rintro _ _ ⟨rfl, rfl⟩
    -- two flags
    refine ⟨fun σ' H' => ∃ (a b : Str) (n2 : Nat), σ' = [some (.ref st), some (.ref m), some (.ref pl), some (.str a), some (.ref fp), some (.int i), some (.str b), none] ∧ okS 10 a ∧ 0 < a.length ∧ okS 10 b ∧ Strm H' st cl n2 ∧ n2 ≤ n + 3 ∧ Kp2 st cl H H', ?_, ?_⟩
    · have pick : ∀ (Hx : Hp) (nx : Nat) (Qx : VK), Strm Hx st cl nx → nx ≤ n + 2 → Kp2 st cl H Hx → Hx fp = some (.lst (ks.map V.str)) → (∀ (a : Str) (H' : Hp), okS 10 a → 0 < a.length → Strm H' st cl (nx + 1) → Kp2 st cl H H' → H' fp = some (.lst (ks.map V.str)) → Qx (.str a) H') →
          (1 ≤ sizeLine ∧ ∀ p : Addr, Hx p = none → ∃ l b xs zs, V.ref fp = .ref l ∧ V.ref p = .ref b ∧ upd Hx p (.lst [V.str "-v"]) l = some (.lst xs) ∧ upd Hx p (.lst [V.str "-v"]) b = some (.lst zs) ∧ xs.length + zs.length ≤ sizeLine ∧ ∀ p', upd Hx p (.lst [V.str "-v"]) p' = none → spPick [V.ref st, .ref p'] (upd (upd Hx p (.lst [V.str "-v"])) p' (.lst (xs ++ zs))) Qx E0) := by
        intro Hx nx Qx Sx hx kx hf cont
        refine ⟨by decide, fun p hp => ?_⟩
        have ep := same_upd (o := .lst [V.str "-v"]) hp
        refine ⟨fp, p, _, _, rfl, rfl, ep _ _ hf, upd_same, ?_, fun p' hp' => ?_⟩
        · have := M.l1
          rw [List.length_map, PySem.sizeLine_eq]
          show ks.length + 1 ≤ _
          omega
        have em : ks.map V.str ++ [V.str "-v"] = (ks ++ [("-v" : Str)]).map V.str := by rw [List.map_append]; rfl
        rw [em]
        have ep2 := ep.trans (same_upd (o := .lst ((ks ++ [("-v" : Str)]).map V.str)) hp')
        have g := (Sx.keep ep).fr hp' (Same.refl _)
        refine ⟨st, cl, nx, p', _, rfl, Sx.keep ep2, upd_same, g.1, g.2, ?_, ?_, by omega, fun x H4 hx S4 k4 => ?_⟩
        · intro q
          rw [List.map_append] at q
          exact absurd (congrArg List.length q) (by simp)
        · have := M.l1
          rw [List.length_map, List.length_append]
          show ks.length + 1 < 1000
          omega
        obtain ⟨z, hz, rfl⟩ := List.mem_map.mp hx
        exact cont z H4 (flo z hz).1 (flo z hz).2 S4 ((kx.trans (Kp2.of_same ep2)).trans k4) (k4 _ _ (ep2 _ _ hf) f1 f2)
      refine ⟨_, rfl, _, rfl, pick H3 n1 _ S3 (by omega) k3 hfp3 fun a H4 oa la S4 k4 hf4 => ?_⟩
      refine ⟨_, rfl, _, rfl, pick H4 (n1 + 1) _ S4 (by omega) k4 hf4 fun b H5 ob _ S5 k5 hf5 => ⟨_, _, rfl, a, b, _, rfl, oa, la, ob, S5, by omega, k5⟩⟩
    rintro _ H4 ⟨a, b, n2, rfl, oa, la, ob, S4, hn2, k4⟩
    have las : a.length ≤ sizeLine := by have := oa.1; rw [PySem.sizeLine_eq]; omega
    have lbs : b.length ≤ sizeLine := by have := ob.1; rw [PySem.sizeLine_eq]; omega
    -- picking one of some texts
    have pick : ∀ (Hx : Hp) (nx : Nat) (Qx : VK) (xs : List Str) (p : Addr), Strm Hx st cl nx → nx ≤ n + 4 → Kp2 st cl H Hx → xs ≠ [] → xs.length < 1000 → (∀ z ∈ xs, okS 10 z) → Hx p = none → (∀ (z : Str) (H' : Hp), okS 10 z → Strm H' st cl (nx + 1) → Kp2 st cl H H' → Qx (.str z) H') → spPick [V.ref st, .ref p] (upd Hx p (.lst (xs.map V.str))) Qx E0 := by
      intro Hx nx Qx xs p Sx hx kx ne ln ok hp cont
      have ep := same_upd (o := .lst (xs.map V.str)) hp
      have g := Sx.fr hp (Same.refl _)
      refine ⟨st, cl, nx, p, _, rfl, Sx.keep ep, upd_same, g.1, g.2, (fun q => ne (List.map_eq_nil_iff.mp q)), by rw [List.length_map]; exact ln, by omega, fun x H4 hx S4 k4 => ?_⟩
      obtain ⟨z, hz, rfl⟩ := List.mem_map.mp hx
      exact cont z H4 (ok z hz) S4 ((kx.trans (Kp2.of_same ep)).trans k4)
    -- a flag alone
    refine ⟨fun σ' H' => σ' = [some (.ref st), some (.ref m), some (.ref pl), some (.str a), some (.ref fp), some (.int i), some (.str b), none] ∧ H4 = H', ?_, ?_⟩
    · refine ⟨_, rfl, _, _, rfl, rfl, _, rfl, ?_⟩
      exact ite2 (fun _ => ⟨_, rfl, k a H4 _ (oa.w (by decide)) S4 (by omega) k4⟩) (fun _ => ⟨rfl, rfl⟩)
    rintro _ _ ⟨rfl, rfl⟩
    -- with a value
    refine ⟨fun σ' H' => σ' = [some (.ref st), some (.ref m), some (.ref pl), some (.str a), some (.ref fp), some (.int i), some (.str b), none] ∧ H4 = H', ?_, ?_⟩
    · refine ⟨_, rfl, rfl, _, rfl, ?_⟩
      refine ite2 (fun _ => ?_) (fun _ => ⟨rfl, rfl⟩)
      refine ⟨_, rfl, _, _, rfl, rfl, sz2 oa eq_ok (by decide), _, rfl, (by show 6 ≤ sizeLine; decide), fun p hp => pick H4 n2 _ tails6 p S4 (by omega) k4 (fun q => nomatch q) (by decide) tails6_ok hp fun z H5 oz S5 k5 => ?_⟩
      exact ⟨_, _, rfl, rfl, sz2 (app_ok oa eq_ok) oz (by decide), k _ H5 _ ((app_ok (app_ok oa eq_ok) oz).w (by decide)) S5 (by omega) k5⟩
    rintro _ _ ⟨rfl, rfl⟩
    -- a beginning
    refine ⟨fun σ' H' => σ' = [some (.ref st), some (.ref m), some (.ref pl), some (.str a), some (.ref fp), some (.int i), some (.str b), none] ∧ H4 = H', ?_, ?_⟩
    · refine ⟨_, rfl, rfl, _, rfl, ?_⟩
      refine ite2 (fun _ => ?_) (fun _ => ⟨rfl, rfl⟩)
      refine ⟨_, rfl, _, rfl, _, rfl, a, rfl, las, st, cl, n2, _, rfl, S4, by omega, by have := oa.1; omega, by omega, fun j H5 j0 j1 S5 k5 => ?_⟩
      exact ⟨_, _, rfl, rfl, _, rfl, a, rfl, las, k _ H5 _ ((cutS_ok oa _ _).w (by decide)) S5 (by omega) (k4.trans k5)⟩
    rintro _ _ ⟨rfl, rfl⟩
    -- a beginning with a value
    refine ⟨fun σ' H' => σ' = [some (.ref st), some (.ref m), some (.ref pl), some (.str a), some (.ref fp), some (.int i), some (.str b), none] ∧ H4 = H', ?_, ?_⟩
    · refine ⟨_, rfl, rfl, _, rfl, ?_⟩
      refine ite2 (fun _ => ?_) (fun _ => ⟨rfl, rfl⟩)
      refine ⟨_, rfl, _, rfl, _, rfl, a, rfl, las, st, cl, n2, _, rfl, S4, by omega, by have := oa.1; omega, by omega, fun j H5 j0 j1 S5 k5 => ?_⟩
      have oc := cutS_ok oa none (some (2 + j))
      refine ⟨_, _, rfl, rfl, _, rfl, a, rfl, las, _, _, rfl, rfl, sz2 oc eq_ok (by decide), _, rfl, (by show 3 ≤ sizeLine; decide), fun p hp => pick H5 (n2 + 1) _ tails3 p S5 (by omega) (k4.trans k5) (fun q => nomatch q) (by decide) tails3_ok hp fun z H6 oz S6 k6 => ?_⟩
      exact ⟨_, _, rfl, rfl, sz2 (app_ok oc eq_ok) oz (by decide), k _ H6 _ ((app_ok (app_ok oc eq_ok) oz).w (by decide)) S6 (by omega) k6⟩
    rintro _ _ ⟨rfl, rfl⟩
    -- two in one word
    refine ⟨fun σ' H' => σ' = [some (.ref st), some (.ref m), some (.ref pl), some (.str a), some (.ref fp), some (.int i), some (.str b), none] ∧ H4 = H', ?_, ?_⟩
    · refine ⟨_, rfl, rfl, _, rfl, ?_⟩
      refine ite2 (fun _ => ?_) (fun _ => ⟨rfl, rfl⟩)
      have o1 := cutS_ok oa none (some 2)
      have o2 := cutS_ok ob (some 1) (some 2)
      refine ⟨_, rfl, _, rfl, a, rfl, las, _, rfl, _, rfl, _, rfl, b, rfl, lbs, _, _, rfl, rfl, sz2 o1 o2 (by decide), _, rfl, (by show 6 ≤ sizeLine; decide), fun p hp => pick H4 n2 _ tails5 p S4 (by omega) k4 (fun q => nomatch q) (by decide) tails5_ok hp fun z H5 oz S5 k5 => ?_⟩
      exact ⟨_, _, rfl, rfl, sz2 (app_ok o1 o2) oz (by decide), k _ H5 _ ((app_ok (app_ok o1 o2) oz).w (by decide)) S5 (by omega) k5⟩
    rintro _ _ ⟨rfl, rfl⟩
    -- more signs behind a flag
    have o3 := cutS_ok ob (some 1) none
    refine ⟨_, rfl, _, rfl, _, rfl, _, rfl, b, rfl, lbs, (by show 7 ≤ sizeLine; decide), fun p hp => pick H4 n2 _ (tails7 ++ [cutS b (some 1) none]) p S4 (by omega) k4 (fun q => nomatch q) (by show 7 < 1000; decide) (fun z hz => ?_) hp fun z H5 oz S5 k5 => ?_⟩
    · rcases List.mem_append.mp hz with h | h
      · exact tails7_ok z h
      · rw [List.mem_singleton.mp h]
        exact o3
    · exact ⟨_, _, rfl, rfl, sz2 oa oz (by decide), k _ H5 _ ((app_ok oa oz).w (by decide)) S5 (by omega) k5⟩
end
end K01

namespace K01
open PySem L2 PyProof.Rows
/-! ### the law's lines -/
def spLine : Sp := fun vs H Q _ => ∃ (st cl m : Addr) (ab : Bool) (ks : List Str) (n : Nat), vs = [.ref st, .ref m, .int 9] ∧ Strm H st cl n ∧ n ≤ 70000 ∧ LMs H st cl m ab ks ∧
  ∀ (L : Addr) (ws : List Str) (H' : Hp) (n' : Nat), H L = none → H' L = some (.lst (ws.map V.str)) → ws.length ≤ 9 → (∀ x ∈ ws, okW x) → Strm H' st cl n' → n' ≤ n + 50 → Kp2 st cl H H' → Q (.ref L) H'
theorem eqv_strs {l : List Str} (h : ∀ x ∈ l, PyData.strOk x = true) : PyData.eqv (.list (l.map PyData.str)) (.list (l.map PyData.str)) = true := by
  refine PySem.SeqAt.eqv_refl _ ?_
  have := shaped_strs h
  unfold SeqAt.shaped at this
  rw [Bool.and_eq_true] at this
  exact this.1
section
variable {P : Program} {w : World} {K : PySem.W.Frag} {mg : Str → Option Value} {base : Heap}
abbrev nLi : List Str := ["_law_stream", "_law_m", "_law_most", "_law_k"]
theorem scLi : FnScope nLi ["_law_stream", "_law_m", "_law_most"] (defScope sRLine) := ⟨rfl, rfl, rfl, by decide +kernel, rfl, by decide +kernel, by decide +kernel⟩
theorem ok_line {f fD fS : Addr} {fd fdD fdS : FuncData} (F : Fun K "_law_r_line" "_law_r_line" sRLine f fd) (T : TxtB mg) (Dr : At P w K mg base "_law_draw" 1 ["_law_stream", "_law_many"] spDraw fD fdD) (So : At P w K mg base "_law_r_some_word" 3 ["_law_stream", "_law_m"] spSome fS fdS) : FnOk P w K mg base CX0 4 f fd ["_law_stream", "_law_m", "_law_most"] spLine := by
  refine F.ok scLi (fun vs H Q E h => ?_) (fun cdv A outer s H vs Q E hr h => ?_)
  · obtain ⟨st, cl, m, ab, ks, n, rfl, _⟩ := h
    rfl
  · obtain ⟨st, cl, m, ab, ks, n, rfl, S, hn, M, k⟩ := h
    have r1 := hr.mono (show 1 ≤ 3 by decide)
    refine ⟨_, pss_one (ps_ret (pe_lc (own := [("_law_k", 3)]) (g := gName 3) (tt := tYes) (te := tCall spSome [] E0 (tCons (tVar 0) (tCons (tVar 1) tNil))) rfl scLi.nd (pi_range1 rfl T.range (pa_cons (pe_call Dr.ok r1 rfl Dr.m Dr.k Dr.b .nil pass0 (pa_cons (pv 0) (pa_cons (pe_op op_add (pv 2) pe_int) pa_nil))) pa_nil)) (blkOk_by (N := nLi) (sc := defScope sRLine) (by decide +kernel)) (fun _ _ _ _ _ => pg_name (i := 3) scLi.nd rfl (Or.inl rfl)) (fun _ _ _ _ _ => pts_nil)
      (fun _ _ _ _ _ => by exact pe_call So.ok (by exact hr) rfl So.m So.k So.b .nil pass0 (pa_cons (pv 0) (pa_cons (pv 1) pa_nil))))), ?_⟩
    refine ⟨_, rfl, _, rfl, _, _, rfl, rfl, st, cl, n, 10, rfl, S, by decide, by decide, by omega, fun j H1 j0 j1 S1 k1 => ?_⟩
    refine ⟨j, rfl, by omega, by omega, fun D hD => ?_⟩
    have fD := S1.fr hD (Same.refl _)
    have M1 := M.kp S k1
    have hD0 : H D = none := by
      cases e : H D with
      | none => rfl
      | some o =>
        have := k1 _ _ e fD.1 fD.2
        rw [hD] at this
        cases this
    refine lc_range (lo := 0) (n := j.toNat) (fun i H' => ∃ (ws : List Str) (n' : Nat), H' D = some (.lst (ws.map V.str)) ∧ ws.length = i ∧ (∀ x ∈ ws, okW x) ∧ Strm H' st cl n' ∧ n' ≤ n + 1 + 5 * i ∧ LMs H' st cl m ab ks ∧ Kp2 st cl H H')
      ⟨[], n + 1, upd_same, rfl, (fun x hx => nomatch hx), S1.keep (same_upd hD), Nat.le_refl _, M1.keep S1 (same_upd hD), k1.trans (Kp2.of_same (same_upd hD))⟩ (fun i H' hi h => ?_) (fun H' h => ?_)
    · obtain ⟨ws, n', h1, hl, ok, S', hn', M', kk⟩ := h
      refine ⟨rfl, _, rfl, _, rfl, st, cl, m, ab, ks, n', rfl, S', by omega, M', fun z H2 n2 oz S2 hn2 k2 => ?_⟩
      have q := k2 _ _ h1 fD.1 fD.2
      have kk2 := kk.trans k2
      have M2 := M'.kp S' k2
      obtain ⟨fi, lo, lp, vs, os, m1, m2, m3, m4, m5, m6⟩ := M2.ex
      refine ⟨_, q, sz_lt1 (by rw [List.length_map]; exact hl) (show i < 1001 by omega), ws ++ [z], n2, by rw [upd_same, List.map_append]; rfl, by rw [List.length_append, hl, List.length_singleton], fun x hx => ?_, S2.put fD.1 fD.2, by omega, ?_, ?_⟩
      · rcases List.mem_append.mp hx with h | h
        · exact ok x h
        · rw [List.mem_singleton.mp h]
          exact oz
      · have up : ∀ b o, H2 b = some o → b ≠ D → upd H2 D (.lst (ws.map V.str ++ [V.str z])) b = some o := fun b o e nb => by rw [upd_ne nb]; exact e
        have nlo : lo ≠ D := by
          rintro rfl
          obtain ⟨fi0, lo0, lp0, vs0, os0, a1, a2, a3, a4, a5, a6⟩ := M.ex
          have b1 := kk2.nl S a1 (fun xs z => nomatch z)
          rw [m1] at b1
          have := (List.cons.inj (List.cons.inj (List.cons.inj (List.cons.inj (List.cons.inj (HO.dK.inj (Option.some.inj b1))).2).2).2).2).1
          have e2 : lo = lo0 := V.ref.inj (Prod.mk.inj this).2
          rw [← e2, hD0] at a2
          cases a2
        exact ⟨⟨fi, lo, lp, vs, os, up _ _ m1 (ne_of m1 q (by intro z; cases z)), up _ _ m2 nlo, m3, m4, m5.keep (fun b u ⟨xs, hu⟩ e => up _ _ e (ne_of e q (by subst hu; intro z; cases z))), m6⟩, M2.l1, M2.fa⟩
      · intro b o e n1 n2
        rw [upd_ne (ne_of_none e hD0)]
        exact kk2 _ _ e n1 n2
    · obtain ⟨ws, n', h1, hl, ok, S', hn', M', kk⟩ := h
      exact k D ws H' n' hD0 h1 (by omega) ok S' (by omega) kk
end
end K01

namespace K01
open PySem L2 PyProof.Rows
/-! ### the law: one line -/
abbrev bLaw : List Stmt := defBody sLaw
abbrev bTurn : List Stmt := forBody (at_ bLaw 1)
abbrev bLine : List Stmt := forBody (at_ bTurn 2)
abbrev nLaw : List Str := ["_law_script", "_law_stream", "_law_turn", "_law_m", "_law_parser", "_law_k", "_law_words", "_law_kept", "_law_due", "_law_handed", "_law_found"]
theorem scLaw : FnScope nLaw ["_law_script"] (defScope sLaw) := ⟨rfl, rfl, rfl, by decide +kernel, rfl, by decide +kernel, by decide +kernel⟩
theorem ParW.kp {CP : Addr} {H H' : Hp} {st cl p : Addr} {ab : Bool} {ks : List Str} {n : Nat} (h : ParW CP H p ab ks) (S : Strm H st cl n) (e : Kp2 st cl H H') : ParW CP H' p ab ks := by
  obtain ⟨dx, fs, lf, kvs, fi, h1, h2, h3, h4, h5, h6, h7, h8⟩ := h.ex
  exact ⟨⟨dx, fs, lf, kvs, fi, e.nl S h1 (fun xs z => nomatch z), h2, h3, h4, h5, h6, e.nl S h7 (fun xs z => nomatch z), h8⟩, h.l1, h.l2⟩
section
variable {P : Program} {w : World} {K : PySem.W.Frag} {mg : Str → Option Value} {base : Heap}
abbrev X0 (P : Program) (w : World) (K : PySem.W.Frag) (mg : Str → Option Value) (base : Heap) (f : Addr) (cdv : Value) (A0 : Around) (outer : List Env) (s : Shared) (H : Hp) (E : XK) : Cx := (cxOf CX0 P w K mg base nLaw "law" (defScope sLaw) f cdv A0 outer s H E).nox
theorem line_walk {f fD fL fR fT fS CP : Addr} {fdD fdL fdR fdT fdS : FuncData} (T : TxtB mg) (Dr : At P w K mg base "_law_draw" 1 ["_law_stream", "_law_many"] spDraw fD fdD) (Li : At P w K mg base "_law_r_line" 4 ["_law_stream", "_law_m", "_law_most"] spLine fL fdL) (Rl : At P w K mg base "_law_r_letters" 4 ["_law_m", "_law_words"] spRLetters fR fdR) (Le : At P w K mg base "letters" 5 ["parser", "words"] (spLetters CP) fT fdT) (Sa : At P w K mg base "_law_same" 4 ["_law_found", "_law_due"] (spSame 3) fS fdS)
    {cdv : Value} {A0 : Around} {outer : List Env} {s : Shared} {H0 : Hp} {E : XK} (hr : Room 9 (A0.deeper (PyProof.Rows.envOfC "law" (defScope sLaw) s.heap.objs.size f cdv))) :
    ∃ t : TS, PSs (X0 P w K mg base f cdv A0 outer s H0 E) bLine t ∧ ∀ (D : Ends) (H : Hp) (sc r2 r5 r6 r7 r8 r9 r10 : Option V) (st cl m p : Addr) (ab : Bool) (ks : List Str) (n : Nat), Strm H st cl n → n ≤ 60000 → LMs H st cl m ab ks → ParW CP H p ab ks →
      (∀ (r6 r7 r8 r9 r10 : Option V) (H' : Hp) (n' : Nat), Strm H' st cl n' → n' ≤ n + 60 → LMs H' st cl m ab ks → ParW CP H' p ab ks → D.nx [sc, some (.ref st), r2, some (.ref m), some (.ref p), r5, r6, r7, r8, r9, r10] H') →
      t D [sc, some (.ref st), r2, some (.ref m), some (.ref p), r5, r6, r7, r8, r9, r10] H := by
  have r5' := hr.mono (show 5 ≤ 9 by decide)
  have r4' := hr.mono (show 4 ≤ 9 by decide)
  have r1' := hr.mono (show 1 ≤ 9 by decide)
  have hu : (A0.deeper (PyProof.Rows.envOfC "law" (defScope sLaw) s.heap.objs.size f cdv)).units + 64 < cLine := hr.units
  refine ⟨_, pss_mid (ps_set (i := 6) scLaw.nd rfl (Or.inl rfl) (pe_call Li.ok r4' rfl Li.m Li.k Li.b .nil pass0 (pa_cons (pv 1) (pa_cons (pv 3) (pa_cons pe_int pa_nil)))))
    (pss_mid (ps_par (i := 7) (j := 8) (by rfl) scLaw.nd rfl rfl (by decide) rfl rfl (pa_cons (pe_callTy call_list_of (by rfl) T.list (by decide +kernel) (pa_cons (pv 6) pa_nil)) (pa_cons (pe_call Rl.ok r4' rfl Rl.m Rl.k Rl.b .nil pass0 (pa_cons (pv 3) (pa_cons (pv 6) pa_nil))) pa_nil)) (by rfl))
    (pss_mid (ps_set (i := 9) scLaw.nd rfl (Or.inl rfl) (pe_ifExp (pt_cmpR op_eq (pe_call Dr.ok r1' rfl Dr.m Dr.k Dr.b .nil pass0 (pa_cons (pv 1) (pa_cons pe_int pa_nil))) pe_int (nomark _)) (pv 6) (pe_callTy call_tuple_of (by rfl) T.tuple (by decide +kernel) (pa_cons (pv 6) pa_nil))))
    (pss_mid (ps_set (i := 10) scLaw.nd rfl (Or.inl rfl) (pe_lst (pa_cons (pe_call Le.ok r5' rfl Le.m Le.k Le.b .nil pass0 (pa_cons (pv 4) (pa_cons (pv 9) pa_nil))) (pa_cons (pe_call Le.ok r5' rfl Le.m Le.k Le.b .nil pass0 (pa_cons (pv 4) (pa_cons (pv 9) pa_nil))) pa_nil))))
    (pss_one (ps_if (PW.pt (pw_or (pt_not (pt_val (pe_call Sa.ok r4' rfl Sa.m Sa.k Sa.b .nil pass0 (pa_cons (pv 10) (pa_cons (pe_lst (pa_cons (pv 8) (pa_cons (pv 8) pa_nil))) pa_nil))))) (pw_or1 (pt_cmpR (op_neD hu) (pv 6) (pv 7) (nomark _))))) pss_never pss_nil))))), ?_⟩
  intro D H sc r2 r5 r6 r7 r8 r9 r10 st cl m p ab ks n S hn M W k
  -- the words
  refine ⟨fun σ' H' => ∃ (L : Addr) (ws : List Str) (n1 : Nat), σ' = [sc, some (.ref st), r2, some (.ref m), some (.ref p), r5, some (.ref L), r7, r8, r9, r10] ∧ H' L = some (.lst (ws.map V.str)) ∧ L ≠ st ∧ L ≠ cl ∧ ws.length ≤ 9 ∧ (∀ x ∈ ws, okW x) ∧ Strm H' st cl n1 ∧ n1 ≤ n + 50 ∧ LMs H' st cl m ab ks ∧ ParW CP H' p ab ks, ?_, ?_⟩
  · refine ⟨_, rfl, _, rfl, st, cl, m, ab, ks, n, rfl, S, by omega, M, fun L ws H1 n1 nL hL hl ok S1 hn1 k1 => ?_⟩
    have f := S.fr nL (Same.refl _)
    exact ⟨L, ws, n1, rfl, hL, f.1, f.2, hl, ok, S1, hn1, M.kp S k1, W.kp S k1⟩
  rintro _ H1 ⟨L, ws, n1, rfl, hL, l1, l2, hwl, wok, S1, hn1, M1, W1⟩
  have okw : okWs ws := ⟨by omega, wok⟩
  -- a copy, what is due
  refine ⟨fun σ' H' => ∃ c : Addr, σ' = [sc, some (.ref st), r2, some (.ref m), some (.ref p), r5, some (.ref L), some (.ref c), some (.str (lettersL ks ab ws)), r9, r10] ∧ H' L = some (.lst (ws.map V.str)) ∧ H' c = some (.lst (ws.map V.str)) ∧ c ≠ st ∧ c ≠ cl ∧ Strm H' st cl n1 ∧ LMs H' st cl m ab ks ∧ ParW CP H' p ab ks, ?_, ?_⟩
  · refine ⟨_, rfl, L, _, rfl, .inl (SqL.of hL), fun c hc => ?_⟩
    have e1 := same_upd (o := .lst (ws.map V.str)) hc
    have f := S1.fr hc (Same.refl _)
    have hcc := upd_same (H := H1) (a := c) (o := .lst (ws.map V.str))
    generalize upd H1 c (.lst (ws.map V.str)) = H2 at e1 hcc
    have M2 := M1.keep S1 e1
    refine ⟨_, rfl, _, rfl, m, L, ab, ks, ws, rfl, M2.lm, e1 _ _ hL, okw, fun H3 e3 => ⟨_, _, rfl, c, rfl, ?_⟩⟩
    have e := e1.trans e3
    exact ⟨e _ _ hL, e3 _ _ hcc, f.1, f.2, S1.keep e, M1.keep S1 e, W1.keep e⟩
  rintro _ H2 ⟨c, rfl, hL2, hc, c1, c2, S2, M2, W2⟩
  -- what is handed in
  refine ⟨fun σ' H' => ∃ a : Addr, σ' = [sc, some (.ref st), r2, some (.ref m), some (.ref p), r5, some (.ref L), some (.ref c), some (.str (lettersL ks ab ws)), some (.ref a), r10] ∧ (H' a = some (.lst (ws.map V.str)) ∨ H' a = some (.tup (ws.map V.str))) ∧ H' L = some (.lst (ws.map V.str)) ∧ H' c = some (.lst (ws.map V.str)) ∧ Strm H' st cl (n1 + 1) ∧ LMs H' st cl m ab ks ∧ ParW CP H' p ab ks, ?_, ?_⟩
  · refine ⟨_, rfl, st, cl, n1, _, rfl, S2, by decide, by decide, by omega, fun j H3 j0 j1 S3 k3 => ?_⟩
    have hL3 := k3 _ _ hL2 l1 l2
    have hc3 := k3 _ _ hc c1 c2
    have M3 := M2.kp S2 k3
    have W3 := W2.kp S2 k3
    refine ⟨rfl, _, rfl, ?_⟩
    refine ite2 (fun _ => ?_) (fun _ => ?_)
    · exact ⟨_, rfl, L, rfl, .inl hL3, hL3, hc3, S3, M3, W3⟩
    · refine ⟨_, rfl, L, _, rfl, .inl ⟨SqL.of hL3, fun t ht => ?_⟩⟩
      have e := same_upd (o := .tup (ws.map V.str)) ht
      exact ⟨t, rfl, .inr upd_same, e _ _ hL3, e _ _ hc3, S3.keep e, M3.keep S3 e, W3.keep e⟩
  rintro _ H3 ⟨a, rfl, ha, hL3, hc3, S3, M3, W3⟩
  -- what is told, twice
  refine ⟨fun σ' H' => ∃ b : Addr, σ' = [sc, some (.ref st), r2, some (.ref m), some (.ref p), r5, some (.ref L), some (.ref c), some (.str (lettersL ks ab ws)), some (.ref a), some (.ref b)] ∧ Same H3 H' ∧ H' b = some (.lst [.str (lettersL ks ab ws), .str (lettersL ks ab ws)]), ?_, ?_⟩
  · refine ⟨_, rfl, _, rfl, p, a, ab, ks, ws, rfl, W3, ha, okw, fun H4 e4 => ?_⟩
    refine ⟨_, rfl, _, rfl, p, a, ab, ks, ws, rfl, W3.keep e4, ?_, okw, fun H5 e5 => ?_⟩
    · rcases ha with h | h
      · exact .inl (e4 _ _ h)
      · exact .inr (e4 _ _ h)
    exact ⟨(by show 2 ≤ sizeLine; decide), fun b hb => ⟨b, rfl, (e4.trans e5).trans (same_upd hb), upd_same⟩⟩
  rintro _ H4 ⟨b, rfl, e4, hb⟩
  refine ⟨_, rfl, _, rfl, _, rfl, (by show 2 ≤ sizeLine; decide), fun q hq => ?_⟩
  have eq := same_upd (o := .lst [.str (lettersL ks ab ws), .str (lettersL ks ab ws)]) hq
  refine ⟨_, _, .list [.str (lettersL ks ab ws), .str (lettersL ks ab ws)], rfl, .lst (eq _ _ hb) (.cons (.str _) (.cons (.str _) .nil)), .lst upd_same (.cons (.str _) (.cons (.str _) .nil)), (by show 1 ≤ 2; decide), rfl, fun H5 e5 => ⟨_, rfl, iteF ?_⟩⟩
  have e := (e4.trans eq).trans e5
  have sh := shaped_strs fun x hx => (wok x hx).2
  refine ⟨_, rfl, _, rfl, .list (ws.map PyData.str), .list (ws.map PyData.str), .lst (SqL.of (e _ _ hL3)) (dpAll_strs _), .lst (SqL.of (e _ _ hc3)) (dpAll_strs _), sh, sh, _, rfl, ?_⟩
  rw [eqv_strs fun x hx => (wok x hx).2]
  exact iteF (k _ _ _ _ _ H5 _ (S3.keep e) (by omega) (M3.keep S3 e) (W3.keep e))
end
end K01

namespace K01
open PySem L2 PyProof.Rows
/-! ### the law -/
/-- the functions that the law calls -/
structure Fns (P : Program) (w : World) (K : PySem.W.Frag) (mg : Str → Option Value) (base : Heap) (CP CS : Addr) : Prop where
  T : TxtB mg
  St : ∃ f fd, At P w K mg base "_law_start" 1 ["_law_script"] (spStart K) f fd
  Dr : ∃ f fd, At P w K mg base "_law_draw" 1 ["_law_stream", "_law_many"] spDraw f fd
  Dn : ∃ f fd, At P w K mg base "_law_r_drawn" 4 ["_law_stream", "_law_most", "_law_room"] spDrawn f fd
  Md : ∃ f fd, At P w K mg base "_law_r_made" 9 ["_law_m"] (spMadeP CP CS) f fd
  Li : ∃ f fd, At P w K mg base "_law_r_line" 4 ["_law_stream", "_law_m", "_law_most"] spLine f fd
  Rl : ∃ f fd, At P w K mg base "_law_r_letters" 4 ["_law_m", "_law_words"] spRLetters f fd
  Le : ∃ f fd, At P w K mg base "letters" 5 ["parser", "words"] (spLetters CP) f fd
  Sa : ∃ f fd, At P w K mg base "_law_same" 4 ["_law_found", "_law_due"] (spSame 3) f fd
def spLaw (K : PySem.W.Frag) : Sp := fun vs H Q _ => ∃ (a : Addr) (ns : List Int), vs = [.ref a] ∧ SqL K H a (ns.map V.int) ∧ ∀ H', Q (.bl true) H'
section
variable {P : Program} {w : World} {K : PySem.W.Frag} {mg : Str → Option Value} {base : Heap}
theorem turn_walk {f CP CS : Addr} (Z : Fns P w K mg base CP CS) {cdv : Value} {A0 : Around} {outer : List Env} {s : Shared} {H0 : Hp} {E : XK} (hr : Room 9 (A0.deeper (PyProof.Rows.envOfC "law" (defScope sLaw) s.heap.objs.size f cdv))) :
    ∃ t : TS, PSs (X0 P w K mg base f cdv A0 outer s H0 E) bTurn t ∧ ∀ (D : Ends) (H : Hp) (sc r2 r3 r4 r5 r6 r7 r8 r9 r10 : Option V) (st cl : Addr) (n : Nat), Strm H st cl n → n ≤ 50000 →
      (∀ (r3 r4 r5 r6 r7 r8 r9 r10 : Option V) (H' : Hp) (n' : Nat), Strm H' st cl n' → n' ≤ n + 300 → D.nx [sc, some (.ref st), r2, r3, r4, r5, r6, r7, r8, r9, r10] H') →
      t D [sc, some (.ref st), r2, r3, r4, r5, r6, r7, r8, r9, r10] H := by
  obtain ⟨_, _, Dr⟩ := Z.Dr
  obtain ⟨_, _, Dn⟩ := Z.Dn
  obtain ⟨_, _, Md⟩ := Z.Md
  obtain ⟨_, _, Li⟩ := Z.Li
  obtain ⟨_, _, Rl⟩ := Z.Rl
  obtain ⟨_, _, Le⟩ := Z.Le
  obtain ⟨_, _, Sa⟩ := Z.Sa
  have r4' := hr.mono (show 4 ≤ 9 by decide)
  obtain ⟨tb, hb, rb⟩ := line_walk (base := base) (outer := outer) (H0 := H0) (E := E) Z.T Dr Li Rl Le Sa hr
  refine ⟨_, pss_mid (ps_set (i := 3) scLaw.nd rfl (Or.inl rfl) (pe_call Dn.ok r4' rfl Dn.m Dn.k Dn.b .nil pass0 (pa_cons (pv 1) (pa_cons pe_int (pa_cons pe_int pa_nil)))))
    (pss_mid (ps_set (i := 4) scLaw.nd rfl (Or.inl rfl) (pe_call Md.ok hr rfl Md.m Md.k Md.b .nil pass0 (pa_cons (pv 3) pa_nil)))
    (pss_one (ps_for PassesOwn.never rfl (pi_range1 rfl Z.T.range (pa_cons pe_int pa_nil)) (pg_name (i := 5) scLaw.nd rfl (Or.inl rfl)) hb))), ?_⟩
  intro D H sc r2 r3 r4 r5 r6 r7 r8 r9 r10 st cl n S hn k
  refine ⟨fun σ' H' => ∃ (m fi lo lp : Addr) (ab : Bool) (xs ws : List V) (os : List Opt) (ps : List (Str × V)) (n1 : Nat), σ' = [sc, some (.ref st), r2, some (.ref m), r4, r5, r6, r7, r8, r9, r10] ∧ Strm H' st cl n1 ∧ n1 ≤ n + 40 ∧ ModelAt H' m fi lo lp ab xs ws os ps ∧ lo ≠ st ∧ lo ≠ cl ∧ (∀ x ∈ flsOf os, x ∈ flagsAll), ?_, ?_⟩
  · exact ⟨_, rfl, st, cl, n, rfl, S, by omega, fun m fi lo lp ab xs ws os ps H' n1 S1 hn1 M n1 n2 fa => ⟨m, fi, lo, lp, ab, xs, ws, os, ps, _, rfl, S1, hn1, M, n1, n2, fa⟩⟩
  rintro _ H1 ⟨m, fi, lo, lp, ab, xs, ws, os, ps, n1, rfl, S1, hn1, M, q1, q2, fa⟩
  refine ⟨fun σ' H' => ∃ p : Addr, σ' = [sc, some (.ref st), r2, some (.ref m), some (.ref p), r5, r6, r7, r8, r9, r10] ∧ Strm H' st cl n1 ∧ LMs H' st cl m ab (flsOf os) ∧ ParW CP H' p ab (flsOf os), ?_, ?_⟩
  · refine ⟨_, rfl, m, fi, lo, lp, ab, xs, ws, os, ps, rfl, M, fun a H' kvs as ns ms e par ek eab => ⟨a.p, rfl, S1.keep e, ?_, ?_⟩⟩
    · exact ⟨⟨fi, lo, lp, xs, os, e _ _ M.m_, e _ _ M.lo_, q1, q2, M.ot.keep fun b u _ h => e b u h, rfl⟩, M.sz, fa⟩
    · subst eab
      exact ⟨⟨a.dx, _, a.lf, kvs, a.fi, par.px, rfl, rfl, rfl, rfl, rfl, par.hlf, ek⟩, Nat.le_trans M.sz (by decide), fun x hx => ⟨Nat.le_trans (flags_facts x (fa x hx)).2.2.1 (by decide), (flags_facts x (fa x hx)).1⟩⟩
  rintro _ H2 ⟨p, rfl, S2, L2, W2⟩
  refine ⟨4, rfl, by decide, by decide, ?_⟩
  refine for_range (lo := 0) (n := 4) (fun i σ' H' => ∃ (r5 r6 r7 r8 r9 r10 : Option V) (n' : Nat), σ' = [sc, some (.ref st), r2, some (.ref m), some (.ref p), r5, r6, r7, r8, r9, r10] ∧ Strm H' st cl n' ∧ n' ≤ n1 + 60 * i ∧ LMs H' st cl m ab (flsOf os) ∧ ParW CP H' p ab (flsOf os)) ⟨r5, r6, r7, r8, r9, r10, n1, rfl, S2, Nat.le_refl _, L2, W2⟩ ?_ ?_
  · rintro i σ' H' hi ⟨r5, r6, r7, r8, r9, r10, n', rfl, S', hn', L', W'⟩
    exact rb _ H' sc r2 _ r6 r7 r8 r9 r10 st cl m p ab _ n' S' (by omega) L' W' fun r6 r7 r8 r9 r10 H'' n2 S'' hn2 L'' W'' => ⟨_, r6, r7, r8, r9, r10, n2, rfl, S'', by omega, L'', W''⟩
  · rintro σ' H' ⟨r5, r6, r7, r8, r9, r10, n', rfl, S', hn', _, _⟩
    exact k _ _ r5 r6 r7 r8 r9 r10 H' n' S' (by omega)
theorem ok_law {f CP CS : Addr} {fd : FuncData} (F : Fun K "law" "law" sLaw f fd) (Z : Fns P w K mg base CP CS) : FnOk P w K mg base CX0 10 f fd ["_law_script"] (spLaw K) := by
  refine F.ok scLaw (fun vs H Q E h => ?_) (fun cdv A0 outer s H vs Q E hr h => ?_)
  · obtain ⟨a, ns, rfl, _⟩ := h
    rfl
  · obtain ⟨a, ns, rfl, hS, k⟩ := h
    have r1 := hr.mono (show 1 ≤ 9 by decide)
    obtain ⟨_, _, S⟩ := Z.St
    obtain ⟨tb, hb, rb⟩ := turn_walk (outer := outer) (H0 := H) (E := E) Z hr
    refine ⟨_, pss_mid (ps_set (i := 1) scLaw.nd rfl (Or.inl rfl) (pe_call S.ok r1 rfl S.m S.k S.b .nil pass0 (pa_cons (pv 0) pa_nil)))
      (pss_mid (ps_for PassesOwn.never rfl (pi_range1 rfl Z.T.range (pa_cons pe_int pa_nil)) (pg_name (i := 2) scLaw.nd rfl (Or.inl rfl)) hb)
      (pss_one (ps_ret pe_bl))), ?_⟩
    refine ⟨fun σ' H' => ∃ st cl : Addr, σ' = [some (.ref a), some (.ref st), none, none, none, none, none, none, none, none, none] ∧ Strm H' st cl 0, ?_, ?_⟩
    · exact ⟨_, rfl, a, ns, rfl, hS, fun st cl H' n1 n2 e S' => ⟨st, cl, rfl, S'⟩⟩
    rintro _ H1 ⟨st, cl, rfl, S1⟩
    refine ⟨fun σ' H' => True, ?_, fun _ _ _ => k _⟩
    refine ⟨5, rfl, by decide, by decide, ?_⟩
    refine for_range (lo := 0) (n := 5) (fun i σ' H' => ∃ (r2 r3 r4 r5 r6 r7 r8 r9 r10 : Option V) (n : Nat), σ' = [some (.ref a), some (.ref st), r2, r3, r4, r5, r6, r7, r8, r9, r10] ∧ Strm H' st cl n ∧ n ≤ 300 * i) ⟨none, none, none, none, none, none, none, none, none, 0, rfl, S1, Nat.zero_le _⟩ ?_ (fun _ _ _ => trivial)
    rintro i σ' H' hi ⟨r2, r3, r4, r5, r6, r7, r8, r9, r10, n, rfl, S', hn⟩
    exact rb _ H' _ _ r3 r4 r5 r6 r7 r8 r9 r10 st cl n S' (by omega) fun r3 r4 r5 r6 r7 r8 r9 r10 H2 n' S2 hn2 => ⟨_, r3, r4, r5, r6, r7, r8, r9, r10, n', rfl, S2, by omega⟩
end
end K01

namespace K01
open PySem PySem.Spec PyProof.Rows L2
/-! ### the head: facts by names, the run -/
/-- the keyword default x of the def at f, if it is an object -/
def kwAt (f : Str × Option Str) (x : Str) (K : PySem.W.Frag) : Addr := match K.lookup (He.fAd K f) with
  | some ⟨_, _, .func fd, _⟩ => (match fd.kwdefaults with
    | .ref D => (match PySem.W.nsIn K D x with
      | some (some (.ref a)) => a
      | _ => 0)
    | _ => 0)
  | _ => 0
def nilB (K : PySem.W.Frag) (a : Addr) : Bool := match K.lookup a with
  | some ⟨.type c, _, .seq its _, _⟩ => decide (c = "tuple") && its.isEmpty
  | _ => false
theorem nilB_ok {K : PySem.W.Frag} {a : Addr} (h : nilB K a = true) : (∀ H : Hp, SqT K H a []) ∧ ∀ H : Hp, TyX K H (.ref a) (.type "tuple") := by
  unfold nilB at h
  cases q : K.lookup a with
  | none =>
    rw [q] at h
    cases h
  | some o =>
    obtain ⟨oc, od, dt, osl⟩ := o
    rw [q] at h
    cases oc with
    | type c =>
      cases dt with
      | seq its n =>
        obtain ⟨h1, h2⟩ := Bool.and_eq_true_iff.mp (show (decide (c = "tuple") && its.isEmpty) = true from h)
        have e1 : c = "tuple" := of_decide_eq_true h1
        have e2 : its = #[] := Array.isEmpty_iff.mp h2
        subst e1 e2
        exact ⟨fun H => .inr ⟨_, #[], n, q, rfl, rfl, Nat.zero_le _, .nil⟩, fun H => .kTuple q rfl⟩
      | _ => cases h
    | _ => cases dt <;> cases h
def d_cop : He.DefD := ⟨("copied", none), "copied", "copied", defArgs sCop, defBody sCop, defScope sCop, [], []⟩
def d_isr : He.DefD := ⟨("is_row", none), "is_row", "is_row", defArgs sIsRow, defBody sIsRow, defScope sIsRow, [], []⟩
def d_isi : He.DefD := ⟨("is_integer", none), "is_integer", "is_integer", defArgs sIsInt, defBody sIsInt, defScope sIsInt, [], []⟩
def d_isk : He.DefD := ⟨("is_kind", none), "is_kind", "is_kind", defArgs sIsKind, defBody sIsKind, defScope sIsKind, [], []⟩
def d_mb : He.DefD := ⟨("meant_by", none), "meant_by", "meant_by", defArgs sMeantBy, defBody sMeantBy, defScope sMeantBy, [], []⟩
def d_key : He.DefD := ⟨("keys_of", none), "keys_of", "keys_of", defArgs sKeys, defBody sKeys, defScope sKeys, [], []⟩
def d_isf : He.DefD := ⟨("is_flag", none), "is_flag", "is_flag", defArgs sIsFlag, defBody sIsFlag, defScope sIsFlag, [], []⟩
def d_gap : He.DefD := ⟨("has_gap", none), "has_gap", "has_gap", defArgs sHasGap, defBody sHasGap, defScope sHasGap, [], []⟩
def d_chk : He.DefD := ⟨("checked_flags", none), "checked_flags", "checked_flags", defArgs sChkFlags, defBody sChkFlags, defScope sChkFlags, [], []⟩
def d_nam : He.DefD := ⟨("named", none), "named", "named", defArgs sNamed, defBody sNamed, defScope sNamed, [], []⟩
def d_fit : He.DefD := ⟨("fits_metavar", none), "fits_metavar", "fits_metavar", defArgs sFits, defBody sFits, defScope sFits, [], []⟩
def d_cw : He.DefD := ⟨("check_words", none), "check_words", "check_words", defArgs sChkWords, defBody sChkWords, defScope sChkWords, [], []⟩
def d_co : He.DefD := ⟨("check_options", none), "check_options", "check_options", defArgs sChkOpts, defBody sChkOpts, defScope sChkOpts, [], []⟩
def d_dfl : He.DefD := ⟨("default_of", none), "default_of", "default_of", defArgs sDflt, defBody sDflt, defScope sDflt, [], []⟩
def d_mad : He.DefD := ⟨("made_argument", none), "made_argument", "made_argument", defArgs sMadeArg, defBody sMadeArg, defScope sMadeArg, [], []⟩
def d_sig : He.DefD := ⟨("is_signs", none), "is_signs", "is_signs", defArgs sIsSigns, defBody sIsSigns, defScope sIsSigns, [], []⟩
def d_mod : He.DefD := ⟨("_law_r_model", none), "_law_r_model", "_law_r_model", defArgs sModel, defBody sModel, defScope sModel, [], []⟩
def d_rfl_ : He.DefD := ⟨("_law_r_flags", none), "_law_r_flags", "_law_r_flags", defArgs sRFlags, defBody sRFlags, defScope sRFlags, [], []⟩
def d_rme : He.DefD := ⟨("_law_r_meant", none), "_law_r_meant", "_law_r_meant", defArgs sRMeant, defBody sRMeant, defScope sRMeant, [], []⟩
def d_rki : He.DefD := ⟨("_law_r_kind", none), "_law_r_kind", "_law_r_kind", defArgs sRKind, defBody sRKind, defScope sRKind, [], []⟩
def d_are : He.DefD := ⟨("are_digits", none), "are_digits", "are_digits", defArgs sAreD, defBody sAreD, defScope sAreD, [], []⟩
def d_num : He.DefD := ⟨("is_number", none), "is_number", "is_number", defArgs sIsNum, defBody sIsNum, defScope sIsNum, [], []⟩
def d_exp : He.DefD := ⟨("expanded", none), "expanded", "expanded", defArgs sExpanded, defBody sExpanded, defScope sExpanded, [], []⟩
def d_lef : He.DefD := ⟨("letter_of", none), "letter_of", "letter_of", defArgs sLetOf, defBody sLetOf, defScope sLetOf, [], []⟩
def d_les : He.DefD := ⟨("letters_of", none), "letters_of", "letters_of", defArgs sLetsOf, defBody sLetsOf, defScope sLetsOf, [], []⟩
def d_let : He.DefD := ⟨("letters", none), "letters", "letters", defArgs sLetters, defBody sLetters, defScope sLetters, [], []⟩
def d_wbf : He.DefD := ⟨("words_behind_files", none), "words_behind_files", "words_behind_files", defArgs sWbf, defBody sWbf, defScope sWbf, [], []⟩
def d_rop : He.DefD := ⟨("_law_r_option", none), "_law_r_option", "_law_r_option", defArgs sROption, defBody sROption, defScope sROption, [], []⟩
def d_rnu : He.DefD := ⟨("_law_r_is_number", none), "_law_r_is_number", "_law_r_is_number", defArgs sRIsNum, defBody sRIsNum, defScope sRIsNum, [], []⟩
def d_rle : He.DefD := ⟨("_law_r_letter", none), "_law_r_letter", "_law_r_letter", defArgs sRLetter, defBody sRLetter, defScope sRLetter, [], []⟩
def d_rls : He.DefD := ⟨("_law_r_letters", none), "_law_r_letters", "_law_r_letters", defArgs sRLetters, defBody sRLetters, defScope sRLetters, [], []⟩
def d_rdr : He.DefD := ⟨("_law_r_drawn", none), "_law_r_drawn", "_law_r_drawn", defArgs sRDrawn, defBody sRDrawn, defScope sRDrawn, [], []⟩
def d_rso : He.DefD := ⟨("_law_r_some_word", none), "_law_r_some_word", "_law_r_some_word", defArgs sRSome, defBody sRSome, defScope sRSome, [], []⟩
def d_rli : He.DefD := ⟨("_law_r_line", none), "_law_r_line", "_law_r_line", defArgs sRLine, defBody sRLine, defScope sRLine, [], []⟩
def d_rma : He.DefD := ⟨("_law_r_made", none), "_law_r_made", "_law_r_made", defArgs sRMade, defBody sRMade, defScope sRMade, [], []⟩
def d_pto : He.DefD := ⟨("_law_r_put_options", none), "_law_r_put_options", "_law_r_put_options", defArgs sPutO, defBody sPutO, defScope sPutO, [], []⟩
def d_put : He.DefD := ⟨("_law_r_put", none), "_law_r_put", "_law_r_put", defArgs sPut, defBody sPut, defScope sPut, [], []⟩
def d_drw : He.DefD := ⟨("_law_draw", none), "_law_draw", "_law_draw", defArgs sDraw, defBody sDraw, defScope sDraw, [], []⟩
def d_sta : He.DefD := ⟨("_law_start", none), "_law_start", "_law_start", defArgs sStart, defBody sStart, defScope sStart, [], []⟩
def d_pck : He.DefD := ⟨("_law_pick", none), "_law_pick", "_law_pick", defArgs sPick, defBody sPick, defScope sPick, [], []⟩
def d_mix : He.DefD := ⟨("_law_mixed", none), "_law_mixed", "_law_mixed", defArgs sMixed, defBody sMixed, defScope sMixed, [], []⟩
def d_sam : He.DefD := ⟨("_law_same", none), "_law_same", "_law_same", defArgs sSame, defBody sSame, defScope sSame, [], []⟩
def d_law : He.DefD := ⟨("law", none), "law", "law", defArgs sLaw, defBody sLaw, defScope sLaw, [], []⟩
def d_argI : He.DefD := ⟨("Argument", some "__init__"), "__init__", "Argument.__init__", defArgs sArgI, defBody sArgI, defScope sArgI, [], []⟩
def d_secI : He.DefD := ⟨("Section", some "__init__"), "__init__", "Section.__init__", defArgs sSecI, defBody sSecI, defScope sSecI, [], []⟩
def d_adt : He.DefD := ⟨("Parser", some "add_to"), "add_to", "Parser.add_to", defArgs sAddTo, defBody sAddTo, defScope sAddTo, [], []⟩
def d_joi : He.DefD := ⟨("Parser", some "join"), "join", "Parser.join", defArgs sJoin, defBody sJoin, defScope sJoin, [], []⟩
def d_add : He.DefD := ⟨("Parser", some "add_argument"), "add_argument", "Parser.add_argument", defArgs sAdd, defBody sAdd, defScope sAdd, [.non], []⟩
def d_parI : He.DefD := ⟨("Parser", some "__init__"), "__init__", "Parser.__init__", defArgs sParI, defBody sParI, defScope sParI, [.str "program"], [("usage", .non), ("description", .non), ("epilog", .non), ("parents", .adr (kwAt ("Parser", some "__init__") "parents")), ("layout", .adr (kwAt ("Parser", some "__init__") "layout")), ("width", .int 78), ("prefix_chars", .str "-"), ("fromfile_prefix_chars", .str ""), ("files", .non), ("argument_default", .non), ("conflict_handler", .str "error"), ("add_help", .bl true), ("allow_abbrev", .bl true), ("exit_on_error", .bl true)]⟩
def fn : List He.DefD := [d_cop, d_isr, d_isi, d_isk, d_mb, d_key, d_isf, d_gap, d_chk, d_nam, d_fit, d_cw, d_co, d_dfl, d_mad, d_sig, d_mod, d_rfl_, d_rme, d_rki, d_are, d_num, d_exp, d_lef, d_les, d_let, d_wbf, d_rop, d_rnu, d_rle, d_rls, d_rdr, d_rso, d_rli, d_rma, d_pto, d_put, d_drw, d_sta, d_pck, d_mix, d_sam, d_law, d_argI, d_secI, d_adt, d_joi, d_add, d_parI]
def fa : List He.Fa := [.free "int", .free "list", .free "tuple", .free "len", .free "isinstance", .free "dict", .free "sorted", .free "all", .free "zip", .free "range", .free "bool", .free "str", .free "any", .free "enumerate", .glo "copied", .glo "is_row", .glo "is_integer", .glo "is_kind", .glo "meant_by", .glo "keys_of", .glo "is_flag", .glo "has_gap", .glo "checked_flags", .glo "named", .glo "fits_metavar", .glo "check_words", .glo "check_options", .glo "default_of", .glo "made_argument", .glo "is_signs", .glo "_law_r_model", .glo "_law_r_flags", .glo "_law_r_meant", .glo "_law_r_kind", .glo "are_digits", .glo "is_number", .glo "expanded", .glo "letter_of", .glo "letters_of", .glo "letters", .glo "words_behind_files", .glo "_law_r_option", .glo "_law_r_is_number", .glo "_law_r_letter", .glo "_law_r_letters", .glo "_law_r_drawn", .glo "_law_r_some_word", .glo "_law_r_line", .glo "_law_r_made", .glo "_law_r_put_options", .glo "_law_r_put", .glo "_law_draw", .glo "_law_start", .glo "_law_pick", .glo "_law_mixed", .glo "_law_same", .glo "law", .glo "Argument", .glo "Section", .glo "Parser", .glo "Trouble", .glo "WITH_WORDS", .glo "WITH_CONST", .glo "WITHOUT", .glo "WORD_COUNTS", .glo "LISTS", .glo "ALWAYS", .str "SUPPRESS" "==SUPPRESS==", .str "NO_SIGNS" "abcdefghijklmnopqrstuvwxyzABCDEFGHIJKLMNOPQRSTUVWXYZ0123456789 \n=", .cls "Parser", .mkr "Parser", .noat "Parser" "prog", .noat "Parser" "usage", .noat "Parser" "description", .noat "Parser" "epilog", .noat "Parser" "layout", .noat "Parser" "width", .noat "Parser" "prefix_chars", .noat "Parser" "file_signs", .noat "Parser" "files", .noat "Parser" "argument_default", .noat "Parser" "conflict_handler", .noat "Parser" "allow_abbrev", .noat "Parser" "exit_on_error", .noat "Parser" "arguments", .noat "Parser" "flags", .noat "Parser" "exclusives", .noat "Parser" "defaults", .noat "Parser" "commands_argument", .noat "Parser" "sections", .cls "Argument", .mkr "Argument", .noat "Argument" "flags", .noat "Argument" "dest", .noat "Argument" "action", .noat "Argument" "is_option", .noat "Argument" "nargs", .noat "Argument" "const", .noat "Argument" "default", .noat "Argument" "kind", .noat "Argument" "choices", .noat "Argument" "required", .noat "Argument" "help", .noat "Argument" "metavar", .noat "Argument" "version", .noat "Argument" "commands", .noat "Argument" "fellows", .cls "Section", .mkr "Section", .noat "Section" "home", .noat "Section" "title", .noat "Section" "description", .noat "Section" "members", .meth "Parser" "add_argument", .meth "Parser" "add_to", .meth "Parser" "join"]
def ex (K : PySem.W.Frag) : Bool := He.tupB K "WITH_WORDS" [.str "store", .str "append", .str "extend"] && He.tupB K "WITH_CONST" [.str "store_const", .str "append_const"] && He.tupB K "WITHOUT" [.str "store_true", .str "store_false", .str "count", .str "yes_no"] && He.tupB K "WORD_COUNTS" [.str "?", .str "*", .str "+", .str "..."] && He.tupB K "LISTS" [.str "append", .str "append_const", .str "extend"] && He.tupB K "ALWAYS" [.str "action", .str "dest", .str "help"] && (nilB K (kwAt ("Parser", some "__init__") "parents" K) && nilB K (kwAt ("Parser", some "__init__") "layout" K))
def loose0 : List PySem.Str := ["_wall", "OptError", "BadParser", "BadArgument", "Conflict", "CommandsTwice", "Exit", "ArgumentError", "SUPPRESS", "is_integer", "is_row", "is_value", "copied", "is_kind", "kind_name", "is_shown", "choices_of", "braced", "shown_names", "words_of", "with_words", "Trouble", "cannot_open", "lines_of", "expanded", "meant_by", "are_digits", "is_number", "letter_of", "letters_of"]
def loose1 : List PySem.Str := ["letters", "words_behind_files", "WITH_WORDS", "WITH_CONST", "WITHOUT", "WORD_COUNTS", "LISTS", "ALWAYS", "VERSION_HELP", "Argument", "keys_of", "is_flag", "has_gap", "checked_flags", "named", "with_fellows", "fits_metavar", "check_words", "check_options", "default_of", "made_argument", "filled_in", "START", "bare_part", "part_of", "marked_places", "parts_of", "taken", "usage_lines", "usage_text"]
def loose2 : List PySem.Str := ["format_usage", "format_usage_usage", "section_like", "section_with", "take_over", "Exclusive", "Section", "LAYOUTS", "LETTERS", "NO_SIGNS", "is_signs", "Parser", "_law_r_model", "_law_r_flags", "_law_r_option", "_law_r_meant", "_law_r_is_number", "_law_r_letter", "_law_r_letters", "_law_r_kind", "_law_r_drawn", "_law_r_some_word", "_law_r_line", "_law_r_put_options", "_law_r_put", "_law_r_made", "_law_draw", "_law_start", "_law_pick", "_law_mixed"]
def loose3 : List PySem.Str := ["_law_same"]
def loose : List PySem.Str := loose0 ++ loose1 ++ loose2 ++ loose3
abbrev R : PySem.W.OpenRow := PySem.W.OpenLaw.row PySem.Challenge.rw_optwright_k01_letters_told
/-- every object that the top leaves -/
def asN : List Addr := List.range 861
def obsA (g : Addr → Option Obj) : He.AlD × Bool := (He.obsD fa fn (He.frG g asN), ex (He.frG g asN))
def hk : PySem.W.Hook where
  α := He.AlD × Bool
  obs := fun s => obsA s.heap.get?
  val := fun _ => (He.valD fn, true)
  says := fun _ h => ∃ K : PySem.W.Frag, K.In h ∧ He.SaysD fa fn K ∧ ex K = true
  of := fun _ _ e => ⟨_, He.frG_in, congrArg (fun z : He.AlD × Bool => z.1) e, congrArg (fun z : He.AlD × Bool => z.2) e⟩
  keeps := fun _ _ _ ⟨K, hK, c⟩ k => ⟨K, PySem.W.Frag.In.keeps hK k, c⟩
def ob (s : PySem.W.SharedT) : He.AlD × Bool := obsA (HandSHeadRun.getT s)
theorem ob_eq (s : PySem.W.SharedT) : ob s = hk.obs s.abs := by
  have e : HandSHeadRun.getT s = s.abs.heap.get? := funext (HandSHeadRun.getT_eq s)
  show obsA (HandSHeadRun.getT s) = obsA s.abs.heap.get?
  rw [e]
theorem run (w : World) : HandSHeadRun.RunEq R (PySem.W.view R.prog [105]) hk ob 9000 loose w := by
  intro os
  kernel_rfl
end K01

/-! a def called with keywords, by the names alone -/
namespace XB
open PySem PySem.Spec PyProof.Rows L2 PySem.W
theorem looks_for {α β : Type} {M : Model} {h : Heap} {f : α → β → Sem (ForInStep β)} (R : List α → β → Prop) (hs : ∀ a l b, R (a :: l) b → ∃ b', Looks M h (f a b) (.yield b') ∧ R l b') : ∀ (l : List α) (b : β), R l b → ∃ b', Looks M h (forIn l b f) b' ∧ R [] b'
  | [], b, r => ⟨b, by rw [List.forIn_nil]; exact .of_pure rfl, r⟩
  | a :: l, b, r => by
    obtain ⟨b1, l1, r1⟩ := hs a l b r
    obtain ⟨b2, l2, r2⟩ := looks_for R hs l b1 r1
    refine ⟨b2, ?_, r2⟩
    rw [List.forIn_cons]
    exact l1.andThen l2
theorem looks_forThen {α β γ : Type} {M : Model} {h : Heap} {f : α → β → Sem (ForInStep β)} {k : β → Sem γ} {l : List α} {b : β} {r : γ} (R : List α → β → Prop) (hs : ∀ a l b, R (a :: l) b → ∃ b', Looks M h (f a b) (.yield b') ∧ R l b') (r0 : R l b) (hk : ∀ b', R [] b' → Looks M h (k b') r) : Looks M h (forIn l b f >>= k) r := by
  obtain ⟨b', l1, r1⟩ := looks_for R hs l b r0
  exact l1.andThen (hk b' r1)
/-- those that lack, behind -/
def addM (S : List (Str × Value)) (l : List (Str × Value)) : List (Str × Value) := l.foldl (fun s q => if (s.lookup q.1).isNone then s ++ [q] else s) S
def bindsOf (ns ko : List Str) (us its : List Value) (kw : List (Str × Value)) (mv : List Value) : List (Str × Value) :=
  (ns ++ ko).filterMap fun n => ((addM (addM (ns.zip us ++ kw) ((ns.drop (ns.length - its.length)).zip its)) (ko.zip mv)).lookup n).map fun v => (n, v)
theorem lookup_isSome (k : Str) : ∀ l : List (Str × Value), (l.lookup k).isSome = (l.map (·.1)).contains k
  | [] => rfl
  | (j, v) :: l => by
    have ih := lookup_isSome k l
    rw [List.lookup_cons, List.map_cons, List.contains_cons]
    cases e : (k == j) with
    | true => rfl
    | false => rw [Bool.false_or]; exact ih
theorem zip_fst : ∀ (a : List Str) (b : List Value), b.length ≤ a.length → (a.zip b).map (·.1) = a.take b.length
  | [], [], _ => rfl
  | [], _ :: _, h => absurd h (Nat.not_succ_le_zero _)
  | _ :: _, [], _ => rfl
  | x :: a, y :: b, h => by
    rw [List.zip_cons_cons, List.map_cons, zip_fst a b (Nat.le_of_succ_le_succ h)]
    rfl
theorem looks_bind {K : Frag} {M : Model} {h : Heap} {fd : FuncData} {T D : Addr} {o : Obj} {m : Nat} {ns ko ks : List Str} {us its ws mv : List Value} (X : K.In h) (h1 : fd.params.posonlyargs = []) (h2 : fd.params.vararg = none) (h3 : fd.params.kwarg = none) (h4 : fd.params.args.map (·.arg) = ns) (h5 : fd.params.kwonlyargs.map (·.arg) = ko)
    (hd : fd.defaults = .ref T) (lT : K.lookup T = some o) (oT : o.data = .seq its.toArray m) (hk : fd.kwdefaults = .ref D) (hks : ∀ q ∈ ko.zip mv, nsIn K D q.1 = some (some q.2)) (lm : mv.length = ko.length)
    (lu : us.length ≤ ns.length) (lw : ws.length = ks.length) (li : its.length ≤ ns.length) (hc : ∀ k ∈ ks, (ns.contains k || ko.contains k) = true) (nd : (ns.take us.length ++ ks).Nodup) (hm : ∀ x ∈ ns.take (ns.length - its.length), (ns.take us.length ++ ks).contains x = true) :
    Looks M h (bindArgs fd ⟨us, ks.zip ws⟩) (bindsOf ns ko us its (ks.zip ws) mv) := by
  unfold bindArgs
  simp only [h1, h2, h3, h4, h5, List.map_nil, List.nil_append]
  have kz := zip_fst ns us lu
  have kk : (ks.zip ws).map (·.1) = ks := by
    rw [zip_fst ks ws (by omega), lw, List.take_length]
  -- the keywords
  refine looks_forThen (fun (l : List (Str × Value)) (b : List (Str × Value) × List (Str × Value)) => ∃ pre, ks.zip ws = pre ++ l ∧ b = (ns.zip us ++ pre, [])) ?_ ⟨[], rfl, by rw [List.append_nil]⟩ ?_
  · rintro a l b ⟨pre, e1, rfl⟩
    refine ⟨(ns.zip us ++ (pre ++ [a]), []), ?_, pre ++ [a], by rw [e1]; simp, rfl⟩
    have ea : ks = pre.map (·.1) ++ a.1 :: l.map (·.1) := by rw [← kk, e1]; simp
    have hin : a.1 ∈ ks := by rw [ea]; simp
    have hno : ((ns.zip us ++ pre).lookup a.1).isSome = false := by
      rw [lookup_isSome, List.map_append, kz]
      have h6 := nd
      rw [ea, ← List.append_assoc] at h6
      have h7 := (List.nodup_append.mp h6).2.2
      cases q : (ns.take us.length ++ pre.map (·.1)).contains a.1 with
      | false => rfl
      | true => exact absurd rfl (h7 a.1 (by simpa using q) a.1 List.mem_cons_self)
    rw [if_pos (hc a.1 hin), if_neg (by rw [hno]; exact Bool.false_ne_true)]
    exact .of_pure (by rw [List.append_assoc])
  rintro _ ⟨pre, e1, rfl⟩
  rw [List.append_nil] at e1
  subst e1
  rw [hd]
  refine looks_items X lT oT ?_
  have hg : ¬ ((decide (us.length > ns.length) && (none : Option Arg).isNone) = true) := by
    rw [decide_eq_false (by omega)]
    exact Bool.false_ne_true
  rw [if_neg hg]
  have ed : List.drop (((some its.toArray).getD #[]).toList.length - ns.length) ((some its.toArray).getD #[]).toList = its := by
    have e0 : ((some its.toArray).getD #[]).toList = its := rfl
    rw [e0, show its.length - ns.length = 0 by omega, List.drop_zero]
  rw [ed]
  have hmiss : List.filter (fun n => (List.lookup n ((ns.zip us ++ ks.zip ws, ([] : List (Str × Value))).fst)).isNone) (List.take (ns.length - its.length) ns) = [] := by
    rw [List.filter_eq_nil_iff]
    intro x hx
    have h6 := hm x hx
    have h7 := lookup_isSome x (ns.zip us ++ ks.zip ws)
    rw [List.map_append, kz, kk, h6] at h7
    show ¬ (List.lookup x (ns.zip us ++ ks.zip ws)).isNone = true
    cases e : List.lookup x (ns.zip us ++ ks.zip ws) with
    | none =>
      rw [e] at h7
      cases h7
    | some v => exact Bool.false_ne_true
  rw [hmiss]
  rw [if_neg (by simp)]
  -- defaults
  refine looks_forThen (fun (l : List (Str × Value)) (b : List (Str × Value)) => ∃ pre, (ns.drop (ns.length - its.length)).zip its = pre ++ l ∧ b = addM (ns.zip us ++ ks.zip ws) pre) ?_ ⟨[], rfl, rfl⟩ ?_
  · rintro a l b ⟨pre, e1, rfl⟩
    refine ⟨addM (ns.zip us ++ ks.zip ws) (pre ++ [a]), ?_, pre ++ [a], by rw [e1]; simp, rfl⟩
    have ea : addM (ns.zip us ++ ks.zip ws) (pre ++ [a]) = if ((addM (ns.zip us ++ ks.zip ws) pre).lookup a.1).isNone then addM (ns.zip us ++ ks.zip ws) pre ++ [a] else addM (ns.zip us ++ ks.zip ws) pre := by
      unfold addM
      rw [List.foldl_append]
      rfl
    rw [ea]
    by_cases q : ((addM (ns.zip us ++ ks.zip ws) pre).lookup a.1).isNone = true
    · rw [if_pos q, if_pos q]
      exact .of_pure rfl
    · rw [if_neg q, if_neg q]
      exact .of_pure rfl
  rintro _ ⟨pre, e1, rfl⟩
  rw [List.append_nil] at e1
  subst e1
  generalize hS : addM (ns.zip us ++ ks.zip ws) ((ns.drop (ns.length - its.length)).zip its) = S2
  -- keyword-only ones
  refine looks_forThen (fun (l : List Str) (b : List (Str × Value) × List Str) => ∃ pre m1 m2, ko = pre ++ l ∧ mv = m1 ++ m2 ∧ m1.length = pre.length ∧ b = (addM S2 (pre.zip m1), [])) ?_ ⟨[], [], mv, rfl, rfl, rfl, rfl⟩ ?_
  · rintro a l b ⟨pre, m1, m2, e1, e2, e3, rfl⟩
    cases m2 with
    | nil =>
      rw [e1, e2] at lm
      simp at lm
      omega
    | cons v m2 =>
      have ez : ko.zip mv = pre.zip m1 ++ (a, v) :: l.zip m2 := by
        rw [e1, e2, List.zip_append e3.symm]
        rfl
      have hq := hks (a, v) (by rw [ez]; simp)
      have ea : addM S2 ((pre ++ [a]).zip (m1 ++ [v])) = if ((addM S2 (pre.zip m1)).lookup a).isNone then addM S2 (pre.zip m1) ++ [(a, v)] else addM S2 (pre.zip m1) := by
        rw [List.zip_append e3.symm]
        unfold addM
        rw [List.foldl_append]
        rfl
      refine ⟨(addM S2 ((pre ++ [a]).zip (m1 ++ [v])), []), ?_, pre ++ [a], m1 ++ [v], m2, by rw [e1]; simp, by rw [e2]; simp, by rw [List.length_append, List.length_append, e3]; rfl, rfl⟩
      rw [ea]
      by_cases q : ((addM S2 (pre.zip m1)).lookup a).isNone = true
      · rw [if_pos q, if_pos q, hk]
        exact (looks_nsIn X hq).andThen (.of_pure rfl)
      · rw [if_neg q, if_neg q]
        exact .of_pure rfl
  rintro _ ⟨pre, m1, m2, e1, e2, e3, rfl⟩
  rw [List.append_nil] at e1
  subst e1
  have em : m2 = [] := by
    rw [e2, List.length_append] at lm
    exact List.length_eq_zero_iff.mp (by omega)
  subst em
  rw [List.append_nil] at e2
  subst e2
  rw [if_neg (by simp)]
  refine .of_pure ?_
  unfold bindsOf
  rw [hS]
/-- the keywords of a call with all keyword-only defaults told: what it binds -/
theorem kbn {K : Frag} {x qual : Str} {params : Arguments} {body : List Stmt} {scope : Scope} {dvs : List V} {kws : List (Str × V)} {f : Addr} {fd : FuncData} (F : FunD K x qual params body scope dvs kws f fd) {ns ko ps : List Str} (n : Nat) (ks : List Str) (hd : dvs ≠ []) (hk : kws ≠ []) (h1 : params.posonlyargs = []) (h2 : params.vararg = none) (h3 : params.kwarg = none) (h4 : params.args.map (·.arg) = ns) (h5 : params.kwonlyargs.map (·.arg) = ko) (hko : kws.map (·.1) = ko)
    (ln : n ≤ ns.length) (ld : dvs.length ≤ ns.length) (hc : ∀ k ∈ ks, (ns.contains k || ko.contains k) = true) (nd : (ns.take n ++ ks).Nodup) (hm : ∀ x ∈ ns.take (ns.length - dvs.length), (ns.take n ++ ks).contains x = true)
    (g : {α : Type} → List α → List α → List α → List α → List α) (hrel : ∀ {vs ds mz zs : List V} {us its mv ws : List Value}, Vals vs us → Vals ds its → Vals mz mv → Vals zs ws → Vals (g vs ds mz zs) (g us its mv ws))
    (hb : ∀ us its mv ws : List Value, us.length = n → its.length = dvs.length → mv.length = kws.length → ws.length = ks.length → bindsOf ns ko us its (ks.zip ws) mv = ps.zip (g us its mv ws)) :
    ∃ its mv : List Value, KBn K fd ps n ks (fun us ws => g us its mv ws) (fun vs zs => g vs dvs (kws.map (·.2)) zs) := by
  obtain ⟨oc, od, dV, kV, doc, pm, an, cdv, ct, osl, rfl, lk, hcd, hD, hK⟩ := F.ex
  rcases hD with ⟨e, _⟩ | ⟨_, T, o, its, m, rfl, lT, oT, rT⟩
  · exact absurd e hd
  · rcases hK with e | ⟨D, rfl, hq⟩
    · exact absurd e hk
    · obtain ⟨mv, hl, rk, hks⟩ := kwd_vals hq
      have li := rT.length
      refine ⟨its, mv, ⟨fun s us ws X l1 l2 => ?_, fun r1 r2 => hrel r1 rT rk r2⟩⟩
      rw [← hb us its mv ws l1 li.symm hl l2]
      rw [hko] at hks
      refine BindsTo.of_looks fun M => looks_bind X h1 h2 h3 h4 h5 rfl lT oT rfl hks ?_ (by omega) l2 (by omega) hc (by rw [l1]; exact nd) (by rw [l1, ← li]; exact hm)
      rw [hl, ← hko, List.length_map]
end XB

namespace K01
open PySem PySem.Spec PyProof.Rows L2
theorem fun_ofD {K : PySem.W.Frag} {x qual : Str} {st : Stmt} {f : Addr} {fd : FuncData} {kws : List (Str × V)} (F : FunD K x qual (defArgs st) (defBody st) (defScope st) [] kws f fd) : Fun K x qual st f fd := by
  obtain ⟨oc, od, dV, kV, doc, pm, an, cdv, ct, osl, e, lk, cd, hD, _⟩ := F.ex
  rcases hD with ⟨_, rfl⟩ | ⟨q, _⟩
  · exact ⟨⟨oc, od, kV, doc, pm, an, cdv, ct, osl, e, lk, cd⟩, F.kp⟩
  · exact absurd rfl q
/-- the parameters of a parser in their order -/
def gPar {α : Type} (vs _ds mz zs : List α) : List α := vs ++ (mz.take 6 ++ ((zs.drop 2).take 1 ++ ((mz.drop 7).take 4 ++ (zs.take 1 ++ (zs.drop 3 ++ (zs.drop 1).take 1)))))
theorem facts {P : Program} {w : World} {K : PySem.W.Frag} {h : Heap} {mg : Str → Option Value} {f : Addr} (X : K.In h) (G : h.Ns mainGlobals mg) (hfa : mg ("law" : Str) = some (.ref f)) (c : He.SaysD fa fn K) (cx : ex K = true) :
    ∃ fd : FuncData, (∀ (s : Shared) (v : Value), BindsTo s fd ⟨[v], []⟩ [("_law_script", v)]) ∧ ∀ base : Heap, K.In base → base.Ns mainGlobals mg → FnOk P w K mg base CX0 10 f fd ["_law_script"] (spLaw K) := by
  have z_int : mg "int" = none := He.free_ok X G (c.fact 0 (f := .free "int") rfl)
  have z_list : mg "list" = none := He.free_ok X G (c.fact 1 (f := .free "list") rfl)
  have z_tuple : mg "tuple" = none := He.free_ok X G (c.fact 2 (f := .free "tuple") rfl)
  have z_len : mg "len" = none := He.free_ok X G (c.fact 3 (f := .free "len") rfl)
  have z_isinstance : mg "isinstance" = none := He.free_ok X G (c.fact 4 (f := .free "isinstance") rfl)
  have z_dict : mg "dict" = none := He.free_ok X G (c.fact 5 (f := .free "dict") rfl)
  have z_sorted : mg "sorted" = none := He.free_ok X G (c.fact 6 (f := .free "sorted") rfl)
  have z_all : mg "all" = none := He.free_ok X G (c.fact 7 (f := .free "all") rfl)
  have z_zip : mg "zip" = none := He.free_ok X G (c.fact 8 (f := .free "zip") rfl)
  have z_range : mg "range" = none := He.free_ok X G (c.fact 9 (f := .free "range") rfl)
  have z_bool : mg "bool" = none := He.free_ok X G (c.fact 10 (f := .free "bool") rfl)
  have z_str : mg "str" = none := He.free_ok X G (c.fact 11 (f := .free "str") rfl)
  have z_any : mg "any" = none := He.free_ok X G (c.fact 12 (f := .free "any") rfl)
  have z_enumerate : mg "enumerate" = none := He.free_ok X G (c.fact 13 (f := .free "enumerate") rfl)
  have B : TxtB mg := ⟨z_int, z_list, z_tuple, z_len, z_isinstance, z_dict, z_sorted, z_all, z_zip, z_range, z_bool⟩
  have m_cop : mg "copied" = some (.ref (He.ga K "copied")) := He.glo_ok X G (c.fact 14 (f := .glo "copied") rfl)
  obtain ⟨fd_cop, D_cop⟩ := c.def_ 0 (d := d_cop) rfl
  have F_cop : Fun K "copied" "copied" sCop (He.ga K "copied") fd_cop := fun_ofD D_cop
  have b_cop := F_cop.binds (ps := ["value"]) fun _ _ _ _ _ _ us hl => match us, hl with | [_], _ => rfl
  have m_isr : mg "is_row" = some (.ref (He.ga K "is_row")) := He.glo_ok X G (c.fact 15 (f := .glo "is_row") rfl)
  obtain ⟨fd_isr, D_isr⟩ := c.def_ 1 (d := d_isr) rfl
  have F_isr : Fun K "is_row" "is_row" sIsRow (He.ga K "is_row") fd_isr := fun_ofD D_isr
  have b_isr := F_isr.binds (ps := ["thing"]) fun _ _ _ _ _ _ us hl => match us, hl with | [_], _ => rfl
  have m_isi : mg "is_integer" = some (.ref (He.ga K "is_integer")) := He.glo_ok X G (c.fact 16 (f := .glo "is_integer") rfl)
  obtain ⟨fd_isi, D_isi⟩ := c.def_ 2 (d := d_isi) rfl
  have F_isi : Fun K "is_integer" "is_integer" sIsInt (He.ga K "is_integer") fd_isi := fun_ofD D_isi
  have b_isi := F_isi.binds (ps := ["thing"]) fun _ _ _ _ _ _ us hl => match us, hl with | [_], _ => rfl
  have m_isk : mg "is_kind" = some (.ref (He.ga K "is_kind")) := He.glo_ok X G (c.fact 17 (f := .glo "is_kind") rfl)
  obtain ⟨fd_isk, D_isk⟩ := c.def_ 3 (d := d_isk) rfl
  have F_isk : Fun K "is_kind" "is_kind" sIsKind (He.ga K "is_kind") fd_isk := fun_ofD D_isk
  have b_isk := F_isk.binds (ps := ["thing"]) fun _ _ _ _ _ _ us hl => match us, hl with | [_], _ => rfl
  have m_mb : mg "meant_by" = some (.ref (He.ga K "meant_by")) := He.glo_ok X G (c.fact 18 (f := .glo "meant_by") rfl)
  obtain ⟨fd_mb, D_mb⟩ := c.def_ 4 (d := d_mb) rfl
  have F_mb : Fun K "meant_by" "meant_by" sMeantBy (He.ga K "meant_by") fd_mb := fun_ofD D_mb
  have b_mb := F_mb.binds (ps := ["parser", "word"]) fun _ _ _ _ _ _ us hl => match us, hl with | [_, _], _ => rfl
  have m_key : mg "keys_of" = some (.ref (He.ga K "keys_of")) := He.glo_ok X G (c.fact 19 (f := .glo "keys_of") rfl)
  obtain ⟨fd_key, D_key⟩ := c.def_ 5 (d := d_key) rfl
  have F_key : Fun K "keys_of" "keys_of" sKeys (He.ga K "keys_of") fd_key := fun_ofD D_key
  have b_key := F_key.binds (ps := ["action"]) fun _ _ _ _ _ _ us hl => match us, hl with | [_], _ => rfl
  have m_isf : mg "is_flag" = some (.ref (He.ga K "is_flag")) := He.glo_ok X G (c.fact 20 (f := .glo "is_flag") rfl)
  obtain ⟨fd_isf, D_isf⟩ := c.def_ 6 (d := d_isf) rfl
  have F_isf : Fun K "is_flag" "is_flag" sIsFlag (He.ga K "is_flag") fd_isf := fun_ofD D_isf
  have b_isf := F_isf.binds (ps := ["text", "prefix_chars"]) fun _ _ _ _ _ _ us hl => match us, hl with | [_, _], _ => rfl
  have m_gap : mg "has_gap" = some (.ref (He.ga K "has_gap")) := He.glo_ok X G (c.fact 21 (f := .glo "has_gap") rfl)
  obtain ⟨fd_gap, D_gap⟩ := c.def_ 7 (d := d_gap) rfl
  have F_gap : Fun K "has_gap" "has_gap" sHasGap (He.ga K "has_gap") fd_gap := fun_ofD D_gap
  have b_gap := F_gap.binds (ps := ["text"]) fun _ _ _ _ _ _ us hl => match us, hl with | [_], _ => rfl
  have m_chk : mg "checked_flags" = some (.ref (He.ga K "checked_flags")) := He.glo_ok X G (c.fact 22 (f := .glo "checked_flags") rfl)
  obtain ⟨fd_chk, D_chk⟩ := c.def_ 8 (d := d_chk) rfl
  have F_chk : Fun K "checked_flags" "checked_flags" sChkFlags (He.ga K "checked_flags") fd_chk := fun_ofD D_chk
  have b_chk := F_chk.binds (ps := ["flags", "prefix_chars"]) fun _ _ _ _ _ _ us hl => match us, hl with | [_, _], _ => rfl
  have m_nam : mg "named" = some (.ref (He.ga K "named")) := He.glo_ok X G (c.fact 23 (f := .glo "named") rfl)
  obtain ⟨fd_nam, D_nam⟩ := c.def_ 9 (d := d_nam) rfl
  have F_nam : Fun K "named" "named" sNamed (He.ga K "named") fd_nam := fun_ofD D_nam
  have b_nam := F_nam.binds (ps := ["flags", "made", "options", "prefix_chars"]) fun _ _ _ _ _ _ us hl => match us, hl with | [_, _, _, _], _ => rfl
  have m_fit : mg "fits_metavar" = some (.ref (He.ga K "fits_metavar")) := He.glo_ok X G (c.fact 24 (f := .glo "fits_metavar") rfl)
  obtain ⟨fd_fit, D_fit⟩ := c.def_ 10 (d := d_fit) rfl
  have F_fit : Fun K "fits_metavar" "fits_metavar" sFits (He.ga K "fits_metavar") fd_fit := fun_ofD D_fit
  have b_fit := F_fit.binds (ps := ["metavar", "nargs"]) fun _ _ _ _ _ _ us hl => match us, hl with | [_, _], _ => rfl
  have m_cw : mg "check_words" = some (.ref (He.ga K "check_words")) := He.glo_ok X G (c.fact 25 (f := .glo "check_words") rfl)
  obtain ⟨fd_cw, D_cw⟩ := c.def_ 11 (d := d_cw) rfl
  have F_cw : Fun K "check_words" "check_words" sChkWords (He.ga K "check_words") fd_cw := fun_ofD D_cw
  have b_cw := F_cw.binds (ps := ["action", "options"]) fun _ _ _ _ _ _ us hl => match us, hl with | [_, _], _ => rfl
  have m_co : mg "check_options" = some (.ref (He.ga K "check_options")) := He.glo_ok X G (c.fact 26 (f := .glo "check_options") rfl)
  obtain ⟨fd_co, D_co⟩ := c.def_ 12 (d := d_co) rfl
  have F_co : Fun K "check_options" "check_options" sChkOpts (He.ga K "check_options") fd_co := fun_ofD D_co
  have b_co := F_co.binds (ps := ["action", "options", "is_positional"]) fun _ _ _ _ _ _ us hl => match us, hl with | [_, _, _], _ => rfl
  have m_dfl : mg "default_of" = some (.ref (He.ga K "default_of")) := He.glo_ok X G (c.fact 27 (f := .glo "default_of") rfl)
  obtain ⟨fd_dfl, D_dfl⟩ := c.def_ 13 (d := d_dfl) rfl
  have F_dfl : Fun K "default_of" "default_of" sDflt (He.ga K "default_of") fd_dfl := fun_ofD D_dfl
  have b_dfl := F_dfl.binds (ps := ["action", "dest", "options", "defaults", "argument_default"]) fun _ _ _ _ _ _ us hl => match us, hl with | [_, _, _, _, _], _ => rfl
  have m_mad : mg "made_argument" = some (.ref (He.ga K "made_argument")) := He.glo_ok X G (c.fact 28 (f := .glo "made_argument") rfl)
  obtain ⟨fd_mad, D_mad⟩ := c.def_ 14 (d := d_mad) rfl
  have F_mad : Fun K "made_argument" "made_argument" sMadeArg (He.ga K "made_argument") fd_mad := fun_ofD D_mad
  have b_mad := F_mad.binds (ps := ["flags", "given", "parser", "is_exclusive"]) fun _ _ _ _ _ _ us hl => match us, hl with | [_, _, _, _], _ => rfl
  have m_sig : mg "is_signs" = some (.ref (He.ga K "is_signs")) := He.glo_ok X G (c.fact 29 (f := .glo "is_signs") rfl)
  obtain ⟨fd_sig, D_sig⟩ := c.def_ 15 (d := d_sig) rfl
  have F_sig : Fun K "is_signs" "is_signs" sIsSigns (He.ga K "is_signs") fd_sig := fun_ofD D_sig
  have b_sig := F_sig.binds (ps := ["thing"]) fun _ _ _ _ _ _ us hl => match us, hl with | [_], _ => rfl
  have m_mod : mg "_law_r_model" = some (.ref (He.ga K "_law_r_model")) := He.glo_ok X G (c.fact 30 (f := .glo "_law_r_model") rfl)
  obtain ⟨fd_mod, D_mod⟩ := c.def_ 16 (d := d_mod) rfl
  have F_mod : Fun K "_law_r_model" "_law_r_model" sModel (He.ga K "_law_r_model") fd_mod := fun_ofD D_mod
  have b_mod := F_mod.binds (ps := ["_law_options", "_law_positionals"]) fun _ _ _ _ _ _ us hl => match us, hl with | [_, _], _ => rfl
  have m_rfl_ : mg "_law_r_flags" = some (.ref (He.ga K "_law_r_flags")) := He.glo_ok X G (c.fact 31 (f := .glo "_law_r_flags") rfl)
  obtain ⟨fd_rfl_, D_rfl_⟩ := c.def_ 17 (d := d_rfl_) rfl
  have F_rfl_ : Fun K "_law_r_flags" "_law_r_flags" sRFlags (He.ga K "_law_r_flags") fd_rfl_ := fun_ofD D_rfl_
  have b_rfl_ := F_rfl_.binds (ps := ["_law_m"]) fun _ _ _ _ _ _ us hl => match us, hl with | [_], _ => rfl
  have m_rme : mg "_law_r_meant" = some (.ref (He.ga K "_law_r_meant")) := He.glo_ok X G (c.fact 32 (f := .glo "_law_r_meant") rfl)
  obtain ⟨fd_rme, D_rme⟩ := c.def_ 18 (d := d_rme) rfl
  have F_rme : Fun K "_law_r_meant" "_law_r_meant" sRMeant (He.ga K "_law_r_meant") fd_rme := fun_ofD D_rme
  have b_rme := F_rme.binds (ps := ["_law_m", "_law_word"]) fun _ _ _ _ _ _ us hl => match us, hl with | [_, _], _ => rfl
  have m_rki : mg "_law_r_kind" = some (.ref (He.ga K "_law_r_kind")) := He.glo_ok X G (c.fact 33 (f := .glo "_law_r_kind") rfl)
  obtain ⟨fd_rki, D_rki⟩ := c.def_ 19 (d := d_rki) rfl
  have F_rki : Fun K "_law_r_kind" "_law_r_kind" sRKind (He.ga K "_law_r_kind") fd_rki := fun_ofD D_rki
  have b_rki := F_rki.binds (ps := ["_law_stream"]) fun _ _ _ _ _ _ us hl => match us, hl with | [_], _ => rfl
  have m_are : mg "are_digits" = some (.ref (He.ga K "are_digits")) := He.glo_ok X G (c.fact 34 (f := .glo "are_digits") rfl)
  obtain ⟨fd_are, D_are⟩ := c.def_ 20 (d := d_are) rfl
  have F_are : Fun K "are_digits" "are_digits" sAreD (He.ga K "are_digits") fd_are := fun_ofD D_are
  have b_are := F_are.binds (ps := ["text"]) fun _ _ _ _ _ _ us hl => match us, hl with | [_], _ => rfl
  have m_num : mg "is_number" = some (.ref (He.ga K "is_number")) := He.glo_ok X G (c.fact 35 (f := .glo "is_number") rfl)
  obtain ⟨fd_num, D_num⟩ := c.def_ 21 (d := d_num) rfl
  have F_num : Fun K "is_number" "is_number" sIsNum (He.ga K "is_number") fd_num := fun_ofD D_num
  have b_num := F_num.binds (ps := ["word"]) fun _ _ _ _ _ _ us hl => match us, hl with | [_], _ => rfl
  have m_exp : mg "expanded" = some (.ref (He.ga K "expanded")) := He.glo_ok X G (c.fact 36 (f := .glo "expanded") rfl)
  obtain ⟨fd_exp, D_exp⟩ := c.def_ 22 (d := d_exp) rfl
  have F_exp : Fun K "expanded" "expanded" sExpanded (He.ga K "expanded") fd_exp := fun_ofD D_exp
  have b_exp := F_exp.binds (ps := ["parser", "words"]) fun _ _ _ _ _ _ us hl => match us, hl with | [_, _], _ => rfl
  have m_lef : mg "letter_of" = some (.ref (He.ga K "letter_of")) := He.glo_ok X G (c.fact 37 (f := .glo "letter_of") rfl)
  obtain ⟨fd_lef, D_lef⟩ := c.def_ 23 (d := d_lef) rfl
  have F_lef : Fun K "letter_of" "letter_of" sLetOf (He.ga K "letter_of") fd_lef := fun_ofD D_lef
  have b_lef := F_lef.binds (ps := ["parser", "word"]) fun _ _ _ _ _ _ us hl => match us, hl with | [_, _], _ => rfl
  have m_les : mg "letters_of" = some (.ref (He.ga K "letters_of")) := He.glo_ok X G (c.fact 38 (f := .glo "letters_of") rfl)
  obtain ⟨fd_les, D_les⟩ := c.def_ 24 (d := d_les) rfl
  have F_les : Fun K "letters_of" "letters_of" sLetsOf (He.ga K "letters_of") fd_les := fun_ofD D_les
  have b_les := F_les.binds (ps := ["parser", "words"]) fun _ _ _ _ _ _ us hl => match us, hl with | [_, _], _ => rfl
  have m_let : mg "letters" = some (.ref (He.ga K "letters")) := He.glo_ok X G (c.fact 39 (f := .glo "letters") rfl)
  obtain ⟨fd_let, D_let⟩ := c.def_ 25 (d := d_let) rfl
  have F_let : Fun K "letters" "letters" sLetters (He.ga K "letters") fd_let := fun_ofD D_let
  have b_let := F_let.binds (ps := ["parser", "words"]) fun _ _ _ _ _ _ us hl => match us, hl with | [_, _], _ => rfl
  have m_wbf : mg "words_behind_files" = some (.ref (He.ga K "words_behind_files")) := He.glo_ok X G (c.fact 40 (f := .glo "words_behind_files") rfl)
  obtain ⟨fd_wbf, D_wbf⟩ := c.def_ 26 (d := d_wbf) rfl
  have F_wbf : Fun K "words_behind_files" "words_behind_files" sWbf (He.ga K "words_behind_files") fd_wbf := fun_ofD D_wbf
  have b_wbf := F_wbf.binds (ps := ["parser", "words"]) fun _ _ _ _ _ _ us hl => match us, hl with | [_, _], _ => rfl
  have m_rop : mg "_law_r_option" = some (.ref (He.ga K "_law_r_option")) := He.glo_ok X G (c.fact 41 (f := .glo "_law_r_option") rfl)
  obtain ⟨fd_rop, D_rop⟩ := c.def_ 27 (d := d_rop) rfl
  have F_rop : Fun K "_law_r_option" "_law_r_option" sROption (He.ga K "_law_r_option") fd_rop := fun_ofD D_rop
  have b_rop := F_rop.binds (ps := ["_law_m", "_law_flag"]) fun _ _ _ _ _ _ us hl => match us, hl with | [_, _], _ => rfl
  have m_rnu : mg "_law_r_is_number" = some (.ref (He.ga K "_law_r_is_number")) := He.glo_ok X G (c.fact 42 (f := .glo "_law_r_is_number") rfl)
  obtain ⟨fd_rnu, D_rnu⟩ := c.def_ 28 (d := d_rnu) rfl
  have F_rnu : Fun K "_law_r_is_number" "_law_r_is_number" sRIsNum (He.ga K "_law_r_is_number") fd_rnu := fun_ofD D_rnu
  have b_rnu := F_rnu.binds (ps := ["_law_word"]) fun _ _ _ _ _ _ us hl => match us, hl with | [_], _ => rfl
  have m_rle : mg "_law_r_letter" = some (.ref (He.ga K "_law_r_letter")) := He.glo_ok X G (c.fact 43 (f := .glo "_law_r_letter") rfl)
  obtain ⟨fd_rle, D_rle⟩ := c.def_ 29 (d := d_rle) rfl
  have F_rle : Fun K "_law_r_letter" "_law_r_letter" sRLetter (He.ga K "_law_r_letter") fd_rle := fun_ofD D_rle
  have b_rle := F_rle.binds (ps := ["_law_m", "_law_word"]) fun _ _ _ _ _ _ us hl => match us, hl with | [_, _], _ => rfl
  have m_rls : mg "_law_r_letters" = some (.ref (He.ga K "_law_r_letters")) := He.glo_ok X G (c.fact 44 (f := .glo "_law_r_letters") rfl)
  obtain ⟨fd_rls, D_rls⟩ := c.def_ 30 (d := d_rls) rfl
  have F_rls : Fun K "_law_r_letters" "_law_r_letters" sRLetters (He.ga K "_law_r_letters") fd_rls := fun_ofD D_rls
  have b_rls := F_rls.binds (ps := ["_law_m", "_law_words"]) fun _ _ _ _ _ _ us hl => match us, hl with | [_, _], _ => rfl
  have m_rdr : mg "_law_r_drawn" = some (.ref (He.ga K "_law_r_drawn")) := He.glo_ok X G (c.fact 45 (f := .glo "_law_r_drawn") rfl)
  obtain ⟨fd_rdr, D_rdr⟩ := c.def_ 31 (d := d_rdr) rfl
  have F_rdr : Fun K "_law_r_drawn" "_law_r_drawn" sRDrawn (He.ga K "_law_r_drawn") fd_rdr := fun_ofD D_rdr
  have b_rdr := F_rdr.binds (ps := ["_law_stream", "_law_most", "_law_room"]) fun _ _ _ _ _ _ us hl => match us, hl with | [_, _, _], _ => rfl
  have m_rso : mg "_law_r_some_word" = some (.ref (He.ga K "_law_r_some_word")) := He.glo_ok X G (c.fact 46 (f := .glo "_law_r_some_word") rfl)
  obtain ⟨fd_rso, D_rso⟩ := c.def_ 32 (d := d_rso) rfl
  have F_rso : Fun K "_law_r_some_word" "_law_r_some_word" sRSome (He.ga K "_law_r_some_word") fd_rso := fun_ofD D_rso
  have b_rso := F_rso.binds (ps := ["_law_stream", "_law_m"]) fun _ _ _ _ _ _ us hl => match us, hl with | [_, _], _ => rfl
  have m_rli : mg "_law_r_line" = some (.ref (He.ga K "_law_r_line")) := He.glo_ok X G (c.fact 47 (f := .glo "_law_r_line") rfl)
  obtain ⟨fd_rli, D_rli⟩ := c.def_ 33 (d := d_rli) rfl
  have F_rli : Fun K "_law_r_line" "_law_r_line" sRLine (He.ga K "_law_r_line") fd_rli := fun_ofD D_rli
  have b_rli := F_rli.binds (ps := ["_law_stream", "_law_m", "_law_most"]) fun _ _ _ _ _ _ us hl => match us, hl with | [_, _, _], _ => rfl
  have m_rma : mg "_law_r_made" = some (.ref (He.ga K "_law_r_made")) := He.glo_ok X G (c.fact 48 (f := .glo "_law_r_made") rfl)
  obtain ⟨fd_rma, D_rma⟩ := c.def_ 34 (d := d_rma) rfl
  have F_rma : Fun K "_law_r_made" "_law_r_made" sRMade (He.ga K "_law_r_made") fd_rma := fun_ofD D_rma
  have b_rma := F_rma.binds (ps := ["_law_m"]) fun _ _ _ _ _ _ us hl => match us, hl with | [_], _ => rfl
  have m_pto : mg "_law_r_put_options" = some (.ref (He.ga K "_law_r_put_options")) := He.glo_ok X G (c.fact 49 (f := .glo "_law_r_put_options") rfl)
  obtain ⟨fd_pto, D_pto⟩ := c.def_ 35 (d := d_pto) rfl
  have F_pto : Fun K "_law_r_put_options" "_law_r_put_options" sPutO (He.ga K "_law_r_put_options") fd_pto := fun_ofD D_pto
  have b_pto := F_pto.binds (ps := ["_law_parser", "_law_m"]) fun _ _ _ _ _ _ us hl => match us, hl with | [_, _], _ => rfl
  have m_put : mg "_law_r_put" = some (.ref (He.ga K "_law_r_put")) := He.glo_ok X G (c.fact 50 (f := .glo "_law_r_put") rfl)
  obtain ⟨fd_put, D_put⟩ := c.def_ 36 (d := d_put) rfl
  have F_put : Fun K "_law_r_put" "_law_r_put" sPut (He.ga K "_law_r_put") fd_put := fun_ofD D_put
  have b_put := F_put.binds (ps := ["_law_parser", "_law_m"]) fun _ _ _ _ _ _ us hl => match us, hl with | [_, _], _ => rfl
  have m_drw : mg "_law_draw" = some (.ref (He.ga K "_law_draw")) := He.glo_ok X G (c.fact 51 (f := .glo "_law_draw") rfl)
  obtain ⟨fd_drw, D_drw⟩ := c.def_ 37 (d := d_drw) rfl
  have F_drw : Fun K "_law_draw" "_law_draw" sDraw (He.ga K "_law_draw") fd_drw := fun_ofD D_drw
  have b_drw := F_drw.binds (ps := ["_law_stream", "_law_many"]) fun _ _ _ _ _ _ us hl => match us, hl with | [_, _], _ => rfl
  have m_sta : mg "_law_start" = some (.ref (He.ga K "_law_start")) := He.glo_ok X G (c.fact 52 (f := .glo "_law_start") rfl)
  obtain ⟨fd_sta, D_sta⟩ := c.def_ 38 (d := d_sta) rfl
  have F_sta : Fun K "_law_start" "_law_start" sStart (He.ga K "_law_start") fd_sta := fun_ofD D_sta
  have b_sta := F_sta.binds (ps := ["_law_script"]) fun _ _ _ _ _ _ us hl => match us, hl with | [_], _ => rfl
  have m_pck : mg "_law_pick" = some (.ref (He.ga K "_law_pick")) := He.glo_ok X G (c.fact 53 (f := .glo "_law_pick") rfl)
  obtain ⟨fd_pck, D_pck⟩ := c.def_ 39 (d := d_pck) rfl
  have F_pck : Fun K "_law_pick" "_law_pick" sPick (He.ga K "_law_pick") fd_pck := fun_ofD D_pck
  have b_pck := F_pck.binds (ps := ["_law_stream", "_law_some"]) fun _ _ _ _ _ _ us hl => match us, hl with | [_, _], _ => rfl
  have m_mix : mg "_law_mixed" = some (.ref (He.ga K "_law_mixed")) := He.glo_ok X G (c.fact 54 (f := .glo "_law_mixed") rfl)
  obtain ⟨fd_mix, D_mix⟩ := c.def_ 40 (d := d_mix) rfl
  have F_mix : Fun K "_law_mixed" "_law_mixed" sMixed (He.ga K "_law_mixed") fd_mix := fun_ofD D_mix
  have b_mix := F_mix.binds (ps := ["_law_stream", "_law_some"]) fun _ _ _ _ _ _ us hl => match us, hl with | [_, _], _ => rfl
  have m_sam : mg "_law_same" = some (.ref (He.ga K "_law_same")) := He.glo_ok X G (c.fact 55 (f := .glo "_law_same") rfl)
  obtain ⟨fd_sam, D_sam⟩ := c.def_ 41 (d := d_sam) rfl
  have F_sam : Fun K "_law_same" "_law_same" sSame (He.ga K "_law_same") fd_sam := fun_ofD D_sam
  have b_sam := F_sam.binds (ps := ["_law_found", "_law_due"]) fun _ _ _ _ _ _ us hl => match us, hl with | [_, _], _ => rfl
  have m_law : mg "law" = some (.ref (He.ga K "law")) := He.glo_ok X G (c.fact 56 (f := .glo "law") rfl)
  obtain ⟨fd_law, D_law⟩ := c.def_ 42 (d := d_law) rfl
  have F_law : Fun K "law" "law" sLaw (He.ga K "law") fd_law := fun_ofD D_law
  have b_law := F_law.binds (ps := ["_law_script"]) fun _ _ _ _ _ _ us hl => match us, hl with | [_], _ => rfl
  obtain ⟨fd_argI, D_argI⟩ := c.def_ 43 (d := d_argI) rfl
  have F_argI : Fun K "__init__" "Argument.__init__" sArgI (He.ma K (He.ga K "Argument") "__init__") fd_argI := fun_ofD D_argI
  have b_argI := F_argI.binds (ps := ["self", "flags", "dest", "action"]) fun _ _ _ _ _ _ us hl => match us, hl with | [_, _, _, _], _ => rfl
  obtain ⟨fd_secI, D_secI⟩ := c.def_ 44 (d := d_secI) rfl
  have F_secI : Fun K "__init__" "Section.__init__" sSecI (He.ma K (He.ga K "Section") "__init__") fd_secI := fun_ofD D_secI
  have b_secI := F_secI.binds (ps := ["self", "home", "title", "description"]) fun _ _ _ _ _ _ us hl => match us, hl with | [_, _, _, _], _ => rfl
  obtain ⟨fd_adt, D_adt⟩ := c.def_ 45 (d := d_adt) rfl
  have F_adt : Fun K "add_to" "Parser.add_to" sAddTo (He.ma K (He.ga K "Parser") "add_to") fd_adt := fun_ofD D_adt
  have b_adt := F_adt.binds (ps := ["self", "section", "exclusive", "flags", "options"]) fun _ _ _ _ _ _ us hl => match us, hl with | [_, _, _, _, _], _ => rfl
  obtain ⟨fd_joi, D_joi⟩ := c.def_ 46 (d := d_joi) rfl
  have F_joi : Fun K "join" "Parser.join" sJoin (He.ma K (He.ga K "Parser") "join") fd_joi := fun_ofD D_joi
  have b_joi := F_joi.binds (ps := ["self", "argument", "section", "exclusive"]) fun _ _ _ _ _ _ us hl => match us, hl with | [_, _, _, _], _ => rfl
  have m_Argument : mg "Argument" = some (.ref (He.ga K "Argument")) := He.glo_ok X G (c.fact 57 (f := .glo "Argument") rfl)
  have m_Section : mg "Section" = some (.ref (He.ga K "Section")) := He.glo_ok X G (c.fact 58 (f := .glo "Section") rfl)
  have m_Parser : mg "Parser" = some (.ref (He.ga K "Parser")) := He.glo_ok X G (c.fact 59 (f := .glo "Parser") rfl)
  have m_Trouble : mg "Trouble" = some (.ref (He.ga K "Trouble")) := He.glo_ok X G (c.fact 60 (f := .glo "Trouble") rfl)
  unfold ex at cx
  simp only [Bool.and_eq_true] at cx
  obtain ⟨⟨⟨⟨⟨⟨cW, cC⟩, cO⟩, cN⟩, cL⟩, cA⟩, cn1, cn2⟩ := cx
  have k_W : KT K mg "WITH_WORDS" (He.ga K "WITH_WORDS") wW := ⟨He.glo_ok X G (c.fact 61 (f := .glo "WITH_WORDS") rfl), fun H => He.tupB_ok cW H⟩
  have k_C : KT K mg "WITH_CONST" (He.ga K "WITH_CONST") wC := ⟨He.glo_ok X G (c.fact 62 (f := .glo "WITH_CONST") rfl), fun H => He.tupB_ok cC H⟩
  have k_O : KT K mg "WITHOUT" (He.ga K "WITHOUT") wO := ⟨He.glo_ok X G (c.fact 63 (f := .glo "WITHOUT") rfl), fun H => He.tupB_ok cO H⟩
  have k_N : KT K mg "WORD_COUNTS" (He.ga K "WORD_COUNTS") wN := ⟨He.glo_ok X G (c.fact 64 (f := .glo "WORD_COUNTS") rfl), fun H => He.tupB_ok cN H⟩
  have k_L : KT K mg "LISTS" (He.ga K "LISTS") wL := ⟨He.glo_ok X G (c.fact 65 (f := .glo "LISTS") rfl), fun H => He.tupB_ok cL H⟩
  have k_A : KT K mg "ALWAYS" (He.ga K "ALWAYS") wA := ⟨He.glo_ok X G (c.fact 66 (f := .glo "ALWAYS") rfl), fun H => He.tupB_ok cA H⟩
  have Z : TxtK K mg _ _ _ _ _ _ := ⟨k_W, k_C, k_O, k_N, k_L, k_A, He.str_ok X G (c.fact 67 (f := .str "SUPPRESS" "==SUPPRESS==") rfl), z_str, z_any, z_enumerate⟩
  obtain ⟨tn, m_NOS⟩ := He.str_ok X G (c.fact 68 (f := .str "NO_SIGNS" "abcdefghijklmnopqrstuvwxyzABCDEFGHIJKLMNOPQRSTUVWXYZ0123456789 \n=") rfl)
  have cP : ClsN K (He.ga K "Parser") parF := by
    refine ⟨He.cls_ok (c.fact 69 (f := .cls "Parser") rfl), fun f hf => ?_⟩
    simp only [parF, List.mem_cons, List.not_mem_nil, or_false] at hf
    rcases hf with rfl | rfl | rfl | rfl | rfl | rfl | rfl | rfl | rfl | rfl | rfl | rfl | rfl | rfl | rfl | rfl | rfl | rfl | rfl
    · exact He.noat_ok (c.fact 71 (f := .noat "Parser" "prog") rfl)
    · exact He.noat_ok (c.fact 72 (f := .noat "Parser" "usage") rfl)
    · exact He.noat_ok (c.fact 73 (f := .noat "Parser" "description") rfl)
    · exact He.noat_ok (c.fact 74 (f := .noat "Parser" "epilog") rfl)
    · exact He.noat_ok (c.fact 75 (f := .noat "Parser" "layout") rfl)
    · exact He.noat_ok (c.fact 76 (f := .noat "Parser" "width") rfl)
    · exact He.noat_ok (c.fact 77 (f := .noat "Parser" "prefix_chars") rfl)
    · exact He.noat_ok (c.fact 78 (f := .noat "Parser" "file_signs") rfl)
    · exact He.noat_ok (c.fact 79 (f := .noat "Parser" "files") rfl)
    · exact He.noat_ok (c.fact 80 (f := .noat "Parser" "argument_default") rfl)
    · exact He.noat_ok (c.fact 81 (f := .noat "Parser" "conflict_handler") rfl)
    · exact He.noat_ok (c.fact 82 (f := .noat "Parser" "allow_abbrev") rfl)
    · exact He.noat_ok (c.fact 83 (f := .noat "Parser" "exit_on_error") rfl)
    · exact He.noat_ok (c.fact 84 (f := .noat "Parser" "arguments") rfl)
    · exact He.noat_ok (c.fact 85 (f := .noat "Parser" "flags") rfl)
    · exact He.noat_ok (c.fact 86 (f := .noat "Parser" "exclusives") rfl)
    · exact He.noat_ok (c.fact 87 (f := .noat "Parser" "defaults") rfl)
    · exact He.noat_ok (c.fact 88 (f := .noat "Parser" "commands_argument") rfl)
    · exact He.noat_ok (c.fact 89 (f := .noat "Parser" "sections") rfl)
  have mk_Parser : Mk K (He.ga K "Parser") (He.ma K (He.ga K "Parser") "__init__") := He.mkr_ok (c.fact 70 (f := .mkr "Parser") rfl)
  have cA : ClsN K (He.ga K "Argument") argF := by
    refine ⟨He.cls_ok (c.fact 90 (f := .cls "Argument") rfl), fun f hf => ?_⟩
    simp only [argF, List.mem_cons, List.not_mem_nil, or_false] at hf
    rcases hf with rfl | rfl | rfl | rfl | rfl | rfl | rfl | rfl | rfl | rfl | rfl | rfl | rfl | rfl | rfl
    · exact He.noat_ok (c.fact 92 (f := .noat "Argument" "flags") rfl)
    · exact He.noat_ok (c.fact 93 (f := .noat "Argument" "dest") rfl)
    · exact He.noat_ok (c.fact 94 (f := .noat "Argument" "action") rfl)
    · exact He.noat_ok (c.fact 95 (f := .noat "Argument" "is_option") rfl)
    · exact He.noat_ok (c.fact 96 (f := .noat "Argument" "nargs") rfl)
    · exact He.noat_ok (c.fact 97 (f := .noat "Argument" "const") rfl)
    · exact He.noat_ok (c.fact 98 (f := .noat "Argument" "default") rfl)
    · exact He.noat_ok (c.fact 99 (f := .noat "Argument" "kind") rfl)
    · exact He.noat_ok (c.fact 100 (f := .noat "Argument" "choices") rfl)
    · exact He.noat_ok (c.fact 101 (f := .noat "Argument" "required") rfl)
    · exact He.noat_ok (c.fact 102 (f := .noat "Argument" "help") rfl)
    · exact He.noat_ok (c.fact 103 (f := .noat "Argument" "metavar") rfl)
    · exact He.noat_ok (c.fact 104 (f := .noat "Argument" "version") rfl)
    · exact He.noat_ok (c.fact 105 (f := .noat "Argument" "commands") rfl)
    · exact He.noat_ok (c.fact 106 (f := .noat "Argument" "fellows") rfl)
  have mk_Argument : Mk K (He.ga K "Argument") (He.ma K (He.ga K "Argument") "__init__") := He.mkr_ok (c.fact 91 (f := .mkr "Argument") rfl)
  have cS : ClsN K (He.ga K "Section") secF := by
    refine ⟨He.cls_ok (c.fact 107 (f := .cls "Section") rfl), fun f hf => ?_⟩
    simp only [secF, List.mem_cons, List.not_mem_nil, or_false] at hf
    rcases hf with rfl | rfl | rfl | rfl
    · exact He.noat_ok (c.fact 109 (f := .noat "Section" "home") rfl)
    · exact He.noat_ok (c.fact 110 (f := .noat "Section" "title") rfl)
    · exact He.noat_ok (c.fact 111 (f := .noat "Section" "description") rfl)
    · exact He.noat_ok (c.fact 112 (f := .noat "Section" "members") rfl)
  have mk_Section : Mk K (He.ga K "Section") (He.ma K (He.ga K "Section") "__init__") := He.mkr_ok (c.fact 108 (f := .mkr "Section") rfl)
  have mt_add_argument : Meth K (He.ga K "Parser") "add_argument" (He.ma K (He.ga K "Parser") "add_argument") := He.meth_ok (c.fact 113 (f := .meth "Parser" "add_argument") rfl)
  have mt_add_to : Meth K (He.ga K "Parser") "add_to" (He.ma K (He.ga K "Parser") "add_to") := He.meth_ok (c.fact 114 (f := .meth "Parser" "add_to") rfl)
  have mt_join : Meth K (He.ga K "Parser") "join" (He.ma K (He.ga K "Parser") "join") := He.meth_ok (c.fact 115 (f := .meth "Parser" "join") rfl)
  obtain ⟨hP, _⟩ := nilB_ok cn1
  obtain ⟨hL, tL⟩ := nilB_ok cn2
  obtain ⟨fd_add, D_add⟩ := c.def_ 47 (d := d_add) rfl
  obtain ⟨fd_par, D_par⟩ := c.def_ 48 (d := d_parI) rfl
  obtain ⟨ds, vd, b_add⟩ := FunD.binds1 D_add (ps := ["self", "flags", "options"]) 3 1 (fun z => nomatch z) rfl fun T kV doc pm an cdv ct us its h1 h2 => match us, its, h1, h2 with | [_, _, _], [_], _, _ => ⟨_, rfl, rfl⟩
  cases vd
  have hpar : ∃ its mv : List Value, KBn K fd_par pParI 2 ["add_help", "exit_on_error", "prefix_chars", "allow_abbrev"] (fun us ws => gPar us its mv ws) (fun vs zs => gPar vs [.str "program"] [.non, .non, .non, .ref (kwAt ("Parser", some "__init__") "parents" K), .ref (kwAt ("Parser", some "__init__") "layout" K), .int 78, .str "-", .str "", .non, .non, .str "error", .bl true, .bl true, .bl true] zs) := by
    refine XB.kbn D_par (ns := ["self", "prog"]) (ko := ["usage", "description", "epilog", "parents", "layout", "width", "prefix_chars", "fromfile_prefix_chars", "files", "argument_default", "conflict_handler", "add_help", "allow_abbrev", "exit_on_error"]) (ps := pParI) 2 ["add_help", "exit_on_error", "prefix_chars", "allow_abbrev"] (fun z => nomatch z) (fun z => nomatch z) rfl rfl rfl rfl rfl rfl (by decide) (by show 1 ≤ 2; decide) (by decide +kernel) (by decide +kernel) ?_ (fun a b c d => gPar a b c d) (fun r1 r2 r3 r4 => r1.append ((r3.take 6).append (((r4.drop 2).take 1).append (((r3.drop 7).take 4).append ((r4.take 1).append ((r4.drop 3).append ((r4.drop 1).take 1))))))) ?_
    · show ∀ x ∈ (["self", "prog"] : List Str).take (2 - 1), ((["self", "prog"] : List Str).take 2 ++ (["add_help", "exit_on_error", "prefix_chars", "allow_abbrev"] : List Str)).contains x = true
      decide +kernel
    · intro us its mv ws h1 h2 h3 h4
      match us, its, mv, ws, h1, h2, h3, h4 with
      | [_, _], [_], [_, _, _, _, _, _, _, _, _, _, _, _, _, _], [_, _, _, _], _, _, _, _ => kernel_rfl
  obtain ⟨its, mv, kb⟩ := hpar
  have e := hfa.symm.trans m_law
  cases e
  refine ⟨fd_law, fun s v => ?_, fun base _ _ => ?_⟩
  · exact FunD.bindsA (ps := ["_law_script"]) D_law (fun _ _ _ _ _ _ us hl => match us, hl with | [_], _ => rfl) s [v] rfl
  have A_cop : At P w K mg base "copied" 3 ["value"] (spCop 2) _ fd_cop := ⟨okCop F_cop B m_cop F_cop.kp b_cop 2, m_cop, F_cop.kp, b_cop⟩
  have A_isr : At P w K mg base "is_row" 1 ["thing"] (spIsRow K) _ fd_isr := ⟨ok_isRow F_isr B, m_isr, F_isr.kp, b_isr⟩
  have A_isi : At P w K mg base "is_integer" 1 ["thing"] (spIsInt K) _ fd_isi := ⟨ok_isInt F_isi B, m_isi, F_isi.kp, b_isi⟩
  have A_isk : At P w K mg base "is_kind" 1 ["thing"] spIsKind _ fd_isk := ⟨ok_isKind F_isk, m_isk, F_isk.kp, b_isk⟩
  have A_gap : At P w K mg base "has_gap" 1 ["text"] spHasGap _ fd_gap := ⟨ok_hasGap F_gap z_any, m_gap, F_gap.kp, b_gap⟩
  have A_isf : At P w K mg base "is_flag" 2 ["text", "prefix_chars"] spIsFlag _ fd_isf := ⟨ok_isFlag F_isf A_gap.ok m_gap F_gap.kp b_gap, m_isf, F_isf.kp, b_isf⟩
  have A_chk : At P w K mg base "checked_flags" 3 ["flags", "prefix_chars"] (spChk K) _ fd_chk := ⟨ok_chk F_chk B z_str A_isr A_isf, m_chk, F_chk.kp, b_chk⟩
  have A_nam : At P w K mg base "named" 1 ["flags", "made", "options", "prefix_chars"] spNamed _ fd_nam := ⟨ok_named F_nam B z_str, m_nam, F_nam.kp, b_nam⟩
  have A_key : At P w K mg base "keys_of" 1 ["action"] spKeys _ fd_key := ⟨ok_keys F_key Z, m_key, F_key.kp, b_key⟩
  have A_fit : At P w K mg base "fits_metavar" 1 ["metavar", "nargs"] spFits _ fd_fit := ⟨ok_fits F_fit, m_fit, F_fit.kp, b_fit⟩
  have A_cw : At P w K mg base "check_words" 2 ["action", "options"] spWords _ fd_cw := ⟨ok_words F_cw B Z A_isi A_isk A_fit, m_cw, F_cw.kp, b_cw⟩
  have A_co : At P w K mg base "check_options" 3 ["action", "options", "is_positional"] spChkO _ fd_co := ⟨ok_chkO F_co B Z A_key A_cw, m_co, F_co.kp, b_co⟩
  have A_dfl : At P w K mg base "default_of" 1 nDflt spDflt _ fd_dfl := ⟨ok_dflt F_dfl, m_dfl, F_dfl.kp, b_dfl⟩
  have g_argI := ok_argI (P := P) (w := w) (mg := mg) (base := base) F_argI cA
  have g_secI := ok_secI (P := P) (w := w) (mg := mg) (base := base) F_secI cS
  have A_mad : At P w K mg base "made_argument" 4 ["flags", "given", "parser", "is_exclusive"] (spMade (He.ga K "Argument") (He.ga K "Parser")) _ fd_mad := ⟨ok_made F_mad B Z cP cA A_chk A_nam A_co A_dfl A_cop A_isr m_Argument mk_Argument g_argI b_argI, m_mad, F_mad.kp, b_mad⟩
  have g_joi := ok_join (P := P) (w := w) (mg := mg) (base := base) F_joi B cP cA cS
  have g_adt := ok_addTo (P := P) (w := w) (mg := mg) (base := base) F_adt cP A_mad g_joi mt_join b_joi
  have g_add : FnOk P w K mg base CX0 6 (He.ma K (He.ga K "Parser") "add_argument") fd_add ["self", "flags", "options"] (spAdd (He.ga K "Parser") (He.ga K "Section")) := ok_add D_add cP g_adt mt_add_to b_adt
  have A_sig : At P w K mg base "is_signs" 1 ["thing"] spSigns _ fd_sig := ⟨ok_signs F_sig B z_str z_any m_NOS (by decide +kernel), m_sig, F_sig.kp, b_sig⟩
  have g_par : FnOk P w K mg base CX0 4 (He.ma K (He.ga K "Parser") "__init__") fd_par pParI (spParI (He.ga K "Parser") (He.ga K "Section") (kwAt ("Parser", some "__init__") "parents" K) (kwAt ("Parser", some "__init__") "layout" K)) := ok_parI D_par B z_str cP hP hL tL A_isr A_isi A_sig A_cop m_Section mk_Section g_secI b_secI
  have A_mb : At P w K mg base "meant_by" 1 ["parser", "word"] (spMeantW (He.ga K "Parser")) _ fd_mb := ⟨ok_mb F_mb B cP, m_mb, F_mb.kp, b_mb⟩
  have A_drw : At P w K mg base "_law_draw" 1 ["_law_stream", "_law_many"] spDraw _ fd_drw := ⟨ok_draw F_drw B, m_drw, F_drw.kp, b_drw⟩
  have A_sta : At P w K mg base "_law_start" 1 ["_law_script"] (spStart K) _ fd_sta := ⟨ok_start F_sta B, m_sta, F_sta.kp, b_sta⟩
  have A_pck : At P w K mg base "_law_pick" 2 ["_law_stream", "_law_some"] spPick _ fd_pck := ⟨ok_pick F_pck B A_drw.ok m_drw F_drw.kp b_drw, m_pck, F_pck.kp, b_pck⟩
  have A_mix : At P w K mg base "_law_mixed" 2 ["_law_stream", "_law_some"] spMixed _ fd_mix := ⟨ok_mixed F_mix B A_drw, m_mix, F_mix.kp, b_mix⟩
  have A_mod : At P w K mg base "_law_r_model" 1 ["_law_options", "_law_positionals"] spModel _ fd_mod := ⟨ok_model F_mod, m_mod, F_mod.kp, b_mod⟩
  have A_rfl : At P w K mg base "_law_r_flags" 1 ["_law_m"] spRFlags _ fd_rfl_ := ⟨ok_rflags F_rfl_, m_rfl_, F_rfl_.kp, b_rfl_⟩
  have A_rme : At P w K mg base "_law_r_meant" 2 ["_law_m", "_law_word"] spRMeant _ fd_rme := ⟨ok_rmeant F_rme B A_rfl, m_rme, F_rme.kp, b_rme⟩
  have A_rki : At P w K mg base "_law_r_kind" 3 ["_law_stream"] spRKind _ fd_rki := ⟨ok_rkind F_rki A_pck, m_rki, F_rki.kp, b_rki⟩
  have A_pto : At P w K mg base "_law_r_put_options" 7 ["_law_parser", "_law_m"] (spPutO (He.ga K "Parser") (He.ga K "Section")) _ fd_pto := ⟨ok_putO F_pto B cP g_add mt_add_argument b_add, m_pto, F_pto.kp, b_pto⟩
  have A_put : At P w K mg base "_law_r_put" 8 ["_law_parser", "_law_m"] (spPut (He.ga K "Parser") (He.ga K "Section")) _ fd_put := ⟨ok_put F_put cP g_add mt_add_argument b_add A_pto, m_put, F_put.kp, b_put⟩
  have A_sam : At P w K mg base "_law_same" 4 ["_law_found", "_law_due"] (spSame 3) _ fd_sam := ⟨okSame F_sam B m_sam F_sam.kp b_sam 3, m_sam, F_sam.kp, b_sam⟩
  have A_are : At P w K mg base "are_digits" 1 ["text"] spAreD _ fd_are := ⟨ok_areD F_are B, m_are, F_are.kp, b_are⟩
  have A_num : At P w K mg base "is_number" 2 ["word"] spIsNum _ fd_num := ⟨ok_isNum F_num A_are, m_num, F_num.kp, b_num⟩
  have A_exp : At P w K mg base "expanded" 1 ["parser", "words"] (spExp (He.ga K "Parser")) _ fd_exp := ⟨ok_exp F_exp B cP, m_exp, F_exp.kp, b_exp⟩
  have A_wbf : At P w K mg base "words_behind_files" 2 ["parser", "words"] (spWbf (He.ga K "Parser")) _ fd_wbf := ⟨ok_wbf F_wbf B A_exp m_Trouble, m_wbf, F_wbf.kp, b_wbf⟩
  have A_lef : At P w K mg base "letter_of" 3 ["parser", "word"] (spLetOf (He.ga K "Parser")) _ fd_lef := ⟨ok_letOf F_lef B z_any cP A_mb A_num, m_lef, F_lef.kp, b_lef⟩
  have A_les : At P w K mg base "letters_of" 4 ["parser", "words"] (spLetsOf (He.ga K "Parser")) _ fd_les := ⟨ok_letsOf F_les A_lef, m_les, F_les.kp, b_les⟩
  have A_let : At P w K mg base "letters" 5 ["parser", "words"] (spLetters (He.ga K "Parser")) _ fd_let := ⟨ok_letters F_let A_les A_wbf, m_let, F_let.kp, b_let⟩
  have A_rop : At P w K mg base "_law_r_option" 2 ["_law_m", "_law_flag"] spROption _ fd_rop := ⟨ok_roption F_rop A_rfl, m_rop, F_rop.kp, b_rop⟩
  have A_rnu : At P w K mg base "_law_r_is_number" 1 ["_law_word"] spRIsNum _ fd_rnu := ⟨ok_rnum F_rnu B, m_rnu, F_rnu.kp, b_rnu⟩
  have A_rle : At P w K mg base "_law_r_letter" 3 ["_law_m", "_law_word"] spRLetter _ fd_rle := ⟨ok_rletter F_rle B A_rop A_rme A_rnu A_rfl, m_rle, F_rle.kp, b_rle⟩
  have A_rls : At P w K mg base "_law_r_letters" 4 ["_law_m", "_law_words"] spRLetters _ fd_rls := ⟨ok_rletters F_rls B A_rle, m_rls, F_rls.kp, b_rls⟩
  have A_rdr : At P w K mg base "_law_r_drawn" 4 ["_law_stream", "_law_most", "_law_room"] spDrawn _ fd_rdr := ⟨ok_drawn F_rdr B z_str A_drw A_pck A_mix A_mod A_rki, m_rdr, F_rdr.kp, b_rdr⟩
  have A_rso : At P w K mg base "_law_r_some_word" 3 ["_law_stream", "_law_m"] spSome _ fd_rso := ⟨ok_some F_rso B A_drw A_pck A_rfl, m_rso, F_rso.kp, b_rso⟩
  have A_rli : At P w K mg base "_law_r_line" 4 ["_law_stream", "_law_m", "_law_most"] spLine _ fd_rli := ⟨ok_line F_rli B A_drw A_rso, m_rli, F_rli.kp, b_rli⟩
  have A_rma : At P w K mg base "_law_r_made" 9 ["_law_m"] (spMadeP (He.ga K "Parser") (He.ga K "Section")) _ fd_rma := ⟨ok_rmade F_rma m_Parser mk_Parser g_par kb (fun _ _ _ _ _ _ => rfl) A_put, m_rma, F_rma.kp, b_rma⟩
  exact ok_law F_law ⟨B, ⟨_, _, A_sta⟩, ⟨_, _, A_drw⟩, ⟨_, _, A_rdr⟩, ⟨_, _, A_rma⟩, ⟨_, _, A_rli⟩, ⟨_, _, A_rls⟩, ⟨_, _, A_let⟩, ⟨_, _, A_sam⟩⟩
end K01

open PySem PySem.W PySem.Calls PyProof.Rows
theorem PySem.Challenge.cw_optwright_k01_letters_told_holds : PySem.Challenge.rw_optwright_k01_letters_told.Holds := by
  w_on; o_law
  refine HandSHeadRun.head_any (r := OpenLaw.row PySem.Challenge.rw_optwright_k01_letters_told) (q := view (OpenLaw.row PySem.Challenge.rw_optwright_k01_letters_told).prog [105]) (H := K01.hk) (ob := K01.ob) (M := 9000) (loose := K01.loose) (d := HandSHeadRun.topDef (OpenLaw.row PySem.Challenge.rw_optwright_k01_letters_told).prog 105) (kwd := []) K01.ob_eq
    (by kernel_rfl) (fun s => by kernel_rfl) K01.run (by kernel_rfl) (by kernel_rfl) (by kernel_rfl) (by rfl) (by first | assumption | decide +kernel) (by decide +kernel) ⟨rfl, rfl, rfl, rfl, rfl, by decide +kernel⟩ ?hw ?hc
  case hw => w_witness2
  case hc =>
    refine L2.walk_ofE (l := PySem.Challenge.rw_optwright_k01_letters_told) (n := 63) (k := 10) (x := "_law_script") (CX := L2.CX0) rfl (by decide) (by kernel_rfl) ⟨rfl, by decide, by decide⟩ ?F (fun _ _ _ _ z => z)
    intro w mg fa h Y G hmg0
    obtain ⟨K, KX, c, cx⟩ := Y
    have hmg : mg ("law" : PySem.Str) = some (.ref fa) := by
      have e : (HandSHeadRun.topDef (OpenLaw.row PySem.Challenge.rw_optwright_k01_letters_told).prog 105).name = ("law" : PySem.Str) := by kernel_rfl
      rw [← e]
      exact hmg0
    obtain ⟨fd, hb, hF⟩ := K01.facts (P := (PySem.Challenge.rw_optwright_k01_letters_told).prog) (w := w) KX G hmg c cx
    exact ⟨K, fd, K01.spLaw K, KX, hb, fun H a ns hl _ hS => ⟨a, ns, rfl, hS, fun _ => rfl⟩, hF⟩

