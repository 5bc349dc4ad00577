import PyProof.Rows.All
import Wide.All
import OpenK.AllK
import Wide.FinOn
import HandS.Base
import HandS.Call
import HandS.List
import HandS.Comp
import HandS.Dict
import HandS.Words
import KE.KEqDict
import PySem.Challenge.RW_optwright_k67_arguments_made
import HandS.IsInst
import HandS.Zip
import HandS.Walk
import HandS.Style
import HandS.Iter
import HandS.StrMore
import HandS.Text
import HandS.More
import HandS.Conv
import HandS.ListItems
import HandS.Defaults
import HandS.WordsDict
import KE.GoesMore
import HandS.Replace
import HandS.ReplaceLit
import PyProof.ToksMono
import HandS.Deep
import HandS.MakeKwOnly
import KE.KDictList
import KE.KItemsList
import KE.KRevSl
import HandS.Steps
import HandS.NoneIn
import HandS.DictComp
import HandS.Small
import HandS.Head0
import HandS.Head1
import HandS.Head2
import HandS.HeadEnd
import HandS.HeadHook1
import HandS.HeadHook2
import HandS.HeadHook3
import HandS.HeadHook4
import HandS.HeadWalk
set_option Elab.async false
set_option linter.all false
set_option maxRecDepth 100000
set_option maxHeartbeats 0
namespace L2
open PySem PySem.Spec PyProof.Rows
/-- what == of two dicts tells, by their data -/
def eqHits (ld : List (Key × PyData)) : List (Key × PyData) → Bool
  | [] => true
  | (k, d) :: r => match (ld.find? fun kv => decide (kv.1 = k)).map (·.2) with
    | none => false
    | some e => PyData.eqv d e && eqHits ld r
/-- a dict's values by their data -/
def DPairs (K : PySem.W.Frag) (H : Hp) : List (Key × V) → List (Key × PyData) → Prop := Paired fun p q => p.1 = q.1 ∧ Dp K H p.2 q.2 ∧ SeqAt.shaped q.2 = true
theorem DPairs.val {K : PySem.W.Frag} {H : Hp} {ls : List (Key × V)} {ld : List (Key × PyData)} (r : DPairs K H ls ld) (k : Key) :
    (valV ls k = none ∧ (ld.find? fun kv => decide (kv.1 = k)).map (·.2) = none) ∨ ∃ v e, valV ls k = some v ∧ (ld.find? fun kv => decide (kv.1 = k)).map (·.2) = some e ∧ Dp K H v e ∧ SeqAt.shaped e = true := by
  unfold DPairs at r
  unfold valV
  induction r with
  | nil => exact .inl ⟨rfl, rfl⟩
  | @cons p q ps qs h t ih =>
    obtain ⟨h1, h2, h3⟩ := h
    rw [List.find?_cons, List.find?_cons, ← h1]
    by_cases e : p.1 = k
    · rw [decide_eq_true e]
      exact .inr ⟨p.2, q.2, rfl, rfl, h2, h3⟩
    · rw [decide_eq_false e]
      exact ih
section
variable {X : Cx} {pins : List (Addr × Obj)} {σ : St} {H : Hp} {s : Shared}
theorem hits_of (I : Inv X pins σ H s) {A : Around} (hu : A.in1.units + 64 < cLine) {ls : List (Key × V)} {ld : List (Key × PyData)} (rl : DPairs X.K H ls ld) {vb : List (Key × Value)} (rb : KV ls vb) {ks : List (Key × V)} {kd : List (Key × PyData)} (rk : DPairs X.K H ks kd) :
    ∀ {va : List (Key × Value)}, KV ks va → PySem.W.KeqHits A.in1 s vb va (eqHits ld kd) := by
  unfold DPairs at rk
  induction rk with
  | nil =>
    intro va ra
    cases ra
    exact .nil
  | @cons p q ps qs h t ih =>
    intro va ra
    cases ra with
    | @cons _ u _ us r1 r2 =>
      obtain ⟨key, v⟩ := u
      obtain ⟨pk, pv'⟩ := p
      obtain ⟨qk, qd⟩ := q
      obtain ⟨h1, h2, h3⟩ := h
      obtain ⟨e1, rv⟩ := r1
      dsimp only at h1 h2 h3 e1 rv
      subst h1
      subst e1
      have rr := rb.val pk
      show PySem.W.KeqHits A.in1 s vb ((pk, v) :: us) (match (ld.find? fun kv => decide (kv.1 = pk)).map (·.2) with
        | none => false
        | some e => PyData.eqv qd e && eqHits ld qs)
      rcases rl.val pk with ⟨n1, n2⟩ | ⟨y, e, s1, s2, s3, s4⟩
      · rw [n2]
        rw [n1] at rr
        refine .miss ?_
        cases hz : valueAt vb pk with
        | none => rfl
        | some z =>
          rw [hz] at rr
          exact rr.elim
      · rw [s2]
        rw [s1] at rr
        obtain ⟨yu, hy, ry⟩ := rr.some_of
        obtain ⟨as, q1⟩ := Dp.reads I qd pv' v h2 rv
        obtain ⟨bs, q2⟩ := Dp.reads I e y yu s3 ry
        exact .hit hy (PySem.W.keq_at q1 q2 h3 s4 hu) (ih r2)
end
section
variable {X : Cx}
/-- a == b of two dicts of data -/
def rEqDD (K : PySem.W.Frag) : R2 := fun x y H Q => ∃ a b ks ls kd ld, x = .ref a ∧ y = .ref b ∧ H a = some (.dK ks) ∧ H b = some (.dK ls) ∧ DPairs K H ks kd ∧ DPairs K H ls ld ∧ Q (.bl (kd.length == ld.length && eqHits ld kd)) H
theorem op_eqDD (hu : X.A.units + 70 < cLine) : OpR X (compareOp .Eq) (rEqDD X.K) := by
  intro pins s σ H x y v u Q I rx ry h
  obtain ⟨a, b, ks, ls, kd, ld, rfl, rfl, ha, hb, dk, dl, q⟩ := h
  cases rx
  cases ry
  obtain ⟨_, ya, va, ra, da⟩ := (show ObjOk X.prog X.w H s.heap a (.dK ks) from I.hok a _ ha)
  obtain ⟨_, yb, vb, rb, db⟩ := (show ObjOk X.prog X.w H s.heap b (.dK ls) from I.hok b _ hb)
  show wpAny (model X.prog X.w) X.A (richCompare .Eq (.ref a) (.ref b)) (EP X pins σ Q) X.xe s
  refine PySem.W.keq_eq (knd := mixKind X.prog X.w) (r := eqHits ld kd) ya yb da db (by omega) (fun _ => hits_of I (by show X.A.units + 1 + 64 < cLine; omega) dl rb dk ra) ?_
  have e1 : va.length = kd.length := by rw [← ra.length]; exact Paired.length dk
  have e2 : vb.length = ld.length := by rw [← rb.length]; exact Paired.length dl
  rw [e1, e2]
  exact ⟨.bl _, H, I, rfl, q⟩
/-- what stands right of an own == -/
inductive TyE (H : Hp) : V → Value → Prop where
  | ins {b C dy : Addr} {gs : List (Str × V)} (h : H b = some (.ins C dy gs)) : TyE H (.ref b) (.ref C)
  | lst {b : Addr} {xs : List V} (h : H b = some (.lst xs)) : TyE H (.ref b) (.type "list")
  | dct {b : Addr} {kvs : List (Key × V)} (h : H b = some (.dK kvs)) : TyE H (.ref b) (.type "dict")
theorem looks_obj {M : Model} {h : Heap} {a : Addr} {o : Obj} (e : h.get? a = some o) : PySem.W.Looks M h (typeOf (.ref a)) o.cls := (PySem.W.Looks.ld e).andThen .now
/-- x == y, x an instance of the class at C with its own == -/
def rOwnEq (K : PySem.W.Frag) (C : Addr) (sp : Sp) : R2 := fun x y H Q => ∃ a dx fs tb, x = .ref a ∧ H a = some (.ins C dx fs) ∧ TyE H y tb ∧ PySem.W.notFirst K C tb = true ∧ sp [x, y] H (fun v H' => ∃ b, v = .bl b ∧ Q v H') (fun _ _ _ => False)
theorem op_ownEq {CX : CXT} {n : Nat} {C f : Addr} {fd : FuncData} {ps : List Str} {sp : Sp} (F : FnOk X.prog X.w X.K X.mg X.base CX n f fd ps sp) (hr : Room n X.A)
    (hs : PySem.W.findIn X.K (.ref C) "__eq__" = some (some (.ref f))) (hf : PySem.W.isFn X.K (.ref f) = true) (hb : Binds X.K fd ps []) (hx : Passes CX X (fun _ _ _ => False)) : OpR X (compareOp .Eq) (rOwnEq X.K C sp) := by
  intro pins s σ H x y u v Q I rx ry h
  obtain ⟨a, dx, fs, tb, rfl, ha, ty, nf, hsp⟩ := h
  cases rx
  obtain ⟨mA, J, _⟩ := ins_get I.hok ha
  obtain ⟨od, J, _⟩ := J.look
  obtain ⟨m, hF⟩ := I.fr
  have hty : PySem.W.Looks (model X.prog X.w) s.heap (typeOf v) tb := by
    cases ty with
    | @ins b C dy gs hb' =>
      cases ry
      obtain ⟨mB, J', _⟩ := ins_get I.hok hb'
      obtain ⟨od', J', _⟩ := J'.look
      exact J'.type
    | @lst b xs e =>
      cases ry
      obtain ⟨_, _, n, _, h1⟩ := (show ObjOk X.prog X.w H s.heap b (.lst xs) from I.hok b _ e)
      exact looks_obj h1
    | @dct b kvs e =>
      cases ry
      obtain ⟨_, _, vs, _, o, es, ep, h1, h2, _⟩ := (show ObjOk X.prog X.w H s.heap b (.dK kvs) from I.hok b _ e)
      rw [← h2.1]
      exact looks_obj h1
  show wpAny (model X.prog X.w) X.A (richCompare .Eq (.ref a) v) (EP X pins σ Q) X.xe s
  refine PySem.W.cmp_K (op := .Eq) (tb := tb) hr.units0 hF I.ok.mod.kin J hty nf hs hf ?_
  have hl := F.len _ _ _ _ hsp
  have r2 : Vals [V.ref a, y] [Value.ref a, v] := .cons rfl (.cons ry .nil)
  refine wpAny_call (codeAny_mono (F.run X.A X.stack s H ⟨[.ref a, v], []⟩ [.ref a, v] [.ref a, y] _ _ hr I.env0 (by
    have := hb s [.ref a, v] I.kIn (by simpa using hl)
    simpa using this) r2 hsp) fun r s' hq => ?_)
  cases r with
  | error e => exact hx pins σ H s e s' I hq
  | ok fl =>
    cases fl with
    | ret w =>
      obtain ⟨z, H', I', rz, b, ez, ex⟩ := I.after hq
      subst ez
      cases rz
      exact ⟨.bl b, H', I', rfl, ex⟩
    | next => exact False.elim hq
    | brk => exact False.elim hq
    | cont => exact False.elim hq
/-- a walk over a list or a tuple -/
def iLT (wa wb : TI) : TI := fun σ H R => wa σ H R ∨ wb σ H R
theorem pi_or {tg it : Expr} {wa wb : TI} (ha : PI X tg it wa) (hb : PI X tg it wb) : PI X tg it (iLT wa wb) :=
  ⟨fun pins s σ H R I h => h.elim (ha.run pins s σ H R I) (hb.run pins s σ H R I)⟩
end
end L2

namespace K67
open PySem L2
/-! ### the text by places -/
def top (i : Nat) : Stmt := PySem.Challenge.pw_optwright_k67_arguments_made.main.body.getD i (.Pass ⟨0, 0, 0, 0⟩)
abbrev sIsInt : Stmt := top 10
abbrev sIsRow : Stmt := top 11
abbrev sIsVal : Stmt := top 12
abbrev sCop : Stmt := top 13
abbrev sIsKind : Stmt := top 14
abbrev sKeys : Stmt := top 25
abbrev sIsFlag : Stmt := top 26
abbrev sHasGap : Stmt := top 27
abbrev sChkFlags : Stmt := top 28
abbrev sNamed : Stmt := top 29
abbrev sWithF : Stmt := top 30
abbrev sFits : Stmt := top 31
abbrev sChkWords : Stmt := top 32
abbrev sChkOpts : Stmt := top 33
abbrev sDflt : Stmt := top 34
abbrev sMadeArg : Stmt := top 35
abbrev sIsSigns : Stmt := top 67
abbrev sDraw : Stmt := top 75
abbrev sStart : Stmt := top 76
abbrev sPick : Stmt := top 77
abbrev sMixed : Stmt := top 78
abbrev sSame : Stmt := top 79
abbrev sRFl : Stmt := top 70
abbrev sWOp : Stmt := top 71
abbrev sROp : Stmt := top 72
abbrev sSomeA : Stmt := top 73
abbrev sLCop : Stmt := top 74
abbrev sLDest : Stmt := top 80
abbrev sFlDue : Stmt := top 81
abbrev sDue : Stmt := top 82
abbrev sTold : Stmt := top 83
abbrev sLaw : Stmt := top 84
abbrev sArgI : Stmt := inClass (top 24) 0
abbrev sSecI : Stmt := inClass (top 62) 0
abbrev sParI : Stmt := inClass (top 68) 0
abbrev sAdd : Stmt := inClass (top 68) 2
abbrev sAddTo : Stmt := inClass (top 68) 3
abbrev sJoin : Stmt := inClass (top 68) 4
abbrev sTake : Stmt := inClass (top 68) 5
/-! ### what is never reached -/
theorem pss_never {X : Cx} {ss : List Stmt} : PSs X ss (fun _ _ _ => False) := ⟨fun _ _ _ _ _ _ h => h.elim⟩
theorem ps_never {X : Cx} {st : Stmt} : PS X st (fun _ _ _ => False) := ⟨fun _ _ _ _ _ _ h => h.elim⟩
theorem pe_never {X : Cx} {e : Expr} : PE X e (fun _ _ _ => False) := ⟨fun _ _ _ _ _ _ h => h.elim⟩
/-! ### cut: a statement, then the rest, with a word between them -/
def tMid (t u : TS) : TS := fun D σ H => ∃ M : St → Hp → Prop, t { D with nx := M } σ H ∧ ∀ σ' H', M σ' H' → u D σ' H'
theorem pss_mid {X : Cx} {st : Stmt} {rest : List Stmt} {t u : TS} (h1 : PS X st t) (h2 : PSs X rest u) : PSs X (st :: rest) (tMid t u) := by
  refine ⟨fun pins s σ H D I h => ?_⟩
  rcases h with ⟨M, hm, hu⟩
  refine wpAny_execs_cons (thn (h1.run pins s σ H _ I hm) fun fl s1 q => ?_)
  cases fl <;> first
    | exact q
    | (obtain ⟨σ1, H1, I1, q1⟩ := q
       exact h2.run pins s1 σ1 H1 D I1 (hu σ1 H1 q1))
/-! ### the stream -/
/-- a stream of draws at st, its cells at cl, n draws made -/
structure Strm (H : Hp) (st cl : Addr) (n : Nat) : Prop where
  ex : ∃ (c a : Int) (ns : List Int), H st = some (.lst [.ref cl, .int c, .int (n : Int), .int a]) ∧ H cl = some (.lst (ns.map V.int)) ∧ 0 ≤ a ∧ a < 2147483647 ∧ 0 ≤ c
/-- all but what stands at two places is kept -/
def Kp2 (a b : Addr) (H H' : Hp) : Prop := ∀ q o, H q = some o → q ≠ a → q ≠ b → H' q = some o
theorem Strm.ne {H : Hp} {st cl : Addr} {n : Nat} (S : Strm H st cl n) : st ≠ cl := by
  obtain ⟨c, a, ns, h1, h2, _⟩ := S.ex
  refine ne_of h1 h2 fun e => ?_
  have e2 : [V.ref cl, .int c, .int (n : Int), .int a] = ns.map V.int := HO.lst.inj e
  cases ns with
  | nil => cases e2
  | cons x xs => cases (List.cons.inj e2).1
def SAt (H : Hp) (st cl : Addr) (c : Int) (n : Nat) (a : Int) (ns : List Int) : Prop := H st = some (.lst [.ref cl, .int c, .int (n : Int), .int a]) ∧ H cl = some (.lst (ns.map V.int)) ∧ 0 ≤ a ∧ a < 2147483647 ∧ 0 ≤ c
theorem fmod_lo {i j : Int} (h : 0 < j) : 0 ≤ i.fmod j := by
  rw [Int.fmod_eq_emod_of_nonneg _ (by omega)]
  exact Int.emod_nonneg _ (by omega)
theorem fmod_hi {i j : Int} (h : 0 < j) : i.fmod j < j := by
  rw [Int.fmod_eq_emod_of_nonneg _ (by omega)]
  exact Int.emod_lt_of_pos _ h
theorem fdiv_nn {i j : Int} (h : 0 ≤ i) (hj : 0 < j) : 0 ≤ i.fdiv j := by
  rw [Int.fdiv_eq_ediv_of_nonneg _ (by omega)]
  exact Int.ediv_nonneg h (by omega)
theorem seq0 {α : Type} (x : α) (xs : List α) : seqIndex? 0 (x :: xs).length = some 0 := by
  unfold seqIndex?
  simp
def spDraw : Sp := fun vs H Q _ => ∃ (st cl : Addr) (n : Nat) (m : Int), vs = [.ref st, .int m] ∧ Strm H st cl n ∧ 0 < m ∧ m < 1000000 ∧ n ≤ 100000 ∧
  ∀ (k : Int) (H' : Hp), 0 ≤ k → k < m → Strm H' st cl (n + 1) → Kp2 st cl H H' → Q (.int k) H'
/-- names of the top that the walk asks -/
structure TxtB (mg : Str → Option Value) : Prop where
  int : mg "int" = none
  list : mg "list" = none
  tuple : mg "tuple" = none
  len : mg "len" = none
  isinstance : mg "isinstance" = none
  dict : mg "dict" = none
  sorted : mg "sorted" = none
  all : mg "all" = none
  zip : mg "zip" = none
  range : mg "range" = none
  bool : mg "bool" = none
theorem shaped_ints (ns : List Int) : SeqAt.shaped (.list (ns.map PyData.int)) = true := PySem.W.shaped_ints ns
theorem dpAll_ints {K : PySem.W.Frag} {H : Hp} : ∀ ns : List Int, DpAll K H (ns.map V.int) (ns.map PyData.int)
  | [] => .nil
  | n :: ns => .cons (.int n) (dpAll_ints ns)
section
variable {P : Program} {w : World} {K : PySem.W.Frag} {mg : Str → Option Value} {base : Heap}
theorem scDraw : FnScope ["_law_stream", "_law_many", "_law_digit", "_law_mixed_here"] ["_law_stream", "_law_many"] (defScope sDraw) := ⟨rfl, rfl, rfl, by decide +kernel, rfl, by decide +kernel, by decide +kernel⟩
theorem ok_draw {f : Addr} {fd : FuncData} (F : Fun K "_law_draw" "_law_draw" sDraw f fd) (T : TxtB mg) : FnOk P w K mg base CX0 1 f fd ["_law_stream", "_law_many"] spDraw := by
  refine F.ok scDraw (fun vs H Q E h => ?_) (fun cdv A outer s H vs Q E hr h => ?_)
  · obtain ⟨st, cl, n, m, rfl, _⟩ := h
    rfl
  · obtain ⟨st, cl, n, m, rfl, S, m0, m1, hn, k⟩ := h
    have ne := S.ne
    obtain ⟨c, a, ns, h1, h2, a0, a1, c0⟩ := S.ex
    have hu : (Cx.A (cxOf CX0 P w K mg base ["_law_stream", "_law_many", "_law_digit", "_law_mixed_here"] "_law_draw" (defScope sDraw) f cdv A outer s H E)).units + 64 < cLine := hr.units
    refine ⟨_, pss_mid (ps_asg (pe_op op_add (pe_ix ix_list (pv 0) pe_int (fun _ _ => rfl)) pe_int) (pg_sub (pv 0) pe_int set_list))
      (pss_mid (ps_if (PW.pt (pw_and (pt_cmpR op_eq (pe_ix ix_list (pv 0) pe_int (fun _ _ => rfl)) pe_int (nomark _)) (pw_and1 (pt_cmpR (op_neD hu) (pe_ix ix_list (pv 0) pe_int (fun _ _ => rfl)) (pe_lst pa_nil) (nomark _)))))
        (pss_mid (ps_asg (pe_bm PySem.F.plainAttrs_list PySem.F.slot_list_pop PySem.F.type_list_pop mt_popAt (pe_ix ix_list (pv 0) pe_int (fun _ _ => rfl)) (pa_cons pe_int pa_nil)) (pg_sub (pv 0) pe_int set_list))
          (pss_one (ps_if (pt_cmpR op_lt (pe_ix ix_list (pv 0) pe_int (fun _ _ => rfl)) (pe_op op_pow pe_int pe_int) (nomark _))
            (pss_mid (ps_asg (pe_op op_modN (pe_callTy call_int1 (by rfl) T.int (by decide +kernel) (pa_cons (pe_op op_add (pe_op op_add (pe_op op_mul (pe_ix ix_list (pv 0) pe_int (fun _ _ => rfl)) pe_int) (pe_ix ix_list (pv 0) pe_int (fun _ _ => rfl))) pe_int) pa_nil)) pe_int) (pg_sub (pv 0) pe_int set_list))
              (pss_one (ps_asg pe_int (pg_sub (pv 0) pe_int set_list)))) pss_nil))) pss_nil)
      (pss_cons (ps_if (pt_cmpR op_gt (pe_ix ix_list (pv 0) pe_int (fun _ _ => rfl)) pe_int (nomark _))
        (pss_cons (ps_set (i := 2) scDraw.nd rfl (Or.inl rfl) (pe_op op_modN (pe_callTy call_int1 (by rfl) T.int (by decide +kernel) (pa_cons (pe_ix ix_list (pv 0) pe_int (fun _ _ => rfl)) pa_nil)) (pv 1)))
          (pss_cons (ps_asg (pe_op op_fdivN (pe_ix ix_list (pv 0) pe_int (fun _ _ => rfl)) (pv 1)) (pg_sub (pv 0) pe_int set_list)) (pss_one (ps_ret (pv 2))))) pss_nil)
      (pss_cons (ps_set (i := 3) scDraw.nd rfl (Or.inl rfl) (pe_op op_modN (pe_op op_pow (pe_op op_add (pe_op op_add (pe_ix ix_list (pv 0) pe_int (fun _ _ => rfl)) (pe_op op_mul pe_int (pe_ix ix_list (pv 0) pe_int (fun _ _ => rfl)))) pe_int) pe_int) pe_int))
      (pss_one (ps_ret (pe_op op_modN (pe_op op_modN (pe_op op_pow (pe_op op_add (pe_op op_add (pe_op op_mul (pv 3) pe_int) (pe_op op_mul (pe_op op_mul pe_int (pe_ix ix_list (pv 0) pe_int (fun _ _ => rfl))) (pe_ix ix_list (pv 0) pe_int (fun _ _ => rfl)))) pe_int) pe_int) pe_int) (pv 1))))))), ?_⟩
    -- stream[2] = stream[2] + 1
    refine ⟨fun σ' H' => σ' = [some (.ref st), some (.int m), none, none] ∧ Kp2 st cl H H' ∧ SAt H' st cl c (n + 1) a ns, ?_, ?_⟩
    · refine ⟨_, rfl, st, _, _, _, rfl, rfl, SqL.of h1, rfl, _, _, rfl, rfl, _, rfl, st, _, _, 2, rfl, rfl, h1, rfl, rfl, ?_, upd_same, ?_, a0, a1, c0⟩
      · intro q o e n1 n2
        rw [upd_ne n1]
        exact e
      · rw [upd_ne ne.symm]
        exact h2
    rintro _ G ⟨rfl, gk, g1, g2, _, _, _⟩
    -- the cell
    refine ⟨fun σ' H' => σ' = [some (.ref st), some (.int m), none, none] ∧ Kp2 st cl H H' ∧ ∃ (c a : Int) (ns : List Int), SAt H' st cl c (n + 1) a ns, ?_, ?_⟩
    · refine ⟨_, rfl, st, _, _, _, rfl, rfl, SqL.of g1, rfl, rfl, _, rfl, ?_⟩
      refine ite2 (fun hc => ?_) (fun hc => ?_)
      · have c0' : c = 0 := by simpa using hc
        refine ⟨_, rfl, st, _, _, _, rfl, rfl, SqL.of g1, rfl, Nat.zero_le _, fun p hp => ?_⟩
        have np : st ≠ p := ne_of_none g1 hp
        have np2 : cl ≠ p := ne_of_none g2 hp
        have q1 : (upd G p (.lst [])) st = some (.lst [.ref cl, .int c, .int ((n + 1 : Nat) : Int), .int a]) := by rw [upd_ne np]; exact g1
        have q2 : (upd G p (.lst [])) cl = some (.lst (ns.map V.int)) := by rw [upd_ne np2]; exact g2
        have qk : Kp2 st cl H (upd G p (.lst [])) := fun q o e n1 n2 => by
          have e1 := gk q o e n1 n2
          rw [upd_ne (ne_of_none e1 hp)]
          exact e1
        refine ⟨_, _, .lst (SqL.of q2) (dpAll_ints ns), .lst (SqL.of upd_same) .nil, shaped_ints ns, by decide, _, rfl, ?_⟩
        cases ns with
        | nil => exact iteF ⟨rfl, qk, c, a, [], q1, q2, a0, a1, c0⟩
        | cons z zs =>
          refine iteT ?_
          generalize upd G p (.lst []) = G1 at q1 q2 qk
          -- stream[1] = stream[0].pop(0)
          refine ⟨fun σ' H' => σ' = [some (.ref st), some (.int m), none, none] ∧ Kp2 st cl H H' ∧ H' st = some (.lst [.ref cl, .int z, .int ((n + 1 : Nat) : Int), .int a]) ∧ H' cl = some (.lst (zs.map V.int)), ?_, ?_⟩
          · refine ⟨_, rfl, st, _, _, _, rfl, rfl, SqL.of q1, rfl, .inl ⟨rfl, _, SqL.of q2⟩, cl, _, 0, 0, .int z, rfl, rfl, q2, by decide, by decide, seq0 _ _, rfl, _, rfl, st, _, _, 1, rfl, rfl, (by rw [upd_ne ne]; exact q1), rfl, rfl, ?_, upd_same, ?_⟩
            · intro q o e n1 n2
              rw [upd_ne n1, upd_ne n2]
              exact qk q o e n1 n2
            · rw [upd_ne ne.symm, upd_same]
              rfl
          rintro _ G2 ⟨rfl, k2, u1, u2⟩
          refine ⟨_, rfl, st, _, _, _, rfl, rfl, SqL.of u1, rfl, _, _, rfl, rfl, ⟨by decide, by decide, by decide⟩, _, _, rfl, rfl, _, rfl, ?_⟩
          refine ite2 (fun hz => ?_) (fun hz => ?_)
          · refine ⟨fun σ' H' => σ' = [some (.ref st), some (.int m), none, none] ∧ Kp2 st cl H H' ∧ H' cl = some (.lst (zs.map V.int)) ∧ ∃ b, 0 ≤ b ∧ b < 2147483647 ∧ H' st = some (.lst [.ref cl, .int z, .int ((n + 1 : Nat) : Int), .int b]), ?_, ?_⟩
            · refine ⟨_, rfl, st, _, _, _, rfl, rfl, SqL.of u1, rfl, _, _, rfl, rfl, .inr ⟨by decide, by decide⟩, _, rfl, st, _, _, _, rfl, rfl, SqL.of u1, rfl, _, _, rfl, rfl, _, _, rfl, rfl, .inl ⟨_, rfl, _, _, rfl, rfl, (by show (2147483647 : Int) ≠ 0; decide), ?_⟩⟩
              refine ⟨_, rfl, st, _, _, 3, rfl, rfl, u1, rfl, rfl, ?_, ?_, _, ?_, ?_, upd_same⟩
              · intro q o e n1 n2
                rw [upd_ne n1]
                exact k2 q o e n1 n2
              · rw [upd_ne ne.symm]
                exact u2
              · exact fmod_lo (by decide)
              · exact fmod_hi (by decide)
            · rintro _ G3 ⟨rfl, k3, v2, b, b0, b1, v1⟩
              refine ⟨_, rfl, st, _, _, 1, rfl, rfl, v1, rfl, rfl, ?_, 0, b, zs, upd_same, ?_, b0, b1, Int.le_refl 0⟩
              · intro q o e n1 n2
                rw [upd_ne n1]
                exact k3 q o e n1 n2
              · rw [upd_ne ne.symm]
                exact v2
          · refine ⟨rfl, k2, z, a, zs, u1, u2, a0, a1, ?_⟩
            have hz' : ¬ z < (10 : Int) ^ (18 : Int).toNat := by simpa using hz
            have : (0 : Int) ≤ (10 : Int) ^ (18 : Int).toNat := by decide
            omega
      · exact iteF ⟨rfl, gk, c, a, ns, g1, g2, a0, a1, c0⟩
    rintro _ G2 ⟨rfl, kk, c, a, ns, h1, h2, a0, a1, c0⟩
    -- a digit
    refine ⟨_, rfl, st, _, _, _, rfl, rfl, SqL.of h1, rfl, _, _, rfl, rfl, _, rfl, ?_⟩
    refine ite2 (fun hc => ?_) (fun hc => ?_)
    · refine ⟨_, rfl, st, _, _, _, rfl, rfl, SqL.of h1, rfl, .inl ⟨_, rfl, _, rfl, _, _, rfl, rfl, (by show m ≠ 0; omega), ?_⟩⟩
      refine ⟨_, rfl, st, _, _, _, rfl, rfl, SqL.of h1, rfl, _, rfl, _, _, rfl, rfl, ⟨(by show m ≠ 0; omega), (by show m.natAbs < 1073741824; omega)⟩, _, rfl, st, _, _, 1, rfl, rfl, h1, rfl, ?_⟩
      refine ⟨_, rfl, k _ _ (fmod_lo m0) (fmod_hi m0) ⟨Int.fdiv c m, a, ns, upd_same, ?_, a0, a1, fdiv_nn c0 m0⟩ ?_⟩
      · rw [upd_ne ne.symm]
        exact h2
      · intro q o e n1 n2
        rw [upd_ne n1]
        exact kk q o e n1 n2
    -- mixed
    have nb : ((n + 1 : Nat) : Int) ≤ 100001 := by omega
    have n0 : (0 : Int) ≤ ((n + 1 : Nat) : Int) := by omega
    refine ⟨_, rfl, st, _, _, _, rfl, rfl, SqL.of h1, rfl, _, rfl, st, _, _, _, rfl, rfl, SqL.of h1, rfl, _, _, rfl, rfl, .inl ⟨by decide, by decide⟩, _, _, rfl, rfl, _, _, rfl, rfl, _, _, rfl, rfl, ⟨by decide, by decide, ?_⟩, _, _, rfl, rfl, (by show (2147483629 : Int) ≠ 0; decide), ?_⟩
    · show (a + 104729 * ((n + 1 : Nat) : Int) + 17).natAbs < 2 ^ 64
      omega
    have y0 : (0 : Int) ≤ ((a + 104729 * ((n + 1 : Nat) : Int) + 17) ^ (5 : Int).toNat).fmod 2147483629 := fmod_lo (by decide)
    have y1 : ((a + 104729 * ((n + 1 : Nat) : Int) + 17) ^ (5 : Int).toNat).fmod 2147483629 < 2147483629 := fmod_hi (by decide)
    -- the answer
    refine ⟨_, rfl, _, _, rfl, rfl, .inl ⟨?_, ?_⟩, _, rfl, st, _, _, _, rfl, rfl, SqL.of h1, rfl, _, _, rfl, rfl, .inl ⟨by decide, by decide⟩, _, rfl, st, _, _, _, rfl, rfl, SqL.of h1, rfl, _, _, rfl, rfl, .inl ⟨?_, ?_⟩, _, _, rfl, rfl, _, _, rfl, rfl, _, _, rfl, rfl, ⟨by decide, by decide, ?_⟩, _, _, rfl, rfl, (by show (1000000007 : Int) ≠ 0; decide), _, rfl, _, _, rfl, rfl, (by show m ≠ 0; omega), ?_⟩
    · show -(2 ^ 64) < ((a + 104729 * ((n + 1 : Nat) : Int) + 17) ^ (5 : Int).toNat).fmod 2147483629
      generalize ((a + 104729 * ((n + 1 : Nat) : Int) + 17) ^ (5 : Int).toNat).fmod 2147483629 = y at y0 y1 ⊢
      omega
    · show ((a + 104729 * ((n + 1 : Nat) : Int) + 17) ^ (5 : Int).toNat).fmod 2147483629 < 2 ^ 64
      generalize ((a + 104729 * ((n + 1 : Nat) : Int) + 17) ^ (5 : Int).toNat).fmod 2147483629 = y at y0 y1 ⊢
      omega
    · show -(2 ^ 64) < 40503 * ((n + 1 : Nat) : Int)
      omega
    · show 40503 * ((n + 1 : Nat) : Int) < 2 ^ 64
      omega
    · show (((a + 104729 * ((n + 1 : Nat) : Int) + 17) ^ (5 : Int).toNat).fmod 2147483629 * 48271 + 40503 * ((n + 1 : Nat) : Int) * ((n + 1 : Nat) : Int) + 13).natAbs < 2 ^ 64
      generalize ((a + 104729 * ((n + 1 : Nat) : Int) + 17) ^ (5 : Int).toNat).fmod 2147483629 = y at y0 y1 ⊢
      have e1 : 40503 * ((n + 1 : Nat) : Int) * ((n + 1 : Nat) : Int) ≤ 40503 * 100001 * 100001 :=
        Int.mul_le_mul (by omega) nb n0 (by omega)
      have e2 : 0 ≤ 40503 * ((n + 1 : Nat) : Int) * ((n + 1 : Nat) : Int) := Int.mul_nonneg (by omega) n0
      omega
    exact k _ _ (fmod_lo m0) (fmod_hi m0) ⟨c, a, ns, h1, h2, a0, a1, c0⟩ kk
end
end K67

namespace K67
open PySem L2
/-! ### data at addresses of its own -/
mutual
/-- v bears the data d, all its lists and tuples stand in N -/
inductive Dt (N : Hp) : V → PyData → Prop
  | non : Dt N .non .none
  | bl (b : Bool) : Dt N (.bl b) (.bool b)
  | int (i : Int) : Dt N (.int i) (.int i)
  | str (x : Str) : Dt N (.str x) (.str x)
  | lst {a : Addr} {xs : List V} {ds : List PyData} : N a = some (.lst xs) → DtAll N xs ds → Dt N (.ref a) (.list ds)
  | tup {a : Addr} {xs : List V} {ds : List PyData} : N a = some (.tup xs) → DtAll N xs ds → Dt N (.ref a) (.tuple ds)
inductive DtAll (N : Hp) : List V → List PyData → Prop
  | nil : DtAll N [] []
  | cons {v : V} {vs : List V} {d : PyData} {ds : List PyData} : Dt N v d → DtAll N vs ds → DtAll N (v :: vs) (d :: ds)
end
mutual
theorem Dt.mono {N M : Hp} (e : Same N M) : ∀ (d : PyData) (v : V), Dt N v d → Dt M v d
  | .none, _, h => by cases h; exact .non
  | .bool b, _, h => by cases h; exact .bl b
  | .int i, _, h => by cases h; exact .int i
  | .str x, _, h => by cases h; exact .str x
  | .list ds, _, h => by
    cases h with
    | lst h1 h2 => exact .lst (e _ _ h1) (DtAll.mono e ds _ h2)
  | .tuple ds, _, h => by
    cases h with
    | tup h1 h2 => exact .tup (e _ _ h1) (DtAll.mono e ds _ h2)
  | .dict _, _, h => by cases h
theorem DtAll.mono {N M : Hp} (e : Same N M) : ∀ (ds : List PyData) (vs : List V), DtAll N vs ds → DtAll M vs ds
  | [], _, h => by cases h; exact .nil
  | d :: ds, _, h => by
    cases h with
    | cons h1 h2 => exact .cons (Dt.mono e d _ h1) (DtAll.mono e ds _ h2)
end
mutual
theorem Dt.dp {K : PySem.W.Frag} {N : Hp} : ∀ (d : PyData) (v : V), Dt N v d → Dp K N v d
  | .none, _, h => by cases h; exact .non
  | .bool b, _, h => by cases h; exact .bl b
  | .int i, _, h => by cases h; exact .int i
  | .str x, _, h => by cases h; exact .str x
  | .list ds, _, h => by
    cases h with
    | lst h1 h2 => exact .lst (SqL.of h1) (DtAll.dp ds _ h2)
  | .tuple ds, _, h => by
    cases h with
    | tup h1 h2 => exact .tup (SqT.of h1) (DtAll.dp ds _ h2)
  | .dict _, _, h => by cases h
theorem DtAll.dp {K : PySem.W.Frag} {N : Hp} : ∀ (ds : List PyData) (vs : List V), DtAll N vs ds → DpAll K N vs ds
  | [], _, h => by cases h; exact .nil
  | d :: ds, _, h => by
    cases h with
    | cons h1 h2 => exact .cons (Dt.dp d _ h1) (DtAll.dp ds _ h2)
end
theorem DtAll.len {N : Hp} : ∀ {ds : List PyData} {vs : List V}, DtAll N vs ds → vs.length = ds.length
  | [], _, h => by cases h; rfl
  | d :: ds, _, h => by
    cases h with
    | cons h1 h2 => rw [List.length_cons, List.length_cons, DtAll.len h2]
theorem DtAll.get {N : Hp} : ∀ {ds : List PyData} {vs : List V} {i : Nat} {v : V}, DtAll N vs ds → vs[i]? = some v → ∃ d, ds[i]? = some d ∧ Dt N v d
  | [], _, i, v, h, e => by cases h; simp at e
  | d :: ds, _, i, v, h, e => by
    cases h with
    | cons h1 h2 =>
      cases i with
      | zero =>
        simp at e
        subst e
        exact ⟨d, rfl, h1⟩
      | succ i => exact DtAll.get (i := i) h2 (by simpa using e)
theorem DtAll.snoc {N : Hp} : ∀ {ds : List PyData} {vs : List V} {d : PyData} {v : V}, DtAll N vs ds → Dt N v d → DtAll N (vs ++ [v]) (ds ++ [d])
  | [], _, d, v, h, q => by cases h; exact .cons q .nil
  | _ :: ds, _, d, v, h, q => by
    cases h with
    | cons h1 h2 => exact .cons h1 (DtAll.snoc h2 q)
/-! ### heaps apart -/
def emp : Hp := fun _ => none
/-- N stands in H', and is new beside H -/
structure Fresh (H H' N : Hp) : Prop where
  sub : Same N H'
  new : ∀ b o, N b = some o → H b = none
theorem fresh_emp {H H' : Hp} : Fresh H H' emp := ⟨fun _ _ e => (nomatch e), fun _ _ e => (nomatch e)⟩
theorem Fresh.upd {H H' N : Hp} {p : Addr} {o : HO} (F : Fresh H H' N) (hp : H p = none) (h' : H' p = some o) : Fresh H H' (upd N p o) := by
  refine ⟨fun b u e => ?_, fun b u e => ?_⟩
  · by_cases hb : b = p
    · subst hb
      rw [upd_same] at e
      cases e
      exact h'
    · rw [upd_ne hb] at e
      exact F.sub b u e
  · by_cases hb : b = p
    · subst hb
      exact hp
    · rw [upd_ne hb] at e
      exact F.new b u e
def uni (N M : Hp) : Hp := fun b => match N b with
  | some o => some o
  | none => M b
theorem uni_l {N M : Hp} : Same N (uni N M) := fun b o e => by
  unfold uni
  rw [e]
theorem uni_r {N M : Hp} (d : ∀ b o, M b = some o → N b = none) : Same M (uni N M) := fun b o e => by
  unfold uni
  rw [d b o e]
  exact e
theorem uni_or {N M : Hp} {b : Addr} {o : HO} (e : uni N M b = some o) : N b = some o ∨ M b = some o := by
  unfold uni at e
  cases h : N b with
  | some u =>
    rw [h] at e
    exact .inl e
  | none =>
    rw [h] at e
    exact .inr e
theorem same_upd {H : Hp} {p : Addr} {o : HO} (h : H p = none) : Same H (upd H p o) := fun b u e => by
  rw [upd_ne (ne_of_none e h)]
  exact e
theorem same_upd2 {H H1 : Hp} {p : Addr} {o : HO} (x : Same H H1) (h : H1 p = none) : Same H (upd H1 p o) := L2.Same.trans x (same_upd h)
/-- what H does not track may change -/
theorem same_mut {H H1 : Hp} {p : Addr} {o : HO} (x : Same H H1) (h : H p = none) : Same H (upd H1 p o) := fun b u e => by
  rw [upd_ne (ne_of_none e h)]
  exact x b u e
theorem Kp2.same {a b : Addr} {H H' B : Hp} (k : Kp2 a b H H') (s : Same B H) (ha : B a = none) (hb : B b = none) : Same B H' := fun q o e =>
  k q o (s q o e) (ne_of_none e ha) (ne_of_none e hb)
theorem Strm.keep {H H' : Hp} {st cl : Addr} {n : Nat} (S : Strm H st cl n) (e : Same H H') : Strm H' st cl n := by
  obtain ⟨c, a, ns, h1, h2, h3⟩ := S.ex
  exact ⟨c, a, ns, e _ _ h1, e _ _ h2, h3⟩
theorem Kp2.of_same {a b : Addr} {H H' : Hp} (e : Same H H') : Kp2 a b H H' := fun q o h _ _ => e q o h
theorem Kp2.trans {a b : Addr} {H H1 H2 : Hp} (x : Kp2 a b H H1) (y : Kp2 a b H1 H2) : Kp2 a b H H2 := fun q o e n1 n2 => y q o (x q o e n1 n2) n1 n2
theorem Strm.st {H : Hp} {st cl : Addr} {n : Nat} (S : Strm H st cl n) : ∃ o, H st = some o := by
  obtain ⟨c, a, ns, h1, _⟩ := S.ex
  exact ⟨_, h1⟩
theorem Strm.cl {H : Hp} {st cl : Addr} {n : Nat} (S : Strm H st cl n) : ∃ o, H cl = some o := by
  obtain ⟨c, a, ns, _, h2, _⟩ := S.ex
  exact ⟨_, h2⟩
/-! ### start, pick -/
def spStart (K : PySem.W.Frag) : Sp := fun vs H Q _ => ∃ (a : Addr) (ns : List Int), vs = [.ref a] ∧ SqL K H a (ns.map V.int) ∧ ∀ (st cl : Addr) (H' : Hp), H st = none → H cl = none → Same H H' → Strm H' st cl 0 → Q (.ref st) H'
def spPick : Sp := fun vs H Q _ => ∃ (st cl : Addr) (n : Nat) (a : Addr) (xs : List V), vs = [.ref st, .ref a] ∧ Strm H st cl n ∧ H a = some (.lst xs) ∧ a ≠ st ∧ a ≠ cl ∧ xs ≠ [] ∧ xs.length < 1000 ∧ n ≤ 100000 ∧
  ∀ (x : V) (H' : Hp), x ∈ xs → Strm H' st cl (n + 1) → Kp2 st cl H H' → Q x H'
section
variable {P : Program} {w : World} {K : PySem.W.Frag} {mg : Str → Option Value} {base : Heap}
theorem scStart : FnScope ["_law_script"] ["_law_script"] (defScope sStart) := ⟨rfl, rfl, rfl, by decide +kernel, rfl, by decide +kernel, by decide +kernel⟩
theorem ok_start {f : Addr} {fd : FuncData} (F : Fun K "_law_start" "_law_start" sStart f fd) (T : TxtB mg) : FnOk P w K mg base CX0 1 f fd ["_law_script"] (spStart K) := by
  refine F.ok scStart (fun vs H Q E h => ?_) (fun cdv A outer s H vs Q E hr h => ?_)
  · obtain ⟨a, ns, rfl, _⟩ := h
    rfl
  · obtain ⟨a, ns, rfl, hS, k⟩ := h
    refine ⟨_, pss_one (ps_ret (pe_lst (pa_cons (pe_callTy call_list_of (by rfl) T.list (by decide +kernel) (pa_cons (pv 0) pa_nil)) (pa_cons pe_int (pa_cons pe_int (pa_cons pe_int pa_nil)))))), ?_⟩
    refine ⟨_, rfl, a, _, rfl, .inl hS, fun cl hc => ⟨(by show 4 ≤ sizeLine; decide), fun st hs => ?_⟩⟩
    have nc : cl ≠ st := ne_of_none upd_same hs
    have hs0 : H st = none := by
      rw [upd_ne nc.symm] at hs
      exact hs
    exact k st cl _ hs0 hc (same_upd2 (same_upd hc) hs) ⟨0, 0, ns, upd_same, by rw [upd_ne nc, upd_same], by decide, by decide, by decide⟩
theorem scPick : FnScope ["_law_stream", "_law_some"] ["_law_stream", "_law_some"] (defScope sPick) := ⟨rfl, rfl, rfl, by decide +kernel, rfl, by decide +kernel, by decide +kernel⟩
theorem ok_pick {f fD : Addr} {fd fdD : FuncData} (F : Fun K "_law_pick" "_law_pick" sPick f fd) (T : TxtB mg) (G : FnOk P w K mg base CX0 1 fD fdD ["_law_stream", "_law_many"] spDraw) (mD : mg "_law_draw" = some (.ref fD)) (kD : PySem.W.keepIn K (.ref fD) = true) (bD : Binds K fdD ["_law_stream", "_law_many"] []) :
    FnOk P w K mg base CX0 2 f fd ["_law_stream", "_law_some"] spPick := by
  refine F.ok scPick (fun vs H Q E h => ?_) (fun cdv A outer s H vs Q E hr h => ?_)
  · obtain ⟨st, cl, n, a, xs, rfl, _⟩ := h
    rfl
  · obtain ⟨st, cl, n, a, xs, rfl, S, ha, n1, n2, x0, xl, hn, k⟩ := h
    refine ⟨_, pss_one (ps_ret (pe_ix ix_list (pv 1) (pe_call G hr rfl mD kD bD .nil pass0 (pa_cons (pv 0) (pa_cons (pe_callB call_len_seq (by rfl) T.len PySem.boot_len (pa_cons (pv 1) pa_nil)) pa_nil))) (fun _ _ => rfl))), ?_⟩
    have hx : 0 < xs.length := List.length_pos_iff.mpr x0
    refine ⟨_, rfl, _, rfl, _, rfl, a, xs, rfl, .inl (SqL.of ha), st, cl, n, (xs.length : Int), rfl, S, by omega, by omega, hn, fun j H' j0 j1 S' kk => ?_⟩
    have hj : j.toNat < xs.length := by omega
    have ej : ((j.toNat : Nat) : Int) = j := by omega
    refine ⟨a, xs, j, xs[j.toNat], rfl, rfl, SqL.of (kk _ _ ha n1 n2), ?_, k _ _ (List.getElem_mem hj) S' kk⟩
    have q := atI_nat (xs := xs) (j := j.toNat) (List.getElem?_eq_getElem hj)
    rw [ej] at q
    exact q
end
end K67

namespace K67
open PySem L2
/-! ### copied -/
mutual
def small : PyData → Bool
  | .list xs => decide (xs.length ≤ 1000) && smallAll xs
  | .tuple xs => decide (xs.length ≤ 1000) && smallAll xs
  | _ => true
def smallAll : List PyData → Bool
  | [] => true
  | x :: xs => small x && smallAll xs
end
theorem smallAll_get : ∀ {ds : List PyData} {i : Nat} {d : PyData}, smallAll ds = true → ds[i]? = some d → small d = true
  | [], i, d, _, e => by simp at e
  | x :: xs, i, d, h, e => by
    simp only [smallAll, Bool.and_eq_true] at h
    cases i with
    | zero =>
      simp at e
      subst e
      exact h.1
    | succ i => exact smallAll_get h.2 (by simpa using e)
theorem depthAll_get : ∀ {ds : List PyData} {i : Nat} {d : PyData}, ds[i]? = some d → PyData.depth d ≤ PyData.depthAll ds
  | [], i, d, e => by simp at e
  | x :: xs, i, d, e => by
    simp only [PyData.depthAll]
    cases i with
    | zero =>
      simp at e
      subst e
      omega
    | succ i =>
      have := depthAll_get (ds := xs) (i := i) (d := d) (by simpa using e)
      omega
/-- copied(v), v of nesting below m -/
def spCop : Nat → Sp
  | 0 => fun _ _ _ _ => False
  | m + 1 => fun vs H Q _ => ∃ (v : V) (d : PyData), vs = [v] ∧ Dt H v d ∧ PyData.depth d ≤ m ∧ small d = true ∧ ∀ (v' : V) (N H' : Hp), Same H H' → Fresh H H' N → Dt N v' d → Q v' H'
theorem cop_child {m : Nat} {ds : List PyData} {i : Nat} {d : PyData} (dep : PyData.depth (.list ds) ≤ m) (sz : small (.list ds) = true) (e : ds[i]? = some d) : PyData.depth d + 1 ≤ m ∧ small d = true := by
  simp only [small, Bool.and_eq_true] at sz
  have := depthAll_get e
  simp only [PyData.depth] at dep
  exact ⟨by omega, smallAll_get sz.2 e⟩
theorem cop_child' {m : Nat} {ds : List PyData} {i : Nat} {d : PyData} (dep : PyData.depth (.tuple ds) ≤ m) (sz : small (.tuple ds) = true) (e : ds[i]? = some d) : PyData.depth d + 1 ≤ m ∧ small d = true := by
  simp only [small, Bool.and_eq_true] at sz
  have := depthAll_get e
  simp only [PyData.depth] at dep
  exact ⟨by omega, smallAll_get sz.2 e⟩
theorem cop_size {ds : List PyData} (sz : small (.list ds) = true) : ds.length ≤ 1000 := by
  simp only [small, Bool.and_eq_true] at sz
  simpa using sz.1
theorem cop_size' {ds : List PyData} (sz : small (.tuple ds) = true) : ds.length ≤ 1000 := by
  simp only [small, Bool.and_eq_true] at sz
  simpa using sz.1
theorem sz_lt1 {n i : Nat} (e : n = i) (h : i < 1001) : n < sizeLine := by
  rw [e, PySem.sizeLine_eq]
  omega
/-- behind i items of a copying comprehension: at D the copies, whose parts stand in N -/
def CopI (H : Hp) (D : Addr) (ds : List PyData) (i : Nat) (H' : Hp) : Prop := Same H H' ∧ ∃ (ys : List V) (N : Hp), H' D = some (.lst ys) ∧ N D = none ∧ Fresh H H' N ∧ DtAll N ys (ds.take i)
theorem copI0 {H : Hp} {D : Addr} {ds : List PyData} (hD : H D = none) : CopI H D ds 0 (upd H D (.lst [])) := ⟨same_upd hD, [], emp, upd_same, rfl, fresh_emp, .nil⟩
theorem take_more' {α : Type} : ∀ {l : List α} {i : Nat} {x : α}, l[i]? = some x → l.take (i + 1) = l.take i ++ [x]
  | [], i, x, h => by simp at h
  | a :: l, 0, x, h => by
    have e : a = x := Option.some.inj h
    subst e
    rfl
  | a :: l, i + 1, x, h => by
    have ih := take_more' (l := l) (i := i) (x := x) h
    show a :: l.take (i + 1) = a :: l.take i ++ [x]
    rw [ih]
    rfl
theorem copI_step {H H' H2 N : Hp} {D : Addr} {ds : List PyData} {i : Nat} {dx : PyData} {v' : V} (hD : H D = none) (hdx : ds[i]? = some dx) (h : CopI H D ds i H') (e2 : Same H' H2) (F2 : Fresh H' H2 N) (t2 : Dt N v' dx) :
    ∃ (ys : List V) (N0 : Hp), H2 D = some (.lst ys) ∧ ys.length = i ∧ CopI H D ds (i + 1) (upd H2 D (.lst (ys ++ [v']))) := by
  obtain ⟨s1, ys, N0, hy, nD, F1, t1⟩ := h
  have hlen : i < ds.length := (List.getElem?_eq_some_iff.mp hdx).1
  have hl : ys.length = i := by
    rw [t1.len, List.length_take]
    omega
  have ap : ∀ b o, N b = some o → N0 b = none := fun b o e => by
    have z := F2.new b o e
    cases q : N0 b with
    | none => rfl
    | some u =>
      rw [F1.sub b u q] at z
      cases z
  have nND : N D = none := by
    cases q : N D with
    | none => rfl
    | some u =>
      have z := F2.new D u q
      rw [hy] at z
      cases z
  refine ⟨ys, N0, e2 _ _ hy, hl, same_mut (s1.trans e2) hD, ys ++ [v'], uni N0 N, upd_same, ?_, ⟨fun b o e => ?_, fun b o e => ?_⟩, ?_⟩
  · unfold uni
    rw [nD]
    exact nND
  · have hb : b ≠ D := fun z => by
      rw [z] at e
      rcases uni_or e with q | q
      · rw [nD] at q
        cases q
      · rw [nND] at q
        cases q
    rw [upd_ne hb]
    rcases uni_or e with q | q
    · exact e2 _ _ (F1.sub b o q)
    · exact F2.sub b o q
  · rcases uni_or e with q | q
    · exact F1.new b o q
    · exact Same.free s1 (F2.new b o q)
  · rw [take_more' hdx]
    exact (DtAll.mono uni_l _ _ t1).snoc (Dt.mono (uni_r ap) _ _ t2)
theorem copI_end {H H' : Hp} {D : Addr} {ds : List PyData} {n : Nat} (hn : n = ds.length) (h : CopI H D ds n H') : Same H H' ∧ ∃ (ys : List V) (N : Hp), H' D = some (.lst ys) ∧ N D = none ∧ Fresh H H' N ∧ DtAll N ys ds := by
  obtain ⟨s1, ys, N0, hy, nD, F1, t1⟩ := h
  rw [hn, List.take_length] at t1
  exact ⟨s1, ys, N0, hy, nD, F1, t1⟩
section
variable {P : Program} {w : World} {K : PySem.W.Frag} {mg : Str → Option Value} {base : Heap}

theorem scCop : FnScope ["value", "part"] ["value"] (defScope sCop) := ⟨rfl, rfl, rfl, by decide +kernel, rfl, by decide +kernel, by decide +kernel⟩
theorem stepCop {f : Addr} {fd : FuncData} {m : Nat} (F : Fun K "copied" "copied" sCop f fd) (T : TxtB mg) (G : FnOk P w K mg base CX0 (m + 1) f fd ["value"] (spCop m)) (mC : mg "copied" = some (.ref f)) (kC : PySem.W.keepIn K (.ref f) = true) (bC : Binds K fd ["value"] []) :
    FnOk P w K mg base CX0 (m + 2) f fd ["value"] (spCop (m + 1)) := by
  refine F.ok scCop (fun vs H Q E h => ?_) (fun cdv A outer s H vs Q E hr h => ?_)
  · obtain ⟨v, d, rfl, _⟩ := h
    rfl
  · obtain ⟨v, d, rfl, hd, dep, sz, k⟩ := h
    refine ⟨_, pss_cons (ps_if (pt_val (pe_callB call_isi (by rfl) T.isinstance (by decide +kernel) (pa_cons (pv 0) (pa_cons (pe_bltn (v := .ty "list") (by rfl) T.list (by decide +kernel) rfl) pa_nil))))
        (pss_one (ps_ret (pe_lc (own := [("part", 1)]) (g := gName 1) (tt := tYes) rfl scCop.nd (pi_list (pv 0)) (blkOk_by (N := ["value", "part"]) (sc := defScope sCop) (by decide +kernel)) (fun _ _ _ _ _ => pg_name (i := 1) scCop.nd rfl (Or.inl rfl)) (fun _ _ _ _ _ => pts_nil) (fun _ _ _ _ _ => pe_call G hr rfl mC kC bC .nil pass0 (pa_cons (pv 1) pa_nil))))) pss_nil)
      (pss_one (ps_ret (pe_ifExp (pt_val (pe_callB call_isi (by rfl) T.isinstance (by decide +kernel) (pa_cons (pv 0) (pa_cons (pe_bltn (v := .ty "tuple") (by rfl) T.tuple (by decide +kernel) rfl) pa_nil))))
        (pe_callTy call_tuple_of (by rfl) T.tuple (by decide +kernel) (pa_cons (pe_lc (own := [("part", 1)]) (g := gName 1) (tt := tYes) rfl scCop.nd (pi_tup (pv 0)) (blkOk_by (N := ["value", "part"]) (sc := defScope sCop) (by decide +kernel)) (fun _ _ _ _ _ => pg_name (i := 1) scCop.nd rfl (Or.inl rfl)) (fun _ _ _ _ _ => pts_nil) (fun _ _ _ _ _ => pe_call G hr rfl mC kC bC .nil pass0 (pa_cons (pv 1) pa_nil))) pa_nil))
        (pv 0)))), ?_⟩
    -- isinstance(value, list)
    cases hd with
    | non => exact ⟨_, rfl, _, .ty "list", _, _, false, rfl, .ty _, .base (.non), kit_ty (by decide +kernel), _, rfl, iteF ⟨_, rfl, _, .ty "tuple", _, _, false, rfl, .ty _, .base (.non), kit_ty (by decide +kernel), _, rfl, iteF ⟨_, rfl, k _ emp H (Same.refl H) fresh_emp (.non)⟩⟩⟩
    | bl b => exact ⟨_, rfl, _, .ty "list", _, _, false, rfl, .ty _, .base (.bl b), kit_ty (by decide +kernel), _, rfl, iteF ⟨_, rfl, _, .ty "tuple", _, _, false, rfl, .ty _, .base (.bl b), kit_ty (by decide +kernel), _, rfl, iteF ⟨_, rfl, k _ emp H (Same.refl H) fresh_emp (.bl b)⟩⟩⟩
    | int i => exact ⟨_, rfl, _, .ty "list", _, _, false, rfl, .ty _, .base (.int i), kit_ty (by decide +kernel), _, rfl, iteF ⟨_, rfl, _, .ty "tuple", _, _, false, rfl, .ty _, .base (.int i), kit_ty (by decide +kernel), _, rfl, iteF ⟨_, rfl, k _ emp H (Same.refl H) fresh_emp (.int i)⟩⟩⟩
    | str x => exact ⟨_, rfl, _, .ty "list", _, _, false, rfl, .ty _, .base (.str x), kit_ty (by decide +kernel), _, rfl, iteF ⟨_, rfl, _, .ty "tuple", _, _, false, rfl, .ty _, .base (.str x), kit_ty (by decide +kernel), _, rfl, iteF ⟨_, rfl, k _ emp H (Same.refl H) fresh_emp (.str x)⟩⟩⟩
    | @lst a xs ds ha hds =>
      refine ⟨_, rfl, .ref a, .ty "list", _, _, true, rfl, .ty _, .base (.lst ha), kit_ty (by decide +kernel), _, rfl, iteT ?_⟩
      refine ⟨_, rfl, a, rfl, ⟨_, SqL.of ha⟩, fun D hD => ?_⟩
      refine lc_list (K := K) (a := a) (xs := xs) (CopI H D ds) (copI0 hD) (fun i H' _ h => SqL.of (h.1 _ _ ha)) (fun i x H' hx h => ?_) (fun H' h => ?_)
      · obtain ⟨dx, hdx, hx'⟩ := hds.get hx
        obtain ⟨d0, s0⟩ := cop_child dep sz hdx
        obtain ⟨m', rfl⟩ : ∃ m', m = m' + 1 := ⟨m - 1, by omega⟩
        refine ⟨rfl, _, rfl, x, dx, rfl, Dt.mono h.1 _ _ hx', by omega, s0, fun v' N H2 e2 F2 t2 => ?_⟩
        obtain ⟨ys, N0, h1, h2⟩ := copI_step hD hdx h e2 F2 t2
        exact ⟨ys, h1, by have := (List.getElem?_eq_some_iff.mp hx).1; have := hds.len; have := cop_size sz; exact sz_lt1 h2.1 (by omega), h2.2⟩
      · obtain ⟨s1, ys, N, hy, hl, F1, t1⟩ := copI_end hds.len h
        exact k (.ref D) (upd N D (.lst ys)) H' s1 (F1.upd hD hy) (.lst upd_same (DtAll.mono (same_upd hl) _ _ t1))
    | @tup a xs ds ha hds =>
      refine ⟨_, rfl, .ref a, .ty "list", _, _, false, rfl, .ty _, .base (.tup ha), kit_ty (by decide +kernel), _, rfl, iteF ?_⟩
      refine ⟨_, rfl, .ref a, .ty "tuple", _, _, true, rfl, .ty _, .base (.tup ha), kit_ty (by decide +kernel), _, rfl, iteT ?_⟩
      refine ⟨_, rfl, a, rfl, ⟨_, SqT.of ha⟩, fun D hD => ?_⟩
      refine lc_tup (K := K) (a := a) (xs := xs) (CopI H D ds) (copI0 hD) (fun i H' _ h => SqT.of (h.1 _ _ ha)) (fun i x H' hx h => ?_) (fun H' h => ?_)
      · obtain ⟨dx, hdx, hx'⟩ := hds.get hx
        obtain ⟨d0, s0⟩ := cop_child' dep sz hdx
        obtain ⟨m', rfl⟩ : ∃ m', m = m' + 1 := ⟨m - 1, by omega⟩
        refine ⟨rfl, _, rfl, x, dx, rfl, Dt.mono h.1 _ _ hx', by omega, s0, fun v' N H2 e2 F2 t2 => ?_⟩
        obtain ⟨ys, N0, h1, h2⟩ := copI_step hD hdx h e2 F2 t2
        exact ⟨ys, h1, by have := (List.getElem?_eq_some_iff.mp hx).1; have := hds.len; have := cop_size' sz; exact sz_lt1 h2.1 (by omega), h2.2⟩
      · obtain ⟨s1, ys, N, hy, hl, F1, t1⟩ := copI_end hds.len h
        refine ⟨D, ys, rfl, .inl ⟨SqL.of hy, fun l hl2 => ?_⟩⟩
        have nDl : N l = none := by
          cases e : N l with
          | none => rfl
          | some o =>
            rw [F1.sub _ _ e] at hl2
            cases hl2
        exact k (.ref l) (upd N l (.tup ys)) _ (same_upd2 s1 hl2) (Fresh.upd ⟨F1.sub.trans (same_upd hl2), F1.new⟩ (Same.free s1 hl2) upd_same) (.tup upd_same (DtAll.mono (same_upd nDl) _ _ t1))
theorem okCop {f : Addr} {fd : FuncData} (F : Fun K "copied" "copied" sCop f fd) (T : TxtB mg) (mC : mg "copied" = some (.ref f)) (kC : PySem.W.keepIn K (.ref f) = true) (bC : Binds K fd ["value"] []) :
    ∀ m, FnOk P w K mg base CX0 (m + 1) f fd ["value"] (spCop m)
  | 0 => ⟨fun _ _ _ _ h => h.elim, fun _ _ _ _ _ _ _ _ _ _ _ _ _ h => h.elim⟩
  | m + 1 => stepCop F T (okCop F T mC kC bC m) mC kC bC

end
end K67

namespace K67
open PySem L2
/-- the same data read twice, of nesting below m -/
def spSame : Nat → Sp
  | 0 => fun _ _ _ _ => False
  | m + 1 => fun vs H Q _ => ∃ (x y : V) (d : PyData), vs = [x, y] ∧ Dt H x d ∧ Dt H y d ∧ PyData.depth d ≤ m ∧ small d = true ∧ ∀ (H' : Hp), Same H H' → Q (.bl true) H'
theorem walk_zipT {K : PySem.W.Frag} {a b : Addr} {xs ys : List V} {n : Nat} (hn : n = min xs.length ys.length) : Walk (RZ.ItzT K a b) n (fun H => SqT K H a xs ∧ SqT K H b ys) (YPair (fun i => xs[i]?) (fun i => ys[i]?)) := by
  subst hn
  refine ⟨fun i _ hi q => ?_, fun _ q => ⟨xs, ys, q.1, q.2, by omega⟩, fun i H v H' _ q y => ?_⟩
  · exact ⟨xs, ys, xs[i], ys[i], q.1, q.2, by rw [List.getElem?_eq_getElem], by rw [List.getElem?_eq_getElem]⟩
  · obtain ⟨T, x, z, h1, h2, h3, h4, h5⟩ := y
    exact ⟨T, x, z, h1, h2, h3, h4 xs q.1, h5 ys q.2⟩
theorem all_true (n : Nat) : (List.replicate n true).all id = true := by
  rw [List.all_eq_true]
  intro x hx
  exact (List.mem_replicate.mp hx).2
theorem DtAll.at {N : Hp} : ∀ {ds : List PyData} {vs : List V} {i : Nat} {d : PyData}, DtAll N vs ds → ds[i]? = some d → ∃ v, vs[i]? = some v ∧ Dt N v d
  | [], _, i, v, h, e => by simp at e
  | d :: ds, _, i, v, h, e => by
    cases h with
    | cons h1 h2 =>
      cases i with
      | zero =>
        simp at e
        subst e
        exact ⟨_, rfl, h1⟩
      | succ i => exact DtAll.at (i := i) h2 (by simpa using e)
def kitsB (a : String) : List String → Option Bool
  | [] => some false
  | c :: cs => match kitB a c with
    | some true => some true
    | some false => kitsB a cs
    | none => none
theorem kits {K : PySem.W.Frag} {a : String} : ∀ {cs : List String} {r : Bool}, kitsB a cs = some r → PySem.W.kitAny K (.type a) (cs.map Value.type) = some r
  | [], r, h => by
    cases h
    exact kitAny_nil
  | c :: cs, r, h => by
    unfold kitsB at h
    cases e : kitB a c with
    | none =>
      rw [e] at h
      cases h
    | some b =>
      rw [e] at h
      cases b with
      | true =>
        cases h
        exact kitAny_cons (kit_ty e) (fun z => by cases z) (fun _ => rfl)
      | false => exact kitAny_cons (kit_ty e) (fun _ => kits h) (fun z => by cases z)
/-- at D so many True -/
def AllT (H : Hp) (D : Addr) (i : Nat) (H' : Hp) : Prop := Same H H' ∧ H' D = some (.lst ((List.replicate i true).map V.bl))
section
variable {P : Program} {w : World} {K : PySem.W.Frag} {mg : Str → Option Value} {base : Heap}
abbrev nSame : List Str := ["_law_found", "_law_due_here", "_law_one", "_law_other"]
theorem scSame : FnScope nSame ["_law_found", "_law_due_here"] (defScope sSame) := ⟨rfl, rfl, rfl, by decide +kernel, rfl, by decide +kernel, by decide +kernel⟩
theorem stepSame {f : Addr} {fd : FuncData} {m : Nat} (F : Fun K "_law_same" "_law_same" sSame f fd) (T : TxtB mg) (G : FnOk P w K mg base CX0 (m + 1) f fd ["_law_found", "_law_due_here"] (spSame m)) (mC : mg "_law_same" = some (.ref f)) (kC : PySem.W.keepIn K (.ref f) = true) (bC : Binds K fd ["_law_found", "_law_due_here"] []) :
    FnOk P w K mg base CX0 (m + 2) f fd ["_law_found", "_law_due_here"] (spSame (m + 1)) := by
  refine F.ok scSame (fun vs H Q E h => ?_) (fun cdv A outer s H vs Q E hr h => ?_)
  · obtain ⟨x, y, d, rfl, _⟩ := h
    rfl
  · obtain ⟨x, y, d, rfl, hx, hy, dep, sz, k⟩ := h
    refine ⟨_, pss_cons (ps_if (pt_val (pe_callB call_isiT (by rfl) T.isinstance (by decide +kernel) (pa_cons (pv 1) (pa_cons (pe_tup (pa_cons (pe_bltn (v := .ty "list") (by rfl) T.list (by decide +kernel) rfl) (pa_cons (pe_bltn (v := .ty "tuple") (by rfl) T.tuple (by decide +kernel) rfl) pa_nil))) pa_nil))))
        (pss_cons (ps_if (PW.pt (pw_or (pt_cmpR op_ne (pe_callB call_isi (by rfl) T.isinstance (by decide +kernel) (pa_cons (pv 0) (pa_cons (pe_bltn (v := .ty "list") (by rfl) T.list (by decide +kernel) rfl) pa_nil))) (pe_callB call_isi (by rfl) T.isinstance (by decide +kernel) (pa_cons (pv 1) (pa_cons (pe_bltn (v := .ty "list") (by rfl) T.list (by decide +kernel) rfl) pa_nil))) (nomark _))
            (pw_or1 (pt_cmpR op_ne (pe_callB call_isi (by rfl) T.isinstance (by decide +kernel) (pa_cons (pv 0) (pa_cons (pe_bltn (v := .ty "tuple") (by rfl) T.tuple (by decide +kernel) rfl) pa_nil))) (pe_callB call_isi (by rfl) T.isinstance (by decide +kernel) (pa_cons (pv 1) (pa_cons (pe_bltn (v := .ty "tuple") (by rfl) T.tuple (by decide +kernel) rfl) pa_nil))) (nomark _)))))
          (pss_one (ps_ret pe_bl)) pss_nil)
        (pss_one (ps_ret (pe_and (pe_cmpR op_eq (pe_callB call_len_seq (by rfl) T.len PySem.boot_len (pa_cons (pv 0) pa_nil)) (pe_callB call_len_seq (by rfl) T.len PySem.boot_len (pa_cons (pv 1) pa_nil)) (nomark _))
          (pe_one (pe_callB (cr_all rfl) (by rfl) T.all (by decide +kernel) (pa_cons
            (pe_lc (own := [("_law_one", 2), ("_law_other", 3)]) (g := gTup K 2 (gCons (gName 2) (gCons (gName 3) gNil))) (tt := tYes) rfl scSame.nd (RZ.pi_zipA (by rfl) T.zip (pa_cons (pv 0) (pa_cons (pv 1) pa_nil))) (blkOk_by (N := nSame) (sc := defScope sSame) (by decide +kernel)) (fun _ _ _ _ _ => pg_tup rfl (pgs_cons (pg_name (i := 2) scSame.nd rfl (Or.inl rfl)) (pgs_cons (pg_name (i := 3) scSame.nd rfl (Or.inl rfl)) pgs_nil))) (fun _ _ _ _ _ => pts_nil) (fun _ _ _ _ _ => pe_call G hr rfl mC kC bC .nil pass0 (pa_cons (pv 2) (pa_cons (pv 3) pa_nil)))) pa_nil))))))) pss_nil)
      (pss_cons (ps_if (pt_val (pe_callB call_isi (by rfl) T.isinstance (by decide +kernel) (pa_cons (pv 1) (pa_cons (pe_bltn (v := .ty "int") (by rfl) T.int (by decide +kernel) rfl) pa_nil))))
        (pss_one (ps_ret (pe_and (pe_callB call_isi (by rfl) T.isinstance (by decide +kernel) (pa_cons (pv 0) (pa_cons (pe_bltn (v := .ty "int") (by rfl) T.int (by decide +kernel) rfl) pa_nil)))
          (pe_and (pe_cmpR op_eq (pe_callB call_isi (by rfl) T.isinstance (by decide +kernel) (pa_cons (pv 0) (pa_cons (pe_bltn (v := .ty "bool") (by rfl) T.bool (by decide +kernel) rfl) pa_nil))) (pe_callB call_isi (by rfl) T.isinstance (by decide +kernel) (pa_cons (pv 1) (pa_cons (pe_bltn (v := .ty "bool") (by rfl) T.bool (by decide +kernel) rfl) pa_nil))) (nomark _))
          (pe_one (pe_cmpR op_eq (pv 0) (pv 1) (nomark _))))))) pss_nil)
      (pss_one (ps_ret (pe_and (pe_cmpR op_eq (pv 0) (pv 1) (nomark _)) (pe_one (pe_cmpR op_isBl (pe_callB call_isiT (by rfl) T.isinstance (by decide +kernel) (pa_cons (pv 0) (pa_cons (pe_tup (pa_cons (pe_bltn (v := .ty "int") (by rfl) T.int (by decide +kernel) rfl) (pa_cons (pe_bltn (v := .ty "list") (by rfl) T.list (by decide +kernel) rfl) (pa_cons (pe_bltn (v := .ty "tuple") (by rfl) T.tuple (by decide +kernel) rfl) pa_nil)))) pa_nil))) pe_bl (nomark _))))))), ?_⟩
    cases d with
    | dict _ => cases hx
    | none =>
      cases hx
      cases hy
      refine ⟨_, rfl, (by show 2 ≤ sizeLine; decide), fun p hp => ⟨_, p, _, _, _, false, rfl, upd_same, .cons (.ty _) (.cons (.ty _) .nil), .base (.non), kits (cs := ["list", "tuple"]) (by decide +kernel), _, rfl, iteF ?_⟩⟩
      refine ⟨_, rfl, _, .ty "int", _, _, false, rfl, .ty _, .base (.non), kit_ty (by decide +kernel), _, rfl, iteF ?_⟩
      refine ⟨_, rfl, _, rfl, rfl, true, (by rw [decide_eq_true rfl]), iteT ⟨_, rfl, (by show 3 ≤ sizeLine; decide), fun p2 hp2 => ⟨_, p2, _, _, _, false, rfl, upd_same, .cons (.ty _) (.cons (.ty _) (.cons (.ty _) .nil)), .base (.non), kits (cs := ["int", "list", "tuple"]) (by decide +kernel), _, _, rfl, rfl, k _ (same_upd2 (same_upd hp) hp2)⟩⟩⟩
    | str z =>
      cases hx
      cases hy
      refine ⟨_, rfl, (by show 2 ≤ sizeLine; decide), fun p hp => ⟨_, p, _, _, _, false, rfl, upd_same, .cons (.ty _) (.cons (.ty _) .nil), .base (.str z), kits (cs := ["list", "tuple"]) (by decide +kernel), _, rfl, iteF ?_⟩⟩
      refine ⟨_, rfl, _, .ty "int", _, _, false, rfl, .ty _, .base (.str z), kit_ty (by decide +kernel), _, rfl, iteF ?_⟩
      refine ⟨_, rfl, _, rfl, rfl, true, (by rw [decide_eq_true rfl]), iteT ⟨_, rfl, (by show 3 ≤ sizeLine; decide), fun p2 hp2 => ⟨_, p2, _, _, _, false, rfl, upd_same, .cons (.ty _) (.cons (.ty _) (.cons (.ty _) .nil)), .base (.str z), kits (cs := ["int", "list", "tuple"]) (by decide +kernel), _, _, rfl, rfl, k _ (same_upd2 (same_upd hp) hp2)⟩⟩⟩
    | bool q =>
      cases hx
      cases hy
      refine ⟨_, rfl, (by show 2 ≤ sizeLine; decide), fun p hp => ⟨_, p, _, _, _, false, rfl, upd_same, .cons (.ty _) (.cons (.ty _) .nil), .base (.bl q), kits (cs := ["list", "tuple"]) (by decide +kernel), _, rfl, iteF ?_⟩⟩
      refine ⟨_, rfl, _, .ty "int", _, _, true, rfl, .ty _, .base (.bl q), kit_ty (by decide +kernel), _, rfl, iteT ?_⟩
      refine ⟨_, rfl, _, .ty "int", _, _, true, rfl, .ty _, .base (.bl q), kit_ty (by decide +kernel), true, rfl, iteT ⟨_, rfl, _, .ty "bool", _, _, true, rfl, .ty _, .base (.bl q), kit_ty (by decide +kernel), _, rfl, _, .ty "bool", _, _, true, rfl, .ty _, .base (.bl q), kit_ty (by decide +kernel), rfl, true, (by rw [decide_eq_true rfl]), iteT ⟨_, rfl, _, rfl, rfl, ?_⟩⟩⟩
      rw [decide_eq_true rfl]
      exact k _ (same_upd hp)
    | int i =>
      cases hx
      cases hy
      refine ⟨_, rfl, (by show 2 ≤ sizeLine; decide), fun p hp => ⟨_, p, _, _, _, false, rfl, upd_same, .cons (.ty _) (.cons (.ty _) .nil), .base (.int i), kits (cs := ["list", "tuple"]) (by decide +kernel), _, rfl, iteF ?_⟩⟩
      refine ⟨_, rfl, _, .ty "int", _, _, true, rfl, .ty _, .base (.int i), kit_ty (by decide +kernel), _, rfl, iteT ?_⟩
      refine ⟨_, rfl, _, .ty "int", _, _, true, rfl, .ty _, .base (.int i), kit_ty (by decide +kernel), true, rfl, iteT ⟨_, rfl, _, .ty "bool", _, _, false, rfl, .ty _, .base (.int i), kit_ty (by decide +kernel), _, rfl, _, .ty "bool", _, _, false, rfl, .ty _, .base (.int i), kit_ty (by decide +kernel), rfl, true, (by rw [decide_eq_true rfl]), iteT ⟨_, rfl, _, rfl, rfl, ?_⟩⟩⟩
      rw [decide_eq_true rfl]
      exact k _ (same_upd hp)
    | list ds =>
      cases hx
      cases hy
      rename_i a xs ha hxs b ys hb hys
      refine ⟨_, rfl, (by show 2 ≤ sizeLine; decide), fun p hp => ⟨_, p, _, _, _, true, rfl, upd_same, .cons (.ty _) (.cons (.ty _) .nil), .base (.lst (same_upd hp _ _ hb)), kits (cs := ["list", "tuple"]) (by decide +kernel), _, rfl, iteT ?_⟩⟩
      have s1 := same_upd hp (o := .tup [.ty "list", .ty "tuple"])
      generalize upd H p (.tup [.ty "list", .ty "tuple"]) = H1 at s1
      have ha1 := s1 _ _ ha
      have hb1 := s1 _ _ hb
      refine ⟨_, rfl, _, .ty "list", _, _, true, rfl, .ty _, .base (.lst ha1), kit_ty (by decide +kernel), _, rfl, _, .ty "list", _, _, true, rfl, .ty _, .base (.lst hb1), kit_ty (by decide +kernel), rfl, false, rfl, iteF ?_⟩
      refine ⟨_, rfl, _, .ty "tuple", _, _, false, rfl, .ty _, .base (.lst ha1), kit_ty (by decide +kernel), _, rfl, _, .ty "tuple", _, _, false, rfl, .ty _, .base (.lst hb1), kit_ty (by decide +kernel), rfl, false, rfl, iteF ?_⟩
      have l1 := hxs.len
      have l2 := hys.len
      refine ⟨_, rfl, a, xs, rfl, Or.inl (SqL.of ha1), _, rfl, b, ys, rfl, Or.inl (SqL.of hb1), rfl, true, (by rw [l1, l2, decide_eq_true rfl]), iteT ?_⟩
      refine ⟨_, rfl, _, rfl, a, b, xs, ys, rfl, Or.inl ⟨SqL.of ha1, SqL.of hb1, fun D hD => ?_⟩⟩
      refine lc_it (walk_zip (n := ds.length) (by omega)) (AllT H1 D) ⟨same_upd hD, upd_same⟩ (fun i H' _ h => ⟨SqL.of (h.1 _ _ ha1), SqL.of (h.1 _ _ hb1)⟩) (fun i v H' H'' hi h y => ?_) (fun H' h => ?_)
      · obtain ⟨U, x, z, rfl, hU, rfl, hx, hz⟩ := y
        obtain ⟨dx, hdx, hx'⟩ := hxs.get hx
        obtain ⟨dz, hdz, hz'⟩ := hys.get hz
        rw [hdx] at hdz
        cases hdz
        obtain ⟨d0, s0⟩ := cop_child dep sz hdx
        obtain ⟨m', rfl⟩ : ∃ m', m = m' + 1 := ⟨m - 1, by omega⟩
        have s2 : Same H (upd H' U (.tup [x, z])) := same_upd2 (s1.trans h.1) hU
        refine ⟨U, _, rfl, SqT.of upd_same, rfl, _, _, rfl, _, _, rfl, rfl, rfl, _, rfl, _, rfl, x, z, dx, rfl, Dt.mono s2 _ _ hx', Dt.mono s2 _ _ hz', by omega, s0, fun H2 e2 => ?_⟩
        have nD : D ≠ U := ne_of_none h.2 hU
        refine ⟨_, e2 _ _ (by rw [upd_ne nD]; exact h.2), ?_, same_mut ((same_upd2 h.1 hU).trans e2) hD, ?_⟩
        · have := cop_size sz
          exact sz_lt1 (by rw [List.length_map, List.length_replicate]) (by omega)
        · rw [upd_same, List.replicate_succ', List.map_append]
          rfl
      · refine ⟨D, List.replicate ds.length true, rfl, SqL.of h.2, ?_⟩
        rw [all_true]
        exact k _ (s1.trans h.1)
    | tuple ds =>
      cases hx
      cases hy
      rename_i a xs ha hxs b ys hb hys
      refine ⟨_, rfl, (by show 2 ≤ sizeLine; decide), fun p hp => ⟨_, p, _, _, _, true, rfl, upd_same, .cons (.ty _) (.cons (.ty _) .nil), .base (.tup (same_upd hp _ _ hb)), kits (cs := ["list", "tuple"]) (by decide +kernel), _, rfl, iteT ?_⟩⟩
      have s1 := same_upd hp (o := .tup [.ty "list", .ty "tuple"])
      generalize upd H p (.tup [.ty "list", .ty "tuple"]) = H1 at s1
      have ha1 := s1 _ _ ha
      have hb1 := s1 _ _ hb
      refine ⟨_, rfl, _, .ty "list", _, _, false, rfl, .ty _, .base (.tup ha1), kit_ty (by decide +kernel), _, rfl, _, .ty "list", _, _, false, rfl, .ty _, .base (.tup hb1), kit_ty (by decide +kernel), rfl, false, rfl, iteF ?_⟩
      refine ⟨_, rfl, _, .ty "tuple", _, _, true, rfl, .ty _, .base (.tup ha1), kit_ty (by decide +kernel), _, rfl, _, .ty "tuple", _, _, true, rfl, .ty _, .base (.tup hb1), kit_ty (by decide +kernel), rfl, false, rfl, iteF ?_⟩
      have l1 := hxs.len
      have l2 := hys.len
      refine ⟨_, rfl, a, xs, rfl, Or.inr (SqT.of ha1), _, rfl, b, ys, rfl, Or.inr (SqT.of hb1), rfl, true, (by rw [l1, l2, decide_eq_true rfl]), iteT ?_⟩
      refine ⟨_, rfl, _, rfl, a, b, xs, ys, rfl, Or.inr ⟨SqT.of ha1, SqT.of hb1, fun D hD => ?_⟩⟩
      refine lc_it (walk_zipT (n := ds.length) (by omega)) (AllT H1 D) ⟨same_upd hD, upd_same⟩ (fun i H' _ h => ⟨SqT.of (h.1 _ _ ha1), SqT.of (h.1 _ _ hb1)⟩) (fun i v H' H'' hi h y => ?_) (fun H' h => ?_)
      · obtain ⟨U, x, z, rfl, hU, rfl, hx, hz⟩ := y
        obtain ⟨dx, hdx, hx'⟩ := hxs.get hx
        obtain ⟨dz, hdz, hz'⟩ := hys.get hz
        rw [hdx] at hdz
        cases hdz
        obtain ⟨d0, s0⟩ := cop_child' dep sz hdx
        obtain ⟨m', rfl⟩ : ∃ m', m = m' + 1 := ⟨m - 1, by omega⟩
        have s2 : Same H (upd H' U (.tup [x, z])) := same_upd2 (s1.trans h.1) hU
        refine ⟨U, _, rfl, SqT.of upd_same, rfl, _, _, rfl, _, _, rfl, rfl, rfl, _, rfl, _, rfl, x, z, dx, rfl, Dt.mono s2 _ _ hx', Dt.mono s2 _ _ hz', by omega, s0, fun H2 e2 => ?_⟩
        have nD : D ≠ U := ne_of_none h.2 hU
        refine ⟨_, e2 _ _ (by rw [upd_ne nD]; exact h.2), ?_, same_mut ((same_upd2 h.1 hU).trans e2) hD, ?_⟩
        · have := cop_size' sz
          exact sz_lt1 (by rw [List.length_map, List.length_replicate]) (by omega)
        · rw [upd_same, List.replicate_succ', List.map_append]
          rfl
      · refine ⟨D, List.replicate ds.length true, rfl, SqL.of h.2, ?_⟩
        rw [all_true]
        exact k _ (s1.trans h.1)
theorem okSame {f : Addr} {fd : FuncData} (F : Fun K "_law_same" "_law_same" sSame f fd) (T : TxtB mg) (mC : mg "_law_same" = some (.ref f)) (kC : PySem.W.keepIn K (.ref f) = true) (bC : Binds K fd ["_law_found", "_law_due_here"] []) :
    ∀ m, FnOk P w K mg base CX0 (m + 1) f fd ["_law_found", "_law_due_here"] (spSame m)
  | 0 => ⟨fun _ _ _ _ h => h.elim, fun _ _ _ _ _ _ _ _ _ _ _ _ _ h => h.elim⟩
  | m + 1 => stepSame F T (okSame F T mC kC bC m) mC kC bC
end
end K67

namespace K67
open PySem L2 PyProof.Rows
/-! ### a store into a field as a target -/
def gFld (K : PySem.W.Frag) (to : TE) (f : Str) : TG := fun v σ H Q => to σ H fun x H1 => ∃ a C dx fs, x = .ref a ∧ H1 a = some (.ins C dx fs) ∧ Cls K C ∧ NoAttr K C f ∧ fs.length < 1000 ∧ Q σ (upd H1 a (.ins C dx (putF f v fs)))
theorem pg_fld {X : Cx} {o : Expr} {to : TE} {f : Str} {pos : Pos} (ho : PE X o to) : PG X (.Attribute o f pos) (gFld X.K to f) := by
  refine ⟨fun pins s σ H v u Q I r h => PySem.W.kas_attr (thn (ho.run pins s σ H _ I h) fun ov s1 hh => ?_)⟩
  obtain ⟨x, H1, I1, rx, a, C, dx, fs, ex, ea, c, n, l, q⟩ := hh
  subst ex
  obtain rfl : ov = Value.ref a := rx
  exact setattr_ok I1 ea c n l r fun s3 I3 => ⟨σ, _, I3, q⟩
/-! ### comprehensions of bools -/
def BlI {α : Type} (f : α → Bool) (H1 : Hp) (D : Addr) (xs : List α) (i : Nat) (H' : Hp) : Prop := Same H1 H' ∧ H' D = some (.lst ((xs.take i).map fun x => V.bl (f x)))
theorem blI0 {α : Type} {f : α → Bool} {H1 : Hp} {D : Addr} {xs : List α} (hD : H1 D = none) : BlI f H1 D xs 0 (upd H1 D (.lst [])) := ⟨same_upd hD, upd_same⟩
theorem blI_step {α : Type} {f : α → Bool} {H1 H' H2 : Hp} {D : Addr} {xs : List α} {i : Nat} {x : α} {b : Bool} (hD : H1 D = none) (hx : xs[i]? = some x) (h : BlI f H1 D xs i H') (e : Same H' H2) (hb : b = f x) (hs : xs.length ≤ 1000) :
    ∃ acc, H2 D = some (.lst acc) ∧ acc.length < sizeLine ∧ BlI f H1 D xs (i + 1) (upd H2 D (.lst (acc ++ [.bl b]))) := by
  have hi : i < xs.length := (List.getElem?_eq_some_iff.mp hx).1
  refine ⟨_, e _ _ h.2, sz_lt1 (by rw [List.length_map, List.length_take]; omega) (show i < 1001 by omega), same_mut (h.1.trans e) hD, ?_⟩
  rw [upd_same, take_more' hx, List.map_append, hb]
  rfl
theorem blI_end {α : Type} {f : α → Bool} {H1 H' : Hp} {D : Addr} {xs : List α} {n : Nat} (hn : n = xs.length) (h : BlI f H1 D xs n H') : Same H1 H' ∧ H' D = some (.lst ((xs.map f).map V.bl)) := by
  have h2 := h.2
  rw [hn, List.take_length] at h2
  refine ⟨h.1, ?_⟩
  rw [h2, List.map_map]
  rfl
/-! ### is_row, is_integer -/
def spIsRow (K : PySem.W.Frag) : Sp := fun vs H Q _ => ∃ (x : V) (t : String) (b : Bool), vs = [x] ∧ TyX K H x (.type t) ∧ kitsB t ["list", "tuple"] = some b ∧ ∀ H', Same H H' → Q (.bl b) H'
def spIsInt (K : PySem.W.Frag) : Sp := fun vs H Q _ => ∃ (x : V) (t : String) (b c : Bool), vs = [x] ∧ TyX K H x (.type t) ∧ kitB t "int" = some b ∧ kitB t "bool" = some c ∧ Q (.bl (b && !c)) H
theorem TyX.keep {K : PySem.W.Frag} {H H' : Hp} {x : V} {t : String} (e : Same H H') (h : TyX K H x (.type t)) : TyX K H' x (.type t) := by
  cases h with
  | base h =>
    cases h with
    | non => exact .base .non
    | bl x => exact .base (.bl x)
    | int i => exact .base (.int i)
    | str x => exact .base (.str x)
    | flt x => exact .base (.flt x)
    | lst h => exact .base (.lst (e _ _ h))
    | frz h => exact .base (.frz (e _ _ h))
    | tup h => exact .base (.tup (e _ _ h))
    | dK h => exact .base (.dK (e _ _ h))
    | dT h => exact .base (.dT (e _ _ h))
  | byt b => exact .byt b
  | set h => exact .set (e _ _ h)
  | kList h c => exact .kList h c
  | kTuple h c => exact .kTuple h c
  | kDict h c => exact .kDict h c
  | fTuple h => exact .fTuple (e _ _ h)
  | fDict h => exact .fDict (e _ _ h)
section
variable {P : Program} {w : World} {K : PySem.W.Frag} {mg : Str → Option Value} {base : Heap}
theorem scIsRow : FnScope ["thing"] ["thing"] (defScope sIsRow) := ⟨rfl, rfl, rfl, by decide +kernel, rfl, by decide +kernel, by decide +kernel⟩
theorem ok_isRow {f : Addr} {fd : FuncData} (F : Fun K "is_row" "is_row" sIsRow f fd) (T : TxtB mg) : FnOk P w K mg base CX0 1 f fd ["thing"] (spIsRow K) := by
  refine F.ok scIsRow (fun vs H Q E h => ?_) (fun cdv A outer s H vs Q E hr h => ?_)
  · obtain ⟨x, t, b, rfl, _⟩ := h
    rfl
  · obtain ⟨x, t, b, rfl, tx, hb, k⟩ := h
    refine ⟨_, pss_one (ps_ret (pe_callB call_isiT (by rfl) T.isinstance (by decide +kernel) (pa_cons (pv 0) (pa_cons (pe_tup (pa_cons (pe_bltn (v := .ty "list") (by rfl) T.list (by decide +kernel) rfl) (pa_cons (pe_bltn (v := .ty "tuple") (by rfl) T.tuple (by decide +kernel) rfl) pa_nil))) pa_nil)))), ?_⟩
    exact ⟨_, rfl, (by show 2 ≤ sizeLine; decide), fun p hp => ⟨_, p, _, _, _, b, rfl, upd_same, .cons (.ty _) (.cons (.ty _) .nil), TyX.keep (same_upd hp) tx, kits hb, k _ (same_upd hp)⟩⟩
theorem scIsInt : FnScope ["thing"] ["thing"] (defScope sIsInt) := ⟨rfl, rfl, rfl, by decide +kernel, rfl, by decide +kernel, by decide +kernel⟩
theorem ok_isInt {f : Addr} {fd : FuncData} (F : Fun K "is_integer" "is_integer" sIsInt f fd) (T : TxtB mg) : FnOk P w K mg base CX0 1 f fd ["thing"] (spIsInt K) := by
  refine F.ok scIsInt (fun vs H Q E h => ?_) (fun cdv A outer s H vs Q E hr h => ?_)
  · obtain ⟨x, t, b, c, rfl, _⟩ := h
    rfl
  · obtain ⟨x, t, b, c, rfl, tx, hb, hc, k⟩ := h
    refine ⟨_, pss_one (ps_ret (pe_and (pe_callB call_isi (by rfl) T.isinstance (by decide +kernel) (pa_cons (pv 0) (pa_cons (pe_bltn (v := .ty "int") (by rfl) T.int (by decide +kernel) rfl) pa_nil))) (pe_one (pe_not (pe_callB call_isi (by rfl) T.isinstance (by decide +kernel) (pa_cons (pv 0) (pa_cons (pe_bltn (v := .ty "bool") (by rfl) T.bool (by decide +kernel) rfl) pa_nil))))))), ?_⟩
    refine ⟨_, rfl, _, .ty "int", _, _, b, rfl, .ty _, tx, kit_ty hb, b, rfl, ?_⟩
    cases b with
    | true => exact iteT ⟨_, rfl, _, .ty "bool", _, _, c, rfl, .ty _, tx, kit_ty hc, c, rfl, k⟩
    | false => exact iteF k
end
end K67

namespace K67
open PySem L2 PyProof.Rows
/-! ### sorted texts are one list -/
theorem sortedS_pw : ∀ (l : List Str), sortedS l = true → l.Pairwise fun a b => a.cps.toList ≤ b.cps.toList
  | [], _ => .nil
  | [x], _ => .cons (fun _ h => nomatch h) .nil
  | x :: y :: r, h => by
    have h' : (!PySem.Spec.ltCps y.cps.toList x.cps.toList && risingS y r) = true := h
    rw [Bool.and_eq_true] at h'
    have ih := sortedS_pw (y :: r) h'.2
    have xy : x.cps.toList ≤ y.cps.toList := by
      have q := h'.1
      rw [PyProof.Rows.ltCps_eq] at q
      simpa using q
    refine .cons (fun z hz => ?_) ih
    rcases List.mem_cons.mp hz with rfl | hz
    · exact xy
    · exact List.le_trans xy (List.rel_of_pairwise_cons ih hz)
theorem cps_inj {a b : Str} (h : a.cps.toList = b.cps.toList) : a = b := by
  cases a
  cases b
  simp at h
  rw [h]
theorem sorted_one {a b : List Str} (p : a.Perm b) (ha : sortedS a = true) (hb : sortedS b = true) : a = b :=
  p.eq_of_pairwise (fun x y _ _ h1 h2 => cps_inj (List.le_antisymm h1 h2)) (sortedS_pw a ha) (sortedS_pw b hb)
/-! ### the mirror of a dict of data -/
abbrev DD := List (Str × PyData)
def putD (l : DD) (k : Str) (d : PyData) : DD := if (l.any fun p => decide (p.1 = k)) = true then l.map (fun p => if p.1 = k then (p.1, d) else p) else l ++ [(k, d)]
def lookD (l : DD) (k : Str) : Option PyData := (l.find? fun p => decide (p.1 = k)).map (·.2)
def mergeD (l more : DD) : DD := more.foldl (fun a p => putD a p.1 p.2) l
def keysD (l : DD) : List Str := l.map (·.1)
/-- a dict's pairs bear the mirror, their parts stand in N -/
def Held (N : Hp) : List (Key × V) → DD → Prop := PySem.Paired fun p q => p.1 = Sum.inr q.1 ∧ Dt N p.2 q.2
theorem held_mono {N M : Hp} (e : Same N M) : ∀ {kvs : List (Key × V)} {ld : DD}, Held N kvs ld → Held M kvs ld
  | _, _, .nil => .nil
  | _, _, .cons h t => .cons ⟨h.1, Dt.mono e _ _ h.2⟩ (held_mono e t)
theorem held_len {N : Hp} {kvs : List (Key × V)} {ld : DD} (h : Held N kvs ld) : kvs.length = ld.length := PySem.Paired.length h
theorem held_keys {N : Hp} : ∀ {kvs : List (Key × V)} {ld : DD}, Held N kvs ld → kvs.map (·.1) = (keysD ld).map Sum.inr
  | _, _, .nil => rfl
  | _, _, .cons h t => by
    have e := held_keys t
    unfold keysD at e ⊢
    rw [List.map_cons, List.map_cons, List.map_cons, ← e]
    exact congrArg (· :: _) h.1
theorem held_any {N : Hp} (k : Str) : ∀ {kvs : List (Key × V)} {ld : DD}, Held N kvs ld → (kvs.any fun kv => decide (kv.1 = (Sum.inr k : Key))) = ld.any fun p => decide (p.1 = k)
  | _, _, .nil => rfl
  | _, _, .cons h t => by
    rw [List.any_cons, List.any_cons, held_any k t, h.1, key_rr]
theorem held_map {N : Hp} (k : Str) {v : V} {d : PyData} (hv : Dt N v d) : ∀ {kvs : List (Key × V)} {ld : DD}, Held N kvs ld →
    Held N (kvs.map fun kv => if kv.1 = (Sum.inr k : Key) then (kv.1, v) else kv) (ld.map fun p => if p.1 = k then (p.1, d) else p)
  | _, _, .nil => .nil
  | _, _, @PySem.Paired.cons _ _ _ p q ps qs h t => by
    refine .cons ?_ (held_map k hv t)
    dsimp only at h ⊢
    by_cases e : q.1 = k
    · have e2 : p.1 = (Sum.inr k : Key) := by rw [h.1, e]
      rw [if_pos e, if_pos e2]
      exact ⟨h.1, hv⟩
    · have e2 : ¬ p.1 = (Sum.inr k : Key) := fun z => e (Sum.inr.inj (h.1.symm.trans z))
      rw [if_neg e, if_neg e2]
      exact h
theorem held_app {N : Hp} {v : V} {d : PyData} {k : Str} (hv : Dt N v d) : ∀ {kvs : List (Key × V)} {ld : DD}, Held N kvs ld → Held N (kvs ++ [(Sum.inr k, v)]) (ld ++ [(k, d)])
  | _, _, .nil => .cons ⟨rfl, hv⟩ .nil
  | _, _, .cons h t => .cons h (held_app hv t)
theorem held_put {N : Hp} {kvs : List (Key × V)} {ld : DD} {v : V} {d : PyData} {k : Str} (h : Held N kvs ld) (hv : Dt N v d) : Held N (putK kvs (Sum.inr k : Key) v) (putD ld k d) := by
  unfold putK putD
  rw [held_any k h]
  by_cases e : (ld.any fun p => decide (p.1 = k)) = true
  · rw [if_pos e, if_pos e]
    exact held_map k hv h
  · rw [if_neg e, if_neg e]
    exact held_app hv h
theorem held_merge {N : Hp} : ∀ {more : List (Key × V)} {md : DD} {kvs : List (Key × V)} {ld : DD}, Held N more md → Held N kvs ld → Held N (mergeK kvs more) (mergeD ld md)
  | _, _, _, _, .nil, h => h
  | _, _, _, _, @PySem.Paired.cons _ _ _ p q ps qs m t, h => by
    have e := held_put (k := q.1) h m.2
    rw [← m.1] at e
    exact held_merge (more := ps) (md := qs) t e
theorem held_look {N : Hp} (k : Str) : ∀ {kvs : List (Key × V)} {ld : DD}, Held N kvs ld → (lookD ld k = none ∧ valV kvs (Sum.inr k : Key) = none) ∨ ∃ d v, lookD ld k = some d ∧ valV kvs (Sum.inr k : Key) = some v ∧ Dt N v d
  | _, _, .nil => .inl ⟨rfl, rfl⟩
  | _, _, @PySem.Paired.cons _ _ _ p q ps qs h t => by
    unfold lookD valV
    rw [List.find?_cons, List.find?_cons]
    by_cases e : q.1 = k
    · have e2 : p.1 = (Sum.inr k : Key) := by rw [h.1, e]
      rw [decide_eq_true e, decide_eq_true e2]
      exact .inr ⟨q.2, p.2, rfl, rfl, h.2⟩
    · have e2 : ¬ p.1 = (Sum.inr k : Key) := fun z => e (Sum.inr.inj (h.1.symm.trans z))
      rw [decide_eq_false e, decide_eq_false e2]
      exact held_look k t
/-! ### the mirror's own laws -/
theorem any_key {l : DD} {k : Str} : (l.any fun p => decide (p.1 = k)) = true ↔ k ∈ keysD l := by
  unfold keysD
  rw [List.any_eq_true, List.mem_map]
  constructor
  · rintro ⟨p, hp, e⟩
    exact ⟨p, hp, by simpa using e⟩
  · rintro ⟨p, hp, e⟩
    exact ⟨p, hp, by simpa using e⟩
theorem keys_put {l : DD} {k : Str} {d : PyData} : keysD (putD l k d) = if k ∈ keysD l then keysD l else keysD l ++ [k] := by
  unfold putD
  by_cases e : (l.any fun p => decide (p.1 = k)) = true
  · rw [if_pos e, if_pos (any_key.mp e)]
    unfold keysD
    rw [List.map_map]
    apply List.map_congr_left
    intro p _
    show (if p.1 = k then (p.1, d) else p).1 = p.1
    split <;> rfl
  · rw [if_neg e, if_neg (fun z => e (any_key.mpr z))]
    unfold keysD
    rw [List.map_append]
    rfl
theorem nodup_put {l : DD} {k : Str} {d : PyData} (h : (keysD l).Nodup) : (keysD (putD l k d)).Nodup := by
  rw [keys_put]
  split
  · exact h
  · rename_i hk
    rw [List.nodup_append]
    exact ⟨h, by simp, fun a ha b hb e => hk (by rw [List.mem_singleton.mp hb] at e; rw [← e]; exact ha)⟩
theorem len_put {l : DD} {k : Str} {d : PyData} : (putD l k d).length ≤ l.length + 1 := by
  unfold putD
  split
  · rw [List.length_map]
    omega
  · rw [List.length_append]
    simp
theorem all_put {R : PyData → Prop} {l : DD} {k : Str} {d : PyData} (h : ∀ p ∈ l, R p.2) (hd : R d) : ∀ p ∈ putD l k d, R p.2 := by
  intro p hp
  unfold putD at hp
  split at hp
  · obtain ⟨q, hq, e⟩ := List.mem_map.mp hp
    by_cases z : q.1 = k
    · rw [if_pos z] at e
      rw [← e]
      exact hd
    · rw [if_neg z] at e
      rw [← e]
      exact h q hq
  · rcases List.mem_append.mp hp with hp | hp
    · exact h p hp
    · rw [List.mem_singleton.mp hp]
      exact hd
theorem nodup_merge : ∀ {m l : DD}, (keysD l).Nodup → (keysD (mergeD l m)).Nodup
  | [], l, h => h
  | p :: m, l, h => nodup_merge (m := m) (l := putD l p.1 p.2) (nodup_put h)
theorem len_merge : ∀ {m l : DD}, (mergeD l m).length ≤ l.length + m.length
  | [], l => Nat.le_refl _
  | p :: m, l => by
    have h1 := len_merge (m := m) (l := putD l p.1 p.2)
    have h2 := len_put (l := l) (k := p.1) (d := p.2)
    show (mergeD (putD l p.1 p.2) m).length ≤ l.length + (m.length + 1)
    omega
theorem all_merge {R : PyData → Prop} : ∀ {m l : DD}, (∀ p ∈ l, R p.2) → (∀ p ∈ m, R p.2) → ∀ p ∈ mergeD l m, R p.2
  | [], l, h, _ => h
  | p :: m, l, h, hm => all_merge (m := m) (l := putD l p.1 p.2) (all_put h (hm p List.mem_cons_self)) fun q hq => hm q (List.mem_cons_of_mem _ hq)
theorem look_put {l : DD} {k j : Str} {d : PyData} : lookD (putD l k d) j = if j = k then some d else lookD l j := by
  have e1 : ∀ l : DD, lookD (l.map fun p => if p.1 = k then (p.1, d) else p) j = if j = k then (if (l.any fun p => decide (p.1 = k)) = true then some d else none) else lookD l j := by
    intro l
    induction l with
    | nil =>
      show (none : Option PyData) = _
      split
      · rw [if_neg (by simp)]
      · rfl
    | cons p l ih =>
      unfold lookD at ih ⊢
      rw [List.map_cons, List.find?_cons]
      by_cases pk : p.1 = k
      · rw [if_pos pk]
        by_cases jk : j = k
        · rw [if_pos jk, jk, decide_eq_true pk, List.any_cons, decide_eq_true pk]
          rfl
        · have pj : ¬ p.1 = j := fun z => jk (z.symm.trans pk)
          rw [decide_eq_false pj]
          rw [if_neg jk] at ih ⊢
          rw [List.find?_cons, decide_eq_false pj]
          exact ih
      · rw [if_neg pk]
        by_cases pj : p.1 = j
        · have jk : ¬ j = k := fun z => pk (pj.trans z)
          rw [if_neg jk, decide_eq_true pj, List.find?_cons, decide_eq_true pj]
        · rw [decide_eq_false pj, ih, List.any_cons, decide_eq_false pk, Bool.false_or]
          split
          · rfl
          · rw [List.find?_cons, decide_eq_false pj]
  unfold putD
  by_cases e : (l.any fun p => decide (p.1 = k)) = true
  · rw [if_pos e, e1, if_pos e]
  · rw [if_neg e]
    unfold lookD
    rw [List.find?_append]
    by_cases jk : j = k
    · rw [if_pos jk, jk]
      have n : l.find? (fun p => decide (p.1 = k)) = none := by
        rw [List.find?_eq_none]
        intro p hp z
        exact e (List.any_eq_true.mpr ⟨p, hp, z⟩)
      rw [n]
      show ((none : Option (Str × PyData)).or ([(k, d)].find? fun p => decide (p.1 = k))).map (·.2) = some d
      rw [List.find?_cons, decide_eq_true rfl]
      rfl
    · rw [if_neg jk, List.find?_cons, decide_eq_false (fun z : k = j => jk z.symm)]
      show ((l.find? fun p => decide (p.1 = j)).or (List.find? _ [])).map (·.2) = _
      rw [List.find?_nil, Option.or_none]
theorem look_mem {l : DD} {k : Str} {d : PyData} (h : lookD l k = some d) : (k, d) ∈ l := by
  unfold lookD at h
  obtain ⟨p, hp, e⟩ := Option.map_eq_some_iff.mp h
  have h1 := List.mem_of_find?_eq_some hp
  have h2 := List.find?_some (p := fun p : Str × PyData => decide (p.1 = k)) hp
  have h3 : p.1 = k := by simpa using h2
  rw [← h3, ← e]
  exact h1
theorem look_nodup : ∀ {l : DD} {k : Str} {d : PyData}, (keysD l).Nodup → (k, d) ∈ l → lookD l k = some d
  | [], k, d, _, h => nomatch h
  | p :: l, k, d, n, h => by
    have n' : p.1 ∉ keysD l ∧ (keysD l).Nodup := List.nodup_cons.mp n
    unfold lookD
    rw [List.find?_cons]
    rcases List.mem_cons.mp h with rfl | h
    · rw [decide_eq_true rfl]
      rfl
    · have pk : ¬ p.1 = k := fun z => n'.1 (by rw [z]; exact List.mem_map.mpr ⟨_, h, rfl⟩)
      rw [decide_eq_false pk]
      exact look_nodup n'.2 h
theorem look_key {l : DD} {k : Str} (h : k ∈ keysD l) : ∃ d, lookD l k = some d := by
  unfold keysD at h
  obtain ⟨p, hp, e⟩ := List.mem_map.mp h
  unfold lookD
  cases q : l.find? (fun p => decide (p.1 = k)) with
  | some r => exact ⟨r.2, rfl⟩
  | none =>
    rw [List.find?_eq_none] at q
    exact absurd (decide_eq_true e) (q p hp)
theorem key_look {l : DD} {k : Str} {d : PyData} (h : lookD l k = some d) : k ∈ keysD l := List.mem_map.mpr ⟨_, look_mem h, rfl⟩
end K67

/-! enumerate over a tuple -/
namespace PySem
theorem enumT_new {v : Value} {o : Obj} {H : Heap → Prop} (B : Begins v o H) :
    Meets (Builtin.«enumerate.__new__» ⟨[.type "enumerate", v], []⟩) (fun _ R s => H s.heap ∧ R (.ok (.ret (.ref (s.heap.push o).objs.size))) { s with heap := (s.heap.push o).push { cls := .type "enumerate", data := .fields #[.none, .bool false, .ref s.heap.objs.size, rawInt 0, .none, .none] } }) :=
  .of_wp fun prog w A R s h => by
    obtain ⟨hp, g, d, tk, os⟩ := s
    obtain ⟨h1, h⟩ := h
    have hsub := sub_enumerate
    have go : ∀ {A' : Around} {E : Value → Shared → Prop} {Q : Value → Shared → Prop}, Q (.ref hp.objs.size) ⟨hp.push o, g, d, tk, os⟩ → wpAny (model prog w) A' (pyIter v) Q E ⟨hp, g, d, tk, os⟩ := fun q => B.iter prog w _ _ ⟨hp, g, d, tk, os⟩ _ h1 q
    wp_walk using go
    refine wpAny_stack_any fun st => wpAny_pure ?_
    split
    · rename_i c _ _ _ _ _
      cases (c == Value.type "enumerate") <;> (wp_walk using go; exact ⟨_, rfl, h⟩)
    · wp_walk using go
      exact ⟨_, rfl, h⟩
theorem enumT_call {prog : Program} {w : World} {A : Around} {E : Value → Shared → Prop} {s : Shared} {v : Value} {o : Obj} {H : Heap → Prop} {Q : Value → Shared → Prop} (B : Begins v o H) (h1 : H s.heap)
    (h : ∀ h', IsEnum h' (s.heap.objs.size + 1) s.heap.objs.size 0 .none → h'.get? s.heap.objs.size = some o → (∀ b o, s.heap.get? b = some o → h'.get? b = some o) → Q (.ref (s.heap.objs.size + 1)) { s with heap := h' }) :
    wpAny (model prog w) A (call (.type "enumerate") [v]) Q E s := by
  refine callType_new F.called_enumerate (by decide) (F.typeCall_enumerate_1 _) (F.newCall_enumerate_1 _) (fun obj => F.args_object_init_2 obj _) F.entry_enumerate_new (enumT_new B) ⟨h1, ?_⟩
  have hz : (s.heap.push o).objs.size = s.heap.objs.size + 1 := Heap.size_push ..
  show _ ∧ _
  rw [hz]
  have he : IsEnum ((s.heap.push o).push { cls := .type "enumerate", data := .fields #[.none, .bool false, .ref s.heap.objs.size, rawInt 0, .none, .none] }) (s.heap.objs.size + 1) s.heap.objs.size 0 .none := by
    have q := Heap.get?_push_size (s.heap.push o) (o := { cls := .type "enumerate", data := .fields #[.none, .bool false, .ref s.heap.objs.size, rawInt 0, .none, .none] }) rfl
    rw [hz] at q
    exact q
  exact ⟨⟨_, he, rfl⟩, h _ he (Heap.get?_push_of_some _ (Heap.get?_push_size _ B.free)) fun b o x => Heap.get?_push_of_some _ (Heap.get?_push_of_some _ x)⟩
end PySem
namespace L2
open PySem PySem.Spec PyProof.Rows
/-- the tuple at a, each item in a new pair -/
def ItET (K : PySem.W.Frag) (a : Addr) : It :=
  ⟨fun i H => ∃ (xs : List V) (x : V), SqT K H a xs ∧ xs[i]? = some x, fun i H v H' => ∃ T x, v = .ref T ∧ H T = none ∧ H' = upd H T (.tup [.int (i : Nat), x]) ∧ ∀ xs, SqT K H a xs → xs[i]? = some x, fun i H => ∃ xs : List V, SqT K H a xs ∧ xs.length = i⟩
theorem turn_enumT {P : Program} {w : World} {K : PySem.W.Frag} {elts : List Expr} {kk : Nat} {tpos : Pos} (a e it : Addr) :
    Turn P w K (.Tuple elts kk tpos) (ItET K a) [e, it] e (fun i h => (∃ old, IsEnum h e it ((i : Nat) : Int) old) ∧ h.IsTupleIter it a i ∧ e ≠ it) where
  mem := by simp
  obj := fun i h st b hb => by
    obtain ⟨⟨old, he⟩, ⟨o, ho, hc, hd⟩, _⟩ := st
    have z : b = e ∨ b = it := by simpa using hb
    rcases z with rfl | rfl
    · exact ⟨_, he, fun v q => nomatch q⟩
    · exact ⟨o, ho, fun v q => by rw [hd] at q; cases q⟩
  keep := fun i h h' st k => by
    obtain ⟨⟨old, he⟩, hi, hne⟩ := st
    exact ⟨⟨old, k e (by simp) _ he⟩, hi.at fun o q => k it (by simp) o q, hne⟩
  item := by
    intro X hP hw hK hc i pins s σ H E I hf st hg
    subst hP hw hK
    obtain ⟨⟨old, he⟩, hit, hne⟩ := st
    obtain ⟨xs, x, hq, hx⟩ := hg
    obtain ⟨its, rv, p, hz⟩ := I.tuple hq
    have p : s.heap.IsTuple a its.toArray := p
    obtain ⟨u, hu, ru⟩ := rv.get hx
    have hel : e < s.heap.objs.size := Heap.lt_size he
    have hil : it < s.heap.objs.size := by obtain ⟨_, q, _⟩ := hit; exact Heap.lt_size q
    have nai : a ≠ it := fun z => by
      obtain ⟨o, e1, e2, _⟩ := id hit
      obtain ⟨o', f1, f2, _⟩ := id p
      rw [← z, f1] at e1
      cases e1
      rw [e2] at f2
      exact absurd (Value.type.inj f2) (by decide)
    have nae : a ≠ e := fun z => by
      obtain ⟨o', f1, f2, _⟩ := id p
      rw [z] at f1
      have f3 := he.symm.trans f1
      cases f3
      exact absurd (Value.type.inj f2) (by decide)
    have hiu : its.toArray[i]? = some u := by simpa using hu
    refine wpAny_pyNext_enum_itemD (Draws.tuple (prog := X.prog) (w := X.w) (A := X.A.in1) (show X.A.in1.handled = none from I.ok.hd hc) it a nai its.toArray) he ⟨hit, p⟩ (by have := (Array.getElem?_eq_some_iff.mp hiu).1; exact this) hne (fun z => by
      rcases List.mem_cons.mp z with z | z
      · exact hne z
      · exact nae (List.mem_singleton.mp z).symm) fun x' h' tk hP ho hst hT hsz hk => ?_
    have ex : x' = u := by
      rw [hiu] at hP
      exact (Option.some.inj hP).symm
    subst ex
    refine ⟨_, rfl, wpAny_letOwnedTupleGo_enum (s := { s with heap := h', toks := tk + 1 }) ho fun h'' he' sb => ?_⟩
    have hT2 : h''.get? s.heap.objs.size = some { cls := .type "tuple", data := .seq #[.int i tk, x'] } := (sb.2 _ (Nat.ne_of_gt hel)).trans hT
    have new : ObjOk X.prog X.w (upd H s.heap.objs.size (.tup [.int (i : Nat), x])) h'' s.heap.objs.size (.tup [.int (i : Nat), x]) :=
      ⟨by show 2 ≤ sizeLine; decide, [.int i tk, x'], .cons ⟨_, rfl⟩ (.cons ru .nil), ⟨_, hT2, rfl, _, rfl⟩⟩
    have I1 : Inv X pins σ (upd H s.heap.objs.size (.tup [.int (i : Nat), x])) { s with heap := h'', toks := tk + 1 } :=
      I.turnedNew (ch := [e, it]) (fun b ob hb q => (sb.2 b (fun z => hb (by simp [z]))).trans (hk b ob (fun z => hb (by simp [z])) (fun z => hb (by simp [z])) q)) hf (Nat.le_refl _) new
    refine ⟨.ref s.heap.objs.size, _, I1, rfl, ⟨_, x, rfl, I.hok.fresh (Nat.le_refl _), rfl, fun ys hy => by rw [I.tuple_inj hy hq]; exact hx⟩, ⟨⟨x', ?_⟩, hst.1.at fun o q => (sb.2 it (Ne.symm hne)).trans q, hne⟩, fun b hb => ?_⟩
    · have e1 : ((i + 1 : Nat) : Int) = (i : Int) + 1 := by omega
      rw [e1]
      exact he'
    · have hb' : b < s.heap.objs.size := by
        have z : b = e ∨ b = it := by simpa using hb
        rcases z with rfl | rfl
        · exact hel
        · exact hil
      rw [upd_ne (Nat.ne_of_lt hb')]
      exact (hf b hb).1
  done := by
    intro X hP hw hK hc i pins s σ H E I hf st hg
    subst hP hw hK
    obtain ⟨⟨old, he⟩, hit, hne⟩ := st
    obtain ⟨xs, hq, hx⟩ := hg
    obtain ⟨its, rv, p, hz⟩ := I.tuple hq
    have p : s.heap.IsTuple a its.toArray := p
    obtain ⟨f0, f1, f2, f3, f4, f5⟩ := hf it (by simp)
    have hl := rv.length
    have nai : a ≠ it := fun z => by
      obtain ⟨o, e1, e2, _⟩ := id hit
      obtain ⟨o', g1, g2, _⟩ := id p
      rw [← z, g1] at e1
      cases e1
      rw [e2] at g2
      exact absurd (Value.type.inj g2) (by decide)
    have hn : i = its.toArray.size := by simp; omega
    subst hn
    exact wpAny_pyNext_enum_endD (Draws.tuple (prog := X.prog) (w := X.w) (A := X.A.in1) (show X.A.in1.handled = none from I.ok.hd hc) it a nai its.toArray) he ⟨hit, p⟩ fun h' eb => ⟨rfl, I.turned (t' := s.toks) (fun b o hb q => eb b o hb q) f0 f1 f3 f4 f5⟩
  self := fun A i s Q E st h => by
    obtain ⟨⟨_, he⟩, _⟩ := st
    exact wpAny_pyIter_enum he h
def iEnumT (K : PySem.W.Frag) (ta : TA) : TI := fun σ H R => ta σ H fun vs H1 => ∃ a xs, vs = [.ref a] ∧ SqT K H1 a xs ∧ R (ItET K a) H1
theorem pi_enumT {X : Cx} {e : Expr} {ta : TA} {p pos tpos : Pos} {elts : List Expr} {kk : Nat} (hg : Gl X "enumerate") (hm : X.mg "enumerate" = none) (ha : PA X [e] ta) (hs : starEach [e] X.env = [(false, eval e X.env)] := by rfl) :
    PI X (.Tuple elts kk tpos) (.Call (.Name "enumerate" p) [e] [] pos) (iEnumT X.K ta) := by
  refine ⟨fun pins s σ H R I h => ?_⟩
  refine Call_ (ld_blt I hg hm boot_enumerate (PyProof.Rows.callWith_type1 (thn (ha.run pos pins s σ H _ I h) fun us s1 ⟨vs, H1, I1, r1, q1⟩ => ?_) hs rfl))
  obtain ⟨a, xs, ex, hq, q⟩ := q1
  subst ex
  cases r1 with
  | cons r rr =>
    cases rr
    cases r
    obtain ⟨its, rv, p', hz⟩ := I1.tuple hq
    refine enumT_call (begins_tuple a its.toArray) (show s1.heap.IsTuple a its.toArray from p') fun h' he hit hk => wpAny_pyIter_enum he ?_
    have I2 : Inv X pins σ H1 { s1 with heap := h' } := I1.kept (t' := s1.toks) hk
    refine ⟨s1.heap.objs.size + 1, [s1.heap.objs.size + 1, s1.heap.objs.size], _, _, H1, rfl, I2, turn_enumT a (s1.heap.objs.size + 1) s1.heap.objs.size, ⟨⟨.none, he⟩, ⟨_, hit, rfl, rfl⟩, Nat.succ_ne_self _⟩, fun b hb => ?_, q⟩
    have z : b = s1.heap.objs.size + 1 ∨ b = s1.heap.objs.size := by simpa using hb
    have hle : s1.heap.objs.size ≤ b := by
      rcases z with z | z
      · rw [z]; exact Nat.le_add_right _ _
      · rw [z]; exact Nat.le_refl _
    exact I1.fpOk hle (I1.hok.fresh hle)
theorem walk_enumT {K : PySem.W.Frag} {a : Addr} {xs : List V} : Walk (ItET K a) xs.length (fun H => SqT K H a xs) (YPair (fun i => some (.int (i : Nat))) (fun i => xs[i]?)) := by
  refine ⟨fun i H hi hq => ⟨xs, xs[i], hq, by simp [hi]⟩, fun H hq => ⟨xs, hq, rfl⟩, fun i H v H' hi hq y => ?_⟩
  obtain ⟨T, x, e1, e2, e3, e4⟩ := y
  exact ⟨T, _, x, e1, e2, e3, rfl, e4 xs hq⟩
end L2

/-! a written text opens a statement: behind it a token is out -/
namespace XTok
open PySem PySem.Spec PyProof.Rows L2 CwR
section
variable {X : Cx} {st : Stmt} {rest : List Stmt} {t u : TS}
/-- x = 'text' + e, then statements that want a token -/
theorem pss_catT {i j : Nat} {x c : Str} {e : Expr} {te : TE} {op : Operator} {r : R2} {cpos bpos pos' pos : Pos} (hN : X.N.Nodup) (hi : X.N[i]? = some x) (hx : Loc X.env.scope x) (ho : OpR X (binaryOp op) r) (he : PE X e te) (h2 : PSsT X rest u)
    (hs : swapsWith (.BinOp (.Constant (.str c) j cpos) op e bpos) (some (.Name x pos')) pos.line X.env = pure false := by rfl) (hf : X.fn x = true ∨ X.env.scope.names.lookup x = some .local := by first | exact .inl rfl | exact .inr rfl | assumption) :
    PSs X (.Assign [.Name x pos'] (.BinOp (.Constant (.str c) j cpos) op e bpos) pos :: rest) (tSeq (tAsg (tOp r (tC (.str c)) te) (gName i)) u) := by
  refine ⟨fun pins s σ H D I h => ?_⟩
  refine wpAny_execs_cons (wpAny_Assign_Name (wpAny_BinOp (Calls.Constant_str ?_)) hs)
  refine wpAny_mono (PySem.wpAny_toks_of (n := 1) (by show 1 ≤ s.toks + 1; omega) (he.run pins _ σ H _ (I.tok (s.toks + 1)) h)) (fun w s2 q => ?_) fun _ _ z => z.2
  obtain ⟨hk, y, H2, I2, r2, q2⟩ := q
  refine wpAny_mono (PySem.wpAny_toks_of hk (ho pins s2 σ H2 (V.str c) y (Value.str c s.toks) w _ I2 ⟨s.toks, rfl⟩ r2 q2)) (fun v s3 q => ?_) fun _ _ z => z.2
  obtain ⟨hk3, z, H3, I3, r3, q3⟩ := q
  refine wpAny_mono (PySem.wpAny_toks_of hk3 (store_ok (Q := fun _ s2 => Inv X pins (σ.set i (some z)) H3 s2) I3 hN hi hx r3 (fun _ I => I) hf)) (fun _ s4 q => ?_) fun _ _ z => z.2
  exact h2 pins s4 _ H3 D q.1 q.2 q3
/-- x = e, e wants a token -/
theorem pst_set {i : Nat} {x : Str} {e : Expr} {te : TE} {pos' pos : Pos} (hN : X.N.Nodup) (hi : X.N[i]? = some x) (hx : Loc X.env.scope x) (he : PET X e te) (hs : swapsWith e (some (.Name x pos')) pos.line X.env = pure false := by rfl) (hf : X.fn x = true ∨ X.env.scope.names.lookup x = some .local := by first | exact .inl rfl | exact .inr rfl | assumption) :
    PST X (.Assign [.Name x pos'] e pos) (tAsg te (gName i)) := by
  intro pins s σ H D h0 I h
  refine wpAny_Assign_Name (thn (he pins s σ H _ h0 I h) fun v s1 ⟨y, H1, I1, r1, q1⟩ => ?_) hs
  exact store_ok I1 hN hi hx r1 (fun s2 I2 => ⟨_, H1, I2, q1⟩) hf
end
end XTok

/-! x = 'text' in d: behind it a token is out -/
namespace XTokIn
open PySem PySem.Spec PyProof.Rows L2 CwR
section
variable {X : Cx} {rest : List Stmt} {u : TS}
theorem pss_dinT {i j : Nat} {x c : Str} {o : Expr} {td : TE} {cpos bpos pos' pos : Pos} (hN : X.N.Nodup) (hi : X.N[i]? = some x) (hx : Loc X.env.scope x) (hu : X.A.units + 1 < cLine) (ho : PE X o td) (h2 : PSsT X rest u) (h1 : behindInMarks .In o = false)
    (hs : swapsWith (.Compare (.Constant (.str c) j cpos) [.In] [o] bpos) (some (.Name x pos')) pos.line X.env = pure false := by rfl) (hf : X.fn x = true ∨ X.env.scope.names.lookup x = some .local := by first | exact .inl rfl | exact .inr rfl | assumption) :
    PSs X (.Assign [.Name x pos'] (.Compare (.Constant (.str c) j cpos) [.In] [o] bpos) pos :: rest) (tSeq (tAsg (tDIn (tC (.str c)) td) (gName i)) u) := by
  refine ⟨fun pins s σ H D I h => ?_⟩
  refine wpAny_execs_cons (wpAny_Assign_Name (wpAny_Compare1 (Calls.Constant_str ?_) h1) hs)
  refine wpAny_mono (PySem.wpAny_toks_of (n := 1) (by show 1 ≤ s.toks + 1; omega) (ho.run pins _ σ H _ (I.tok (s.toks + 1)) h)) (fun w s2 q => ?_) fun _ _ z => z.2
  obtain ⟨hk, y, H2, I2, r2, a, ov, ex, g, q2⟩ := q
  subst ex
  obtain rfl : w = Value.ref a := r2
  refine wpAny_mono (PySem.wpAny_toks_of hk (d_in hu I2 g (show RelV (V.str c) (Value.str c s.toks) from ⟨s.toks, rfl⟩) (Q := fun v s3 => v = .bool ov.isSome ∧ Inv X pins σ H2 s3) fun s3 I3 => ⟨rfl, I3⟩)) (fun v s3 q => ?_) fun _ _ z => z.2
  obtain ⟨hk3, rfl, I3⟩ := q
  refine wpAny_mono (PySem.wpAny_toks_of hk3 (store_ok (v := V.bl ov.isSome) (Q := fun _ s2 => Inv X pins (σ.set i (some (V.bl ov.isSome))) H2 s2) I3 hN hi hx rfl (fun _ I => I) hf)) (fun _ s4 q => ?_) fun _ _ z => z.2
  exact h2 pins s4 _ H2 D q.1 q.2 q2
/-- if 'text' in d: .. ; behind it a token is out -/
theorem pss_ifInT {j : Nat} {c : Str} {o : Expr} {td : TE} {cpos bpos pos : Pos} {a b : List Stmt} {t t2 : TS} (hu : X.A.units + 1 < cLine) (ho : PE X o td) (ha : PSs X a t) (hb : PSs X b t2) (h2 : PSsT X rest u) (h1 : behindInMarks .In o = false) :
    PSs X (.If (.Compare (.Constant (.str c) j cpos) [.In] [o] bpos) a b pos :: rest) (tSeq (tIfS (tB (tDIn (tC (.str c)) td)) t t2) u) := by
  refine ⟨fun pins s σ H D I h => ?_⟩
  refine wpAny_execs_cons (wpAny_If (wpAny_isTrue_Compare1 (Calls.Constant_str ?_) h1))
  refine wpAny_mono (PySem.wpAny_toks_of (n := 1) (by show 1 ≤ s.toks + 1; omega) (ho.run pins _ σ H _ (I.tok (s.toks + 1)) h)) (fun w s2 q => ?_) fun _ _ z => z.2
  obtain ⟨hk, y, H2, I2, r2, a', ov, ex, g, q2⟩ := q
  subst ex
  obtain rfl : w = Value.ref a' := r2
  refine wpAny_mono (PySem.wpAny_toks_of hk (d_in hu I2 g (show RelV (V.str c) (Value.str c s.toks) from ⟨s.toks, rfl⟩) (Q := fun v s3 => v = .bool ov.isSome ∧ Inv X pins σ H2 s3) fun s3 I3 => ⟨rfl, I3⟩)) (fun v s3 q => ?_) fun _ _ z => z.2
  obtain ⟨hk3, rfl, I3⟩ := q
  refine wpAny_truthy_bool ?_
  obtain ⟨d, hd, q3⟩ := q2
  obtain rfl : ov.isSome = d := V.bl.inj hd
  have fin : ∀ (fl : Flow) (s4 : Shared), 1 ≤ s4.toks ∧ SP X pins { D with nx := u D } fl s4 → (match fl with | .next => wpAny (model X.prog X.w) X.A (execs rest X.env) (SP X pins D) X.xe s4 | f => SP X pins D f s4) := by
    rintro fl s4 ⟨hk4, q4⟩
    cases fl with
    | next =>
      obtain ⟨σ', H', I', q⟩ := q4
      exact h2 pins s4 σ' H' D hk4 I' q
    | ret v => exact q4
    | brk => exact q4
    | cont => exact q4
  cases hov : ov.isSome with
  | true =>
    rw [hov] at q3
    exact wpAny_mono (PySem.wpAny_toks_of hk3 (ha.run pins s3 σ H2 { D with nx := u D } I3 q3)) (fun fl s4 q4 => by cases fl <;> exact fin _ s4 q4) fun _ _ z => z.2
  | false =>
    rw [hov] at q3
    exact wpAny_mono (PySem.wpAny_toks_of hk3 (hb.run pins s3 σ H2 { D with nx := u D } I3 q3)) (fun fl s4 q4 => by cases fl <;> exact fin _ s4 q4) fun _ _ z => z.2
end
end XTokIn

namespace K67
open PySem L2 PyProof.Rows
theorem pt_never {X : Cx} {e : Expr} : PT X e (fun _ _ _ => False) := ⟨fun _ _ _ _ _ _ h => h.elim⟩
theorem pw_never {X : Cx} {e : Expr} : PW X e (fun _ _ _ => False) := ⟨fun _ _ _ _ _ _ _ h => h.elim⟩
/-- a function of the top, its promise at hand -/
structure At (P : Program) (w : World) (K : PySem.W.Frag) (mg : Str → Option Value) (base : Heap) (nm : Str) (k : Nat) (ps : List Str) (sp : Sp) (f : Addr) (fd : FuncData) : Prop where
  ok : FnOk P w K mg base CX0 k f fd ps sp
  m : mg nm = some (.ref f)
  k : PySem.W.keepIn K (.ref f) = true
  b : Binds K fd ps []
structure ClsN (K : PySem.W.Frag) (C : Addr) (fs : List Str) : Prop where
  cl : Cls K C
  no : ∀ f ∈ fs, NoAttr K C f
/-- a constant tuple of the top -/
structure KT (K : PySem.W.Frag) (mg : Str → Option Value) (nm : Str) (a : Addr) (xs : List V) : Prop where
  m : mg nm = some (.ref a)
  q : ∀ H : Hp, SqT K H a xs
theorem dpAll_strs {K : PySem.W.Frag} {H : Hp} : ∀ ks : List Str, DpAll K H (ks.map V.str) (ks.map PyData.str)
  | [] => .nil
  | k :: ks => .cons (.str k) (dpAll_strs ks)
theorem dts_strs {N : Hp} : ∀ (ws : List Str), DtAll N (ws.map V.str) (ws.map PyData.str)
  | [] => .nil
  | w :: ws => .cons (.str w) (dts_strs ws)
theorem str_at {ys : List Str} {i : Nat} {x : V} (hx : (ys.map V.str)[i]? = some x) : ∃ k, ys[i]? = some k ∧ x = V.str k := by
  rw [List.getElem?_map] at hx
  cases e : ys[i]? with
  | none =>
    rw [e] at hx
    cases hx
  | some k =>
    rw [e] at hx
    exact ⟨k, rfl, (Option.some.inj hx).symm⟩
theorem all_tt {α : Type} (xs : List α) : (xs.map fun _ => true).all id = true := by
  induction xs with
  | nil => rfl
  | cons x xs ih => exact ih
theorem strs_shaped {fl : List Str} (h : ∀ x ∈ fl, PyData.strOk x = true) : SeqAt.shaped (.tuple (fl.map PyData.str)) = true := by
  have key : PyData.canLayAll0 (fl.map PyData.str) = true ∧ PyData.depthAll (fl.map PyData.str) = 0 := by
    induction fl with
    | nil => exact ⟨rfl, rfl⟩
    | cons k ks ih =>
      obtain ⟨i1, i2⟩ := ih fun j hj => h j (List.mem_cons_of_mem _ hj)
      constructor
      · show (PyData.strOk k && PyData.canLayAll0 (ks.map PyData.str)) = true
        rw [i1, Bool.and_true]
        exact h k List.mem_cons_self
      · show max 0 (PyData.depthAll (ks.map PyData.str)) = 0
        rw [i2]
        rfl
  unfold SeqAt.shaped
  rw [Bool.and_eq_true]
  refine ⟨key.1, ?_⟩
  apply decide_eq_true
  show PyData.depthAll (fl.map PyData.str) + 1 ≤ 64
  rw [key.2]
  decide
/-! ### flags by any signs -/
def wAt (w : Str) (i : Nat) : Nat := w.cps.toList.getD i 0
theorem wAt_at {x : Str} {i : Nat} (h : i < x.length) : atI x.cps.toList (i : Nat) = some (wAt x i) := by
  have h' : i < x.cps.toList.length := by simpa [PySem.Str.length] using h
  have : x.cps.toList[i]? = some (wAt x i) := by
    unfold wAt
    rw [List.getD_eq_getElem?_getD, List.getElem?_eq_getElem h']
    rfl
  exact atI_nat this
def inP (pf : Str) (c : Nat) : Bool := !(Builtin.Str.occurrences pf (⟨#[c]⟩ : Str) 0 pf.length 1).isEmpty
def gapB (c : Nat) : Bool := !(Builtin.Str.occurrences (" \n=" : Str) (⟨#[c]⟩ : Str) 0 (" \n=" : Str).length 1).isEmpty
def noF (x : Str) : Str := cutS x none (some 2) ++ "no-" ++ cutS x (some 2) none
def flB (pf x : Str) : Bool := decide (x ≠ "") && decide (2 ≤ x.length) && decide (x.length ≤ 40) && inP pf (wAt x 0) && decide (Txt.lstripChars x pf ≠ "") && !((x.cps.toList.map gapB).any id) && PyData.strOk x && decide ((Txt.lstripChars x pf).length ≤ 40) && PyData.strOk (noF x) && decide (Txt.lstripChars x pf = ⟨(x.cps.toList.dropWhile (inP pf)).toArray⟩)
structure FlOk (pf x : Str) : Prop where
  ne : x ≠ ""
  l2 : 2 ≤ x.length
  ln : x.length ≤ 40
  h0 : inP pf (wAt x 0) = true
  ls : Txt.lstripChars x pf ≠ ""
  gp : (x.cps.toList.map gapB).any id = false
  so : PyData.strOk x = true
  sl : (Txt.lstripChars x pf).length ≤ 40
  no : PyData.strOk (noF x) = true
  dw : Txt.lstripChars x pf = ⟨(x.cps.toList.dropWhile (inP pf)).toArray⟩
theorem flB_ok {pf x : Str} (h : flB pf x = true) : FlOk pf x := by
  unfold flB at h
  simp only [Bool.and_eq_true, decide_eq_true_eq, Bool.not_eq_true'] at h
  obtain ⟨⟨⟨⟨⟨⟨⟨⟨⟨h1, h2⟩, h3⟩, h4⟩, h5⟩, h6⟩, h7⟩, h8⟩, h9⟩, h10⟩ := h
  exact ⟨h1, h2, h3, h4, h5, h6, h7, h8, h9, h10⟩
def spHasGap : Sp := fun vs H Q _ => ∃ x : Str, vs = [.str x] ∧ x.length ≤ 1000 ∧ ∀ H', Same H H' → Q (.bl ((x.cps.toList.map gapB).any id)) H'
def spIsFlag : Sp := fun vs H Q _ => ∃ x pf : Str, vs = [.str x, .str pf] ∧ FlOk pf x ∧ pf.length ≤ 20 ∧ ∀ H', Same H H' → Q (.bl true) H'
/-- flags as they are handed -/
structure Gv (pf : Str) (gs : List Str) (io : Bool) : Prop where
  op : io = true → gs ≠ [] ∧ ∀ x ∈ gs, FlOk pf x
  po : io = false → gs = [] ∨ ∃ g, gs = [g] ∧ g ≠ "" ∧ g.length ≤ 40 ∧ inP pf (wAt g 0) = false ∧ PyData.strOk g = true
  n : gs.length ≤ 20
  pl : pf.length ≤ 20
def flOf (gs : List Str) (io : Bool) : List Str := if io then gs else []
def SeqF (H : Hp) (a : Addr) (xs : List V) : Prop := H a = some (.lst xs) ∨ H a = some (.tup xs)
theorem SeqF.keep {H H' : Hp} {a : Addr} {xs : List V} (h : SeqF H a xs) (e : Same H H') : SeqF H' a xs := h.imp (e _ _) (e _ _)
theorem SeqF.sq {K : PySem.W.Frag} {H : Hp} {a : Addr} {xs : List V} (h : SeqF H a xs) : SqL K H a xs ∨ SqT K H a xs := h.imp SqL.of SqT.of
def spChk (K : PySem.W.Frag) : Sp := fun vs H Q _ => ∃ (a : Addr) (pf : Str) (gs : List Str) (io : Bool), vs = [.ref a, .str pf] ∧ SeqF H a (gs.map V.str) ∧ Gv pf gs io ∧ ∀ (T : Addr) (H' : Hp), Same H H' → H' T = some (.tup ((flOf gs io).map V.str)) → Q (.ref T) H'
section
variable {P : Program} {w : World} {K : PySem.W.Frag} {mg : Str → Option Value} {base : Heap}
theorem scHasGap : FnScope ["text", "sign"] ["text"] (defScope sHasGap) := ⟨rfl, rfl, rfl, by decide +kernel, rfl, by decide +kernel, by decide +kernel⟩
theorem ok_hasGap {f : Addr} {fd : FuncData} (F : Fun K "has_gap" "has_gap" sHasGap f fd) (zAny : mg "any" = none) : FnOk P w K mg base CX0 1 f fd ["text"] spHasGap := by
  refine F.ok scHasGap (fun vs H Q E h => ?_) (fun cdv A outer s H vs Q E hr h => ?_)
  · obtain ⟨x, rfl, _⟩ := h
    rfl
  · obtain ⟨x, rfl, hx, k⟩ := h
    refine ⟨_, pss_one (ps_ret (pe_callB (cr_any rfl) (by rfl) zAny (by decide +kernel) (pa_cons (pe_lc (own := [("sign", 1)]) (g := gName 1) (tt := tYes) rfl scHasGap.nd (pi_str (pv 0)) (blkOk_by (N := ["text", "sign"]) (sc := defScope sHasGap) (by decide +kernel)) (fun _ _ _ _ _ => pg_name (i := 1) scHasGap.nd rfl (Or.inl rfl)) (fun _ _ _ _ _ => pts_nil)
      (fun _ _ _ _ _ => by exact pe_cmpR op_in_str (pv 1) pe_str (by rfl))) pa_nil))), ?_⟩
    have hl : x.cps.toList.length ≤ 1000 := by simpa [PySem.Str.length] using hx
    refine ⟨_, rfl, x, rfl, fun D hD => ?_⟩
    refine lc_it walk_str (BlI gapB H D x.cps.toList) (blI0 hD) (fun _ _ _ _ => trivial) (fun i v H' H'' hi h y => ?_) (fun H' h => ?_)
    · obtain ⟨rfl, c, hc, rfl⟩ := y
      refine ⟨rfl, _, rfl, _, _, rfl, rfl, ?_⟩
      exact blI_step hD (by rw [Array.getElem?_toList]; exact hc) h (Same.refl _) rfl (by omega)
    · obtain ⟨e, hl⟩ := blI_end (by simp) h
      exact ⟨D, _, rfl, SqL.of hl, k _ e⟩
theorem scIsFlag : FnScope ["text", "prefix_chars"] ["text", "prefix_chars"] (defScope sIsFlag) := ⟨rfl, rfl, rfl, by decide +kernel, rfl, by decide +kernel, by decide +kernel⟩
theorem ok_isFlag {f fG : Addr} {fd fdG : FuncData} (F : Fun K "is_flag" "is_flag" sIsFlag f fd) (G : At P w K mg base "has_gap" 1 ["text"] spHasGap fG fdG) : FnOk P w K mg base CX0 2 f fd ["text", "prefix_chars"] spIsFlag := by
  refine F.ok scIsFlag (fun vs H Q E h => ?_) (fun cdv A outer s H vs Q E hr h => ?_)
  · obtain ⟨x, pf, rfl, _⟩ := h
    rfl
  · obtain ⟨x, pf, rfl, hx, hp, k⟩ := h
    refine ⟨_, pss_one (ps_ret (pe_and (pe_cmpR op_ne (pv 0) pe_str (nomark _)) (pe_and (pe_cmpR op_in_str (pe_ix ix_str (pv 0) pe_int (fun _ _ => rfl)) (pv 1) (by rfl)) (pe_and (pe_cmpR op_ne (pe_bm PySem.F.plainAttrs_str PySem.F.slot_str_lstrip PySem.F.type_str_lstrip mt_lstripChars (pv 0) (pa_cons (pv 1) pa_nil)) pe_str (nomark _)) (pe_one (pe_not (pe_call G.ok hr rfl G.m G.k G.b .nil pass0 (pa_cons (pv 0) pa_nil)))))))), ?_⟩
    have hl := hx.ln
    refine ⟨_, rfl, rfl, true, congrArg V.bl (by rw [decide_eq_false fun z => hx.ne (V.str.inj z)]; rfl), iteT ?_⟩
    refine ⟨_, rfl, x, 0, _, rfl, rfl, (by rw [PySem.sizeLine_eq]; omega), (wAt_at (x := x) (i := 0) (by have := hx.l2; omega) : atI x.cps.toList ((0 : Nat) : Int) = _), _, rfl, _, _, rfl, rfl, true, congrArg V.bl hx.h0, iteT ?_⟩
    refine ⟨_, rfl, rfl, _, rfl, _, _, rfl, rfl, (by rw [PySem.sizeLine_eq]; omega), rfl, true, congrArg V.bl (by rw [decide_eq_false fun z => hx.ls (V.str.inj z)]; rfl), iteT ?_⟩
    refine ⟨_, rfl, x, rfl, by omega, fun H' e => ?_⟩
    rw [hx.gp]
    exact ⟨false, rfl, k H' e⟩
end
end K67

namespace K67
open PySem L2 PyProof.Rows
theorem str_len0 {x : Str} (h : x.length = 0) : x = "" := by
  cases x with
  | mk a =>
    have : a = #[] := Array.eq_empty_of_size_eq_zero h
    rw [this]
    rfl
section
variable {P : Program} {w : World} {K : PySem.W.Frag} {mg : Str → Option Value} {base : Heap}
abbrev nChk : List Str := ["flags", "prefix_chars", "flag"]
theorem scChk : FnScope nChk ["flags", "prefix_chars"] (defScope sChkFlags) := ⟨rfl, rfl, rfl, by decide +kernel, rfl, by decide +kernel, by decide +kernel⟩
theorem ok_chk {f fR fF : Addr} {fd fdR fdF : FuncData} (F : Fun K "checked_flags" "checked_flags" sChkFlags f fd) (T : TxtB mg) (zStr : mg "str" = none) (R : At P w K mg base "is_row" 1 ["thing"] (spIsRow K) fR fdR) (G : At P w K mg base "is_flag" 2 ["text", "prefix_chars"] spIsFlag fF fdF) :
    FnOk P w K mg base CX0 3 f fd ["flags", "prefix_chars"] (spChk K) := by
  refine F.ok scChk (fun vs H Q E h => ?_) (fun cdv A outer s H vs Q E hr h => ?_)
  · obtain ⟨a, pf, gs, io, rfl, _⟩ := h
    rfl
  · obtain ⟨a, pf, gs, io, rfl, ha, hG, k⟩ := h
    have r1 : Room 1 (A.deeper (PyProof.Rows.envOfC "checked_flags" (defScope sChkFlags) s.heap.objs.size f cdv)) := hr.mono (by decide)
    have hn := hG.n
    have hpl := hG.pl
    rcases ha with ha | ha
    · refine ⟨_, pss_cons (ps_if (PW.pt (pw_or (pt_not (pt_val (pe_call R.ok r1 rfl R.m R.k R.b .nil pass0 (pa_cons (pv 0) pa_nil)))) (pw_or1 (pt_not (pt_val (pe_callB (cr_all rfl) (by rfl) T.all (by decide +kernel) (pa_cons (pe_lc (own := [("flag", 2)]) (g := gName 2) (tt := tYes) (te := tCB (rIsi K) (tCons (tVar 2) (tCons (tC (.ty "str")) tNil))) rfl scChk.nd (pi_list (pv 0)) (blkOk_by (N := nChk) (sc := defScope sChkFlags) (by decide +kernel)) (fun _ _ _ _ _ => pg_name (i := 2) scChk.nd rfl (Or.inl rfl)) (fun _ _ _ _ _ => pts_nil)
        (fun _ _ _ _ _ => by exact pe_callB call_isi (by rfl) T.isinstance (by decide +kernel) (pa_cons (pv 2) (pa_cons (pe_bltn (v := .ty "str") (by rfl) zStr (by decide +kernel) rfl) pa_nil)))) pa_nil))))))) pss_never pss_nil)
        (pss_mid (ps_if (PW.pt (pw_or (pt_cmpR op_eq (pe_callB call_len_seq (by rfl) T.len PySem.boot_len (pa_cons (pv 0) pa_nil)) pe_int (nomark _)) (pw_or1 (PW.pt (pw_and (pt_cmpR op_eq (pe_callB call_len_seq (by rfl) T.len PySem.boot_len (pa_cons (pv 0) pa_nil)) pe_int (nomark _)) (pw_and (pt_cmpR op_ne (pe_ix ix_list (pv 0) pe_int (fun _ _ => rfl)) pe_str (nomark _)) (pw_and1 (pt_cmpR op_notin_str (pe_ix ix_str (pe_ix ix_list (pv 0) pe_int (fun _ _ => rfl)) pe_int (fun _ _ => rfl)) (pv 1) (by rfl))))))))) (pss_one (ps_ret (pe_tup pa_nil))) pss_nil)
        (pss_cons (ps_if (pt_not (pt_val (pe_callB (cr_all rfl) (by rfl) T.all (by decide +kernel) (pa_cons (pe_lc (own := [("flag", 2)]) (g := gName 2) (tt := tYes) (te := tCall spIsFlag [] E0 (tCons (tVar 2) (tCons (tVar 1) tNil))) rfl scChk.nd (pi_list (pv 0)) (blkOk_by (N := nChk) (sc := defScope sChkFlags) (by decide +kernel)) (fun _ _ _ _ _ => pg_name (i := 2) scChk.nd rfl (Or.inl rfl)) (fun _ _ _ _ _ => pts_nil)
          (fun _ _ _ _ _ => by exact pe_call G.ok (by exact hr) rfl G.m G.k G.b .nil pass0 (pa_cons (pv 2) (pa_cons (pv 1) pa_nil)))) pa_nil)))) pss_never pss_nil)
        (pss_one (ps_ret (pe_callTy call_tuple_of (by rfl) T.tuple (by decide +kernel) (pa_cons (pv 0) pa_nil)))))), ?_⟩
      refine ⟨_, rfl, _, "list", true, rfl, .base (.lst ha), by decide +kernel, fun H1 e1 => ⟨_, rfl, iteF ?_⟩⟩
      -- all isinstance
      refine ⟨_, rfl, a, rfl, ⟨_, SqL.of (e1 _ _ ha)⟩, fun D hD => ?_⟩
      refine lc_list (K := K) (a := a) (xs := gs.map V.str) (BlI (fun _ => true) H1 D gs) (blI0 hD) (fun i H' _ h => SqL.of (h.1 _ _ (e1 _ _ ha))) (fun i x H' hx h => ?_) (fun H2 h => ?_)
      · obtain ⟨z, hz, rfl⟩ := str_at hx
        exact ⟨rfl, _, rfl, _, .ty "str", _, _, true, rfl, .ty _, .base (.str z), kit_ty (by decide +kernel), blI_step hD hz h (Same.refl _) rfl (by omega)⟩
      obtain ⟨e2, hl⟩ := blI_end (by rw [List.length_map]) h
      refine ⟨D, _, rfl, SqL.of hl, ?_⟩
      rw [all_tt]
      refine ⟨_, rfl, iteF ?_⟩
      have e12 := e1.trans e2
      have ha2 := e12 _ _ ha
      have hlen : (gs.map V.str).length = gs.length := List.length_map ..
      refine ⟨fun σ' H' => io = true ∧ σ' = [some (.ref a), some (.str pf), none] ∧ H2 = H', ?_, ?_⟩
      · -- a positional or not
        cases io with
        | false =>
          rcases hG.po rfl with rfl | ⟨g, rfl, g1, g2, g3, g4⟩
          · refine ⟨_, rfl, a, _, rfl, .inl (SqL.of ha2), rfl, true, rfl, iteT (iteT ?_)⟩
            exact ⟨(by show 0 ≤ sizeLine; decide), fun T hT => k T _ (e12.trans (same_upd hT)) upd_same⟩
          · have hgl : 1 ≤ g.length := by
              cases hz : g.length with
              | zero => exact absurd (str_len0 hz) g1
              | succ n => omega
            refine ⟨_, rfl, a, _, rfl, .inl (SqL.of ha2), rfl, false, rfl, iteF ⟨_, rfl, a, _, rfl, .inl (SqL.of ha2), rfl, true, rfl, iteT ?_⟩⟩
            refine ⟨_, rfl, a, _, _, _, rfl, rfl, SqL.of ha2, atI_nat (j := 0) rfl, rfl, true, congrArg V.bl (by rw [decide_eq_false fun z => g1 (V.str.inj z)]; rfl), iteT ?_⟩
            refine ⟨_, rfl, a, _, _, _, rfl, rfl, SqL.of ha2, atI_nat (j := 0) rfl, g, 0, _, rfl, rfl, (by rw [PySem.sizeLine_eq]; omega), (wAt_at (x := g) (i := 0) hgl : atI g.cps.toList ((0 : Nat) : Int) = _), _, rfl, _, _, rfl, rfl, true, congrArg V.bl (by have := g3; unfold inP at this; simpa using this), iteT ?_⟩
            exact ⟨(by show 0 ≤ sizeLine; decide), fun T hT => k T _ (e12.trans (same_upd hT)) upd_same⟩
        | true =>
          obtain ⟨f0, fA⟩ := hG.op rfl
          obtain ⟨z, zs, rfl⟩ : ∃ z zs, gs = z :: zs := by
            cases gs with
            | nil => exact absurd rfl f0
            | cons z zs => exact ⟨z, zs, rfl⟩
          have hz := fA z List.mem_cons_self
          refine ⟨_, rfl, a, _, rfl, .inl (SqL.of ha2), rfl, false, ?_, iteF ⟨_, rfl, a, _, rfl, .inl (SqL.of ha2), rfl, _, rfl, ?_⟩⟩
          · refine congrArg V.bl (decide_eq_false fun q => ?_)
            have := V.int.inj q
            rw [hlen, List.length_cons] at this
            omega
          refine ite2 (fun hc => ?_) (fun hc => iteF ⟨rfl, rfl, rfl⟩)
          have hzl := hz.l2
          have hzn := hz.ln
          refine ⟨_, rfl, a, _, _, _, rfl, rfl, SqL.of ha2, atI_nat (j := 0) rfl, rfl, true, congrArg V.bl (by rw [decide_eq_false fun q => hz.ne (V.str.inj q)]; rfl), iteT ?_⟩
          refine ⟨_, rfl, a, _, _, _, rfl, rfl, SqL.of ha2, atI_nat (j := 0) rfl, z, 0, _, rfl, rfl, (by rw [PySem.sizeLine_eq]; omega), (wAt_at (x := z) (i := 0) (by omega) : atI z.cps.toList ((0 : Nat) : Int) = _), _, rfl, _, _, rfl, rfl, false, congrArg V.bl (by have := hz.h0; unfold inP at this; simpa using this), iteF ⟨rfl, rfl, rfl⟩⟩
      rintro _ _ ⟨rfl, rfl, rfl⟩
      obtain ⟨f0, fA⟩ := hG.op rfl
      refine ⟨_, rfl, a, rfl, ⟨_, SqL.of ha2⟩, fun D hD => ?_⟩
      refine lc_list (K := K) (a := a) (xs := gs.map V.str) (BlI (fun _ => true) H2 D gs) (blI0 hD) (fun i H' _ h => SqL.of (h.1 _ _ ha2)) (fun i x H' hx h => ?_) (fun H3 h => ?_)
      · obtain ⟨y, hy, rfl⟩ := str_at hx
        exact ⟨rfl, _, rfl, _, rfl, y, pf, rfl, fA y (List.mem_of_getElem? hy), hpl, fun H4 e4 => blI_step hD hy h e4 rfl (by omega)⟩
      obtain ⟨e3, hl⟩ := blI_end (by rw [List.length_map]) h
      refine ⟨D, _, rfl, SqL.of hl, ?_⟩
      rw [all_tt]
      refine ⟨_, rfl, iteF ⟨_, rfl, a, _, rfl, .inl ⟨SqL.of (e3 _ _ ha2), fun T hT => k T _ ((e12.trans e3).trans (same_upd hT)) upd_same⟩⟩⟩
    · refine ⟨_, pss_cons (ps_if (PW.pt (pw_or (pt_not (pt_val (pe_call R.ok r1 rfl R.m R.k R.b .nil pass0 (pa_cons (pv 0) pa_nil)))) (pw_or1 (pt_not (pt_val (pe_callB (cr_all rfl) (by rfl) T.all (by decide +kernel) (pa_cons (pe_lc (own := [("flag", 2)]) (g := gName 2) (tt := tYes) (te := tCB (rIsi K) (tCons (tVar 2) (tCons (tC (.ty "str")) tNil))) rfl scChk.nd (pi_tup (pv 0)) (blkOk_by (N := nChk) (sc := defScope sChkFlags) (by decide +kernel)) (fun _ _ _ _ _ => pg_name (i := 2) scChk.nd rfl (Or.inl rfl)) (fun _ _ _ _ _ => pts_nil)
        (fun _ _ _ _ _ => by exact pe_callB call_isi (by rfl) T.isinstance (by decide +kernel) (pa_cons (pv 2) (pa_cons (pe_bltn (v := .ty "str") (by rfl) zStr (by decide +kernel) rfl) pa_nil)))) pa_nil))))))) pss_never pss_nil)
        (pss_mid (ps_if (PW.pt (pw_or (pt_cmpR op_eq (pe_callB call_len_seq (by rfl) T.len PySem.boot_len (pa_cons (pv 0) pa_nil)) pe_int (nomark _)) (pw_or1 (PW.pt (pw_and (pt_cmpR op_eq (pe_callB call_len_seq (by rfl) T.len PySem.boot_len (pa_cons (pv 0) pa_nil)) pe_int (nomark _)) (pw_and (pt_cmpR op_ne (pe_ix ix_tup (pv 0) pe_int (fun _ _ => rfl)) pe_str (nomark _)) (pw_and1 (pt_cmpR op_notin_str (pe_ix ix_str (pe_ix ix_tup (pv 0) pe_int (fun _ _ => rfl)) pe_int (fun _ _ => rfl)) (pv 1) (by rfl))))))))) (pss_one (ps_ret (pe_tup pa_nil))) pss_nil)
        (pss_cons (ps_if (pt_not (pt_val (pe_callB (cr_all rfl) (by rfl) T.all (by decide +kernel) (pa_cons (pe_lc (own := [("flag", 2)]) (g := gName 2) (tt := tYes) (te := tCall spIsFlag [] E0 (tCons (tVar 2) (tCons (tVar 1) tNil))) rfl scChk.nd (pi_tup (pv 0)) (blkOk_by (N := nChk) (sc := defScope sChkFlags) (by decide +kernel)) (fun _ _ _ _ _ => pg_name (i := 2) scChk.nd rfl (Or.inl rfl)) (fun _ _ _ _ _ => pts_nil)
          (fun _ _ _ _ _ => by exact pe_call G.ok (by exact hr) rfl G.m G.k G.b .nil pass0 (pa_cons (pv 2) (pa_cons (pv 1) pa_nil)))) pa_nil)))) pss_never pss_nil)
        (pss_one (ps_ret (pe_callTy call_tuple_of (by rfl) T.tuple (by decide +kernel) (pa_cons (pv 0) pa_nil)))))), ?_⟩
      refine ⟨_, rfl, _, "tuple", true, rfl, .base (.tup ha), by decide +kernel, fun H1 e1 => ⟨_, rfl, iteF ?_⟩⟩
      -- all isinstance
      refine ⟨_, rfl, a, rfl, ⟨_, SqT.of (e1 _ _ ha)⟩, fun D hD => ?_⟩
      refine lc_tup (K := K) (a := a) (xs := gs.map V.str) (BlI (fun _ => true) H1 D gs) (blI0 hD) (fun i H' _ h => SqT.of (h.1 _ _ (e1 _ _ ha))) (fun i x H' hx h => ?_) (fun H2 h => ?_)
      · obtain ⟨z, hz, rfl⟩ := str_at hx
        exact ⟨rfl, _, rfl, _, .ty "str", _, _, true, rfl, .ty _, .base (.str z), kit_ty (by decide +kernel), blI_step hD hz h (Same.refl _) rfl (by omega)⟩
      obtain ⟨e2, hl⟩ := blI_end (by rw [List.length_map]) h
      refine ⟨D, _, rfl, SqL.of hl, ?_⟩
      rw [all_tt]
      refine ⟨_, rfl, iteF ?_⟩
      have e12 := e1.trans e2
      have ha2 := e12 _ _ ha
      have hlen : (gs.map V.str).length = gs.length := List.length_map ..
      refine ⟨fun σ' H' => io = true ∧ σ' = [some (.ref a), some (.str pf), none] ∧ H2 = H', ?_, ?_⟩
      · -- a positional or not
        cases io with
        | false =>
          rcases hG.po rfl with rfl | ⟨g, rfl, g1, g2, g3, g4⟩
          · refine ⟨_, rfl, a, _, rfl, .inr (SqT.of ha2), rfl, true, rfl, iteT (iteT ?_)⟩
            exact ⟨(by show 0 ≤ sizeLine; decide), fun T hT => k T _ (e12.trans (same_upd hT)) upd_same⟩
          · have hgl : 1 ≤ g.length := by
              cases hz : g.length with
              | zero => exact absurd (str_len0 hz) g1
              | succ n => omega
            refine ⟨_, rfl, a, _, rfl, .inr (SqT.of ha2), rfl, false, rfl, iteF ⟨_, rfl, a, _, rfl, .inr (SqT.of ha2), rfl, true, rfl, iteT ?_⟩⟩
            refine ⟨_, rfl, a, _, _, _, rfl, rfl, SqT.of ha2, atI_nat (j := 0) rfl, rfl, true, congrArg V.bl (by rw [decide_eq_false fun z => g1 (V.str.inj z)]; rfl), iteT ?_⟩
            refine ⟨_, rfl, a, _, _, _, rfl, rfl, SqT.of ha2, atI_nat (j := 0) rfl, g, 0, _, rfl, rfl, (by rw [PySem.sizeLine_eq]; omega), (wAt_at (x := g) (i := 0) hgl : atI g.cps.toList ((0 : Nat) : Int) = _), _, rfl, _, _, rfl, rfl, true, congrArg V.bl (by have := g3; unfold inP at this; simpa using this), iteT ?_⟩
            exact ⟨(by show 0 ≤ sizeLine; decide), fun T hT => k T _ (e12.trans (same_upd hT)) upd_same⟩
        | true =>
          obtain ⟨f0, fA⟩ := hG.op rfl
          obtain ⟨z, zs, rfl⟩ : ∃ z zs, gs = z :: zs := by
            cases gs with
            | nil => exact absurd rfl f0
            | cons z zs => exact ⟨z, zs, rfl⟩
          have hz := fA z List.mem_cons_self
          refine ⟨_, rfl, a, _, rfl, .inr (SqT.of ha2), rfl, false, ?_, iteF ⟨_, rfl, a, _, rfl, .inr (SqT.of ha2), rfl, _, rfl, ?_⟩⟩
          · refine congrArg V.bl (decide_eq_false fun q => ?_)
            have := V.int.inj q
            rw [hlen, List.length_cons] at this
            omega
          refine ite2 (fun hc => ?_) (fun hc => iteF ⟨rfl, rfl, rfl⟩)
          have hzl := hz.l2
          have hzn := hz.ln
          refine ⟨_, rfl, a, _, _, _, rfl, rfl, SqT.of ha2, atI_nat (j := 0) rfl, rfl, true, congrArg V.bl (by rw [decide_eq_false fun q => hz.ne (V.str.inj q)]; rfl), iteT ?_⟩
          refine ⟨_, rfl, a, _, _, _, rfl, rfl, SqT.of ha2, atI_nat (j := 0) rfl, z, 0, _, rfl, rfl, (by rw [PySem.sizeLine_eq]; omega), (wAt_at (x := z) (i := 0) (by omega) : atI z.cps.toList ((0 : Nat) : Int) = _), _, rfl, _, _, rfl, rfl, false, congrArg V.bl (by have := hz.h0; unfold inP at this; simpa using this), iteF ⟨rfl, rfl, rfl⟩⟩
      rintro _ _ ⟨rfl, rfl, rfl⟩
      obtain ⟨f0, fA⟩ := hG.op rfl
      refine ⟨_, rfl, a, rfl, ⟨_, SqT.of ha2⟩, fun D hD => ?_⟩
      refine lc_tup (K := K) (a := a) (xs := gs.map V.str) (BlI (fun _ => true) H2 D gs) (blI0 hD) (fun i H' _ h => SqT.of (h.1 _ _ ha2)) (fun i x H' hx h => ?_) (fun H3 h => ?_)
      · obtain ⟨y, hy, rfl⟩ := str_at hx
        exact ⟨rfl, _, rfl, _, rfl, y, pf, rfl, fA y (List.mem_of_getElem? hy), hpl, fun H4 e4 => blI_step hD hy h e4 rfl (by omega)⟩
      obtain ⟨e3, hl⟩ := blI_end (by rw [List.length_map]) h
      refine ⟨D, _, rfl, SqL.of hl, ?_⟩
      rw [all_tt]
      refine ⟨_, rfl, iteF ⟨_, rfl, a, _, rfl, .inr ⟨SqT.of (e3 _ _ ha2), k a _ (e12.trans e3) (e3 _ _ ha2)⟩⟩⟩
end
end K67

/-! a def called with keywords, by the names alone -/
namespace XB
open PySem PySem.Spec PyProof.Rows L2 PySem.W
theorem looks_for {α β : Type} {M : Model} {h : Heap} {f : α → β → Sem (ForInStep β)} (R : List α → β → Prop) (hs : ∀ a l b, R (a :: l) b → ∃ b', Looks M h (f a b) (.yield b') ∧ R l b') : ∀ (l : List α) (b : β), R l b → ∃ b', Looks M h (forIn l b f) b' ∧ R [] b'
  | [], b, r => ⟨b, by rw [List.forIn_nil]; exact .of_pure rfl, r⟩
  | a :: l, b, r => by
    obtain ⟨b1, l1, r1⟩ := hs a l b r
    obtain ⟨b2, l2, r2⟩ := looks_for R hs l b1 r1
    refine ⟨b2, ?_, r2⟩
    rw [List.forIn_cons]
    exact l1.andThen l2
theorem looks_forThen {α β γ : Type} {M : Model} {h : Heap} {f : α → β → Sem (ForInStep β)} {k : β → Sem γ} {l : List α} {b : β} {r : γ} (R : List α → β → Prop) (hs : ∀ a l b, R (a :: l) b → ∃ b', Looks M h (f a b) (.yield b') ∧ R l b') (r0 : R l b) (hk : ∀ b', R [] b' → Looks M h (k b') r) : Looks M h (forIn l b f >>= k) r := by
  obtain ⟨b', l1, r1⟩ := looks_for R hs l b r0
  exact l1.andThen (hk b' r1)
/-- those that lack, behind -/
def addM (S : List (Str × Value)) (l : List (Str × Value)) : List (Str × Value) := l.foldl (fun s q => if (s.lookup q.1).isNone then s ++ [q] else s) S
def bindsOf (ns ko : List Str) (us its : List Value) (kw : List (Str × Value)) (mv : List Value) : List (Str × Value) :=
  (ns ++ ko).filterMap fun n => ((addM (addM (ns.zip us ++ kw) ((ns.drop (ns.length - its.length)).zip its)) (ko.zip mv)).lookup n).map fun v => (n, v)
theorem lookup_isSome (k : Str) : ∀ l : List (Str × Value), (l.lookup k).isSome = (l.map (·.1)).contains k
  | [] => rfl
  | (j, v) :: l => by
    have ih := lookup_isSome k l
    rw [List.lookup_cons, List.map_cons, List.contains_cons]
    cases e : (k == j) with
    | true => rfl
    | false => rw [Bool.false_or]; exact ih
theorem zip_fst : ∀ (a : List Str) (b : List Value), b.length ≤ a.length → (a.zip b).map (·.1) = a.take b.length
  | [], [], _ => rfl
  | [], _ :: _, h => absurd h (Nat.not_succ_le_zero _)
  | _ :: _, [], _ => rfl
  | x :: a, y :: b, h => by
    rw [List.zip_cons_cons, List.map_cons, zip_fst a b (Nat.le_of_succ_le_succ h)]
    rfl
theorem looks_bind {K : Frag} {M : Model} {h : Heap} {fd : FuncData} {T D : Addr} {o : Obj} {m : Nat} {ns ko ks : List Str} {us its ws mv : List Value} (X : K.In h) (h1 : fd.params.posonlyargs = []) (h2 : fd.params.vararg = none) (h3 : fd.params.kwarg = none) (h4 : fd.params.args.map (·.arg) = ns) (h5 : fd.params.kwonlyargs.map (·.arg) = ko)
    (hd : fd.defaults = .ref T) (lT : K.lookup T = some o) (oT : o.data = .seq its.toArray m) (hk : fd.kwdefaults = .ref D) (hks : ∀ q ∈ ko.zip mv, nsIn K D q.1 = some (some q.2)) (lm : mv.length = ko.length)
    (lu : us.length ≤ ns.length) (lw : ws.length = ks.length) (li : its.length ≤ ns.length) (hc : ∀ k ∈ ks, (ns.contains k || ko.contains k) = true) (nd : (ns.take us.length ++ ks).Nodup) (hm : ∀ x ∈ ns.take (ns.length - its.length), (ns.take us.length ++ ks).contains x = true) :
    Looks M h (bindArgs fd ⟨us, ks.zip ws⟩) (bindsOf ns ko us its (ks.zip ws) mv) := by
  unfold bindArgs
  simp only [h1, h2, h3, h4, h5, List.map_nil, List.nil_append]
  have kz := zip_fst ns us lu
  have kk : (ks.zip ws).map (·.1) = ks := by
    rw [zip_fst ks ws (by omega), lw, List.take_length]
  -- the keywords
  refine looks_forThen (fun (l : List (Str × Value)) (b : List (Str × Value) × List (Str × Value)) => ∃ pre, ks.zip ws = pre ++ l ∧ b = (ns.zip us ++ pre, [])) ?_ ⟨[], rfl, by rw [List.append_nil]⟩ ?_
  · rintro a l b ⟨pre, e1, rfl⟩
    refine ⟨(ns.zip us ++ (pre ++ [a]), []), ?_, pre ++ [a], by rw [e1]; simp, rfl⟩
    have ea : ks = pre.map (·.1) ++ a.1 :: l.map (·.1) := by rw [← kk, e1]; simp
    have hin : a.1 ∈ ks := by rw [ea]; simp
    have hno : ((ns.zip us ++ pre).lookup a.1).isSome = false := by
      rw [lookup_isSome, List.map_append, kz]
      have h6 := nd
      rw [ea, ← List.append_assoc] at h6
      have h7 := (List.nodup_append.mp h6).2.2
      cases q : (ns.take us.length ++ pre.map (·.1)).contains a.1 with
      | false => rfl
      | true => exact absurd rfl (h7 a.1 (by simpa using q) a.1 List.mem_cons_self)
    rw [if_pos (hc a.1 hin), if_neg (by rw [hno]; exact Bool.false_ne_true)]
    exact .of_pure (by rw [List.append_assoc])
  rintro _ ⟨pre, e1, rfl⟩
  rw [List.append_nil] at e1
  subst e1
  rw [hd]
  refine looks_items X lT oT ?_
  have hg : ¬ ((decide (us.length > ns.length) && (none : Option Arg).isNone) = true) := by
    rw [decide_eq_false (by omega)]
    exact Bool.false_ne_true
  rw [if_neg hg]
  have ed : List.drop (((some its.toArray).getD #[]).toList.length - ns.length) ((some its.toArray).getD #[]).toList = its := by
    have e0 : ((some its.toArray).getD #[]).toList = its := rfl
    rw [e0, show its.length - ns.length = 0 by omega, List.drop_zero]
  rw [ed]
  have hmiss : List.filter (fun n => (List.lookup n ((ns.zip us ++ ks.zip ws, ([] : List (Str × Value))).fst)).isNone) (List.take (ns.length - its.length) ns) = [] := by
    rw [List.filter_eq_nil_iff]
    intro x hx
    have h6 := hm x hx
    have h7 := lookup_isSome x (ns.zip us ++ ks.zip ws)
    rw [List.map_append, kz, kk, h6] at h7
    show ¬ (List.lookup x (ns.zip us ++ ks.zip ws)).isNone = true
    cases e : List.lookup x (ns.zip us ++ ks.zip ws) with
    | none =>
      rw [e] at h7
      cases h7
    | some v => exact Bool.false_ne_true
  rw [hmiss]
  rw [if_neg (by simp)]
  -- defaults
  refine looks_forThen (fun (l : List (Str × Value)) (b : List (Str × Value)) => ∃ pre, (ns.drop (ns.length - its.length)).zip its = pre ++ l ∧ b = addM (ns.zip us ++ ks.zip ws) pre) ?_ ⟨[], rfl, rfl⟩ ?_
  · rintro a l b ⟨pre, e1, rfl⟩
    refine ⟨addM (ns.zip us ++ ks.zip ws) (pre ++ [a]), ?_, pre ++ [a], by rw [e1]; simp, rfl⟩
    have ea : addM (ns.zip us ++ ks.zip ws) (pre ++ [a]) = if ((addM (ns.zip us ++ ks.zip ws) pre).lookup a.1).isNone then addM (ns.zip us ++ ks.zip ws) pre ++ [a] else addM (ns.zip us ++ ks.zip ws) pre := by
      unfold addM
      rw [List.foldl_append]
      rfl
    rw [ea]
    by_cases q : ((addM (ns.zip us ++ ks.zip ws) pre).lookup a.1).isNone = true
    · rw [if_pos q, if_pos q]
      exact .of_pure rfl
    · rw [if_neg q, if_neg q]
      exact .of_pure rfl
  rintro _ ⟨pre, e1, rfl⟩
  rw [List.append_nil] at e1
  subst e1
  generalize hS : addM (ns.zip us ++ ks.zip ws) ((ns.drop (ns.length - its.length)).zip its) = S2
  -- keyword-only ones
  refine looks_forThen (fun (l : List Str) (b : List (Str × Value) × List Str) => ∃ pre m1 m2, ko = pre ++ l ∧ mv = m1 ++ m2 ∧ m1.length = pre.length ∧ b = (addM S2 (pre.zip m1), [])) ?_ ⟨[], [], mv, rfl, rfl, rfl, rfl⟩ ?_
  · rintro a l b ⟨pre, m1, m2, e1, e2, e3, rfl⟩
    cases m2 with
    | nil =>
      rw [e1, e2] at lm
      simp at lm
      omega
    | cons v m2 =>
      have ez : ko.zip mv = pre.zip m1 ++ (a, v) :: l.zip m2 := by
        rw [e1, e2, List.zip_append e3.symm]
        rfl
      have hq := hks (a, v) (by rw [ez]; simp)
      have ea : addM S2 ((pre ++ [a]).zip (m1 ++ [v])) = if ((addM S2 (pre.zip m1)).lookup a).isNone then addM S2 (pre.zip m1) ++ [(a, v)] else addM S2 (pre.zip m1) := by
        rw [List.zip_append e3.symm]
        unfold addM
        rw [List.foldl_append]
        rfl
      refine ⟨(addM S2 ((pre ++ [a]).zip (m1 ++ [v])), []), ?_, pre ++ [a], m1 ++ [v], m2, by rw [e1]; simp, by rw [e2]; simp, by rw [List.length_append, List.length_append, e3]; rfl, rfl⟩
      rw [ea]
      by_cases q : ((addM S2 (pre.zip m1)).lookup a).isNone = true
      · rw [if_pos q, if_pos q, hk]
        exact (looks_nsIn X hq).andThen (.of_pure rfl)
      · rw [if_neg q, if_neg q]
        exact .of_pure rfl
  rintro _ ⟨pre, m1, m2, e1, e2, e3, rfl⟩
  rw [List.append_nil] at e1
  subst e1
  have em : m2 = [] := by
    rw [e2, List.length_append] at lm
    exact List.length_eq_zero_iff.mp (by omega)
  subst em
  rw [List.append_nil] at e2
  subst e2
  rw [if_neg (by simp)]
  refine .of_pure ?_
  unfold bindsOf
  rw [hS]
/-- the keywords of a call with all keyword-only defaults told: what it binds -/
theorem kbn {K : Frag} {x qual : Str} {params : Arguments} {body : List Stmt} {scope : Scope} {dvs : List V} {kws : List (Str × V)} {f : Addr} {fd : FuncData} (F : FunD K x qual params body scope dvs kws f fd) {ns ko ps : List Str} (n : Nat) (ks : List Str) (hd : dvs ≠ []) (hk : kws ≠ []) (h1 : params.posonlyargs = []) (h2 : params.vararg = none) (h3 : params.kwarg = none) (h4 : params.args.map (·.arg) = ns) (h5 : params.kwonlyargs.map (·.arg) = ko) (hko : kws.map (·.1) = ko)
    (ln : n ≤ ns.length) (ld : dvs.length ≤ ns.length) (hc : ∀ k ∈ ks, (ns.contains k || ko.contains k) = true) (nd : (ns.take n ++ ks).Nodup) (hm : ∀ x ∈ ns.take (ns.length - dvs.length), (ns.take n ++ ks).contains x = true)
    (g : {α : Type} → List α → List α → List α → List α → List α) (hrel : ∀ {vs ds mz zs : List V} {us its mv ws : List Value}, Vals vs us → Vals ds its → Vals mz mv → Vals zs ws → Vals (g vs ds mz zs) (g us its mv ws))
    (hb : ∀ us its mv ws : List Value, us.length = n → its.length = dvs.length → mv.length = kws.length → ws.length = ks.length → bindsOf ns ko us its (ks.zip ws) mv = ps.zip (g us its mv ws)) :
    ∃ its mv : List Value, KBn K fd ps n ks (fun us ws => g us its mv ws) (fun vs zs => g vs dvs (kws.map (·.2)) zs) := by
  obtain ⟨oc, od, dV, kV, doc, pm, an, cdv, ct, osl, rfl, lk, hcd, hD, hK⟩ := F.ex
  rcases hD with ⟨e, _⟩ | ⟨_, T, o, its, m, rfl, lT, oT, rT⟩
  · exact absurd e hd
  · rcases hK with e | ⟨D, rfl, hq⟩
    · exact absurd e hk
    · obtain ⟨mv, hl, rk, hks⟩ := kwd_vals hq
      have li := rT.length
      refine ⟨its, mv, ⟨fun s us ws X l1 l2 => ?_, fun r1 r2 => hrel r1 rT rk r2⟩⟩
      rw [← hb us its mv ws l1 li.symm hl l2]
      rw [hko] at hks
      refine BindsTo.of_looks fun M => looks_bind X h1 h2 h3 h4 h5 rfl lT oT rfl hks ?_ (by omega) l2 (by omega) hc (by rw [l1]; exact nd) (by rw [l1, ← li]; exact hm)
      rw [hl, ← hko, List.length_map]
end XB

namespace K67
open PySem L2 PyProof.Rows
/-! ### options as data; the name of an argument -/
def gD (ld : DD) (k : Str) : PyData := (lookD ld k).getD .none
structure OpH (H : Hp) (o : Addr) (kvs : List (Key × V)) (ld : DD) : Prop where
  at_ : H o = some (.dK kvs)
  he : Held H kvs ld
theorem OpH.keep {H H' : Hp} {o : Addr} {kvs : List (Key × V)} {ld : DD} (h : OpH H o kvs ld) (e : Same H H') : OpH H' o kvs ld := ⟨e _ _ h.at_, held_mono e h.he⟩
theorem OpH.iD {H : Hp} {o : Addr} {kvs : List (Key × V)} {ld : DD} (h : OpH H o kvs ld) : IsD H o := .inl ⟨_, .inl h.at_⟩
/-- what the options tell for a key -/
theorem OpH.get {H : Hp} {o : Addr} {kvs : List (Key × V)} {ld : DD} (h : OpH H o kvs ld) (k : Str) : ∃ ov, DGet H o (.str k) ov ∧ ((lookD ld k = none ∧ ov = none) ∨ ∃ d v, lookD ld k = some d ∧ ov = some v ∧ Dt H v d) := by
  refine ⟨_, DGet.k (k := (Sum.inr k : Key)) h.at_, ?_⟩
  rcases held_look k h.he with ⟨h1, h2⟩ | ⟨d, v, h1, h2, h3⟩
  · exact .inl ⟨h1, h2⟩
  · exact .inr ⟨d, v, h1, h2, h3⟩
/-- with a default of None -/
theorem OpH.getN {H : Hp} {o : Addr} {kvs : List (Key × V)} {ld : DD} (h : OpH H o kvs ld) (k : Str) : ∃ ov, DGet H o (.str k) ov ∧ Dt H (ov.getD .non) (gD ld k) := by
  obtain ⟨ov, h1, h2⟩ := h.get k
  refine ⟨ov, h1, ?_⟩
  unfold gD
  rcases h2 with ⟨e, rfl⟩ | ⟨d, v, e, rfl, hv⟩
  · rw [e]
    exact .non
  · rw [e]
    exact hv
structure Nmd (gs : List Str) (io : Bool) (ld : DD) : Prop where
  des : ∀ d, lookD ld "dest" = some d → ∃ z, d = .str z ∧ z ≠ "" ∧ z.length ≤ 100
  pos : io = false → ((lookD ld "dest" = none ∧ gs.length = 1) ∨ ((lookD ld "dest").isSome = true ∧ gs = []))
def headF (pf : Str) (gs : List Str) : Str := ((gs.filter fun x => inP pf (wAt x 1)) ++ gs).headD ""
def destOf (pf : Str) (gs : List Str) (io : Bool) (ld : DD) : Str := match lookD ld "dest" with
  | some (.str z) => z
  | _ => if io then Txt.replace (Txt.lstripChars (headF pf gs) pf) "-" "_" else gs.headD ""
def spNamed : Sp := fun vs H Q _ => ∃ (fa m o : Addr) (pf : Str) (gs : List Str) (io : Bool) (kvs : List (Key × V)) (ld : DD), vs = [.ref fa, .ref m, .ref o, .str pf] ∧ SeqF H fa (gs.map V.str) ∧ H m = some (.tup ((flOf gs io).map V.str)) ∧ Gv pf gs io ∧ OpH H o kvs ld ∧ Nmd gs io ld ∧ ∀ H', Same H H' → Q (.str (destOf pf gs io ld)) H'
theorem flOf_so {pf : Str} {gs : List Str} {io : Bool} (h : Gv pf gs io) : ∀ x ∈ flOf gs io, PyData.strOk x = true := fun x hx => by
  unfold flOf at hx
  cases io with
  | true => exact ((h.op rfl).2 x hx).so
  | false => exact nomatch hx
theorem replace1_len {x : Str} (h : x.length ≤ 1000) : x.length + (x.length + 1) * ("_" : Str).length ≤ 16777216 := by
  have : ("_" : Str).length = 1 := by decide
  rw [this]
  omega
section
variable {P : Program} {w : World} {K : PySem.W.Frag} {mg : Str → Option Value} {base : Heap}
abbrev nNamed : List Str := ["flags", "made", "options", "prefix_chars", "given", "long", "flag"]
theorem scNamed : FnScope nNamed ["flags", "made", "options", "prefix_chars"] (defScope sNamed) := ⟨rfl, rfl, rfl, by decide +kernel, rfl, by decide +kernel, by decide +kernel⟩
theorem ok_named {f : Addr} {fd : FuncData} (F : Fun K "named" "named" sNamed f fd) (T : TxtB mg) (zStr : mg "str" = none) : FnOk P w K mg base CX0 1 f fd ["flags", "made", "options", "prefix_chars"] spNamed := by
  refine F.ok scNamed (fun vs H Q E h => ?_) (fun cdv A outer s H vs Q E hr h => ?_)
  · obtain ⟨fa, m, o, pf, gs, io, kvs, ld, rfl, _⟩ := h
    rfl
  · obtain ⟨fa, m, o, pf, gs, io, kvs, ld, rfl, hfa, hm, hG, hO, hN, k⟩ := h
    have hu : (A.deeper (PyProof.Rows.envOfC "named" (defScope sNamed) s.heap.objs.size f cdv)).units + 64 < cLine := hr.units
    have hu1 := hu_of hr
    have hn := hG.n
    have hpl := hG.pl
    have so := flOf_so hG
    have sh := strs_shaped so
    rcases hfa with hfa | hfa
    · refine ⟨_, XTokIn.pss_dinT (i := 4) scNamed.nd rfl (Or.inl rfl) hu1 (pv 2)
        (psst_cons (PST.of (ps_if (PW.pt (pw_and (pt_val (pv 4)) (pw_and1 (PW.pt (pw_or (pt_not (pt_val (pe_callB call_isi (by rfl) T.isinstance (by decide +kernel) (pa_cons (pe_dget hu1 (pv 2) pe_str (fun _ _ => rfl)) (pa_cons (pe_bltn (v := .ty "str") (by rfl) zStr (by decide +kernel) rfl) pa_nil))))) (pw_or1 (pt_cmpR op_eq (pe_dget hu1 (pv 2) pe_str (fun _ _ => rfl)) pe_str (nomark _)))))))) pss_never pss_nil))
        (psst_cons (PST.of (ps_if (PW.pt (pw_and (pt_cmpR (op_eqD hu) (pv 1) (pe_tup pa_nil) (nomark _)) (pw_and1 (pt_cmpR op_eq (pv 4) (pe_cmpR op_eq (pe_callB call_len_seq (by rfl) T.len PySem.boot_len (pa_cons (pv 0) pa_nil)) pe_int (nomark _)) (nomark _))))) pss_never pss_nil))
        (psst_cons (PST.of (ps_if (pt_val (pv 4)) (pss_one (ps_ret (pe_dget hu1 (pv 2) pe_str (fun _ _ => rfl)))) pss_nil))
        (psst_cons (PST.of (ps_if (pt_cmpR (op_eqD hu) (pv 1) (pe_tup pa_nil) (nomark _)) (pss_one (ps_ret (pe_ix ix_list (pv 0) pe_int (fun _ _ => rfl)))) pss_nil))
        (psst_cons (PST.of (ps_setLc (i := 5) (own := [("flag", 6)]) (g := gName 6) (tt := tTest (tOp (fun x y H Q => ∃ i j, x = .str i ∧ y = .str j ∧ Q (.bl (!(Builtin.Str.occurrences j i 0 j.length 1).isEmpty)) H) (tOp rIxS (tVar 6) (tC (.int 1))) (tVar 3))) (te := tVar 6) rfl scNamed.nd rfl rfl (sw_true rfl rfl rfl (by decide +kernel)) (pi_tup (pv 1)) (blkOk_by (N := nNamed) (sc := defScope sNamed) (by decide +kernel)) (fun _ _ _ _ _ => pg_name (i := 6) scNamed.nd rfl (Or.inl rfl)) (fun _ _ _ _ _ => by exact pts_one (pt_cmpR op_in_str (pe_ix ix_str (pv 6) pe_int (fun _ _ => rfl)) (pv 3) (by rfl))) (fun _ _ _ _ _ => by exact pv 6)))
        (CwR.psst_one (CwR.pst_ret (CwR.pet_replC (pe_bm PySem.F.plainAttrs_str PySem.F.slot_str_lstrip PySem.F.type_str_lstrip mt_lstripChars (pe_ix ix_list (pe_op op_cat (pv 5) (pe_callTy call_list_of (by rfl) T.list (by decide +kernel) (pa_cons (pv 1) pa_nil))) pe_int (fun _ _ => rfl)) (pa_cons (pv 3) pa_nil))))))))))
        (by rfl), ?_⟩
      obtain ⟨ov, g1, g2⟩ := hO.get "dest"
      refine ⟨_, rfl, o, _, rfl, g1, ?_⟩
      refine ⟨_, rfl, _, rfl, ?_⟩
      rcases g2 with ⟨hd, rfl⟩ | ⟨d, v, hd, rfl, hv⟩
      · -- no name is given
        refine iteF (iteF ?_)
        refine ⟨_, rfl, (by show 0 ≤ sizeLine; decide), fun p hp => ?_⟩
        have e1 := same_upd (o := .tup []) hp
        have hm1 := e1 _ _ hm
        have hfa1 := e1 _ _ hfa
        have hp1 : (upd H p (.tup [])) p = some (.tup []) := upd_same
        generalize upd H p (.tup []) = H1 at e1 hm1 hfa1 hp1
        refine ⟨_, _, .tup (SqT.of hm1) (dpAll_strs _), .tup (SqT.of hp1) .nil, sh, by decide, _, rfl, ?_⟩
        cases io with
        | false =>
          rcases hN.pos rfl with ⟨_, hl⟩ | ⟨h, _⟩
          · obtain ⟨g, rfl⟩ : ∃ g, gs = [g] := by
              cases gs with
              | nil => cases hl
              | cons g r =>
                cases r with
                | nil => exact ⟨g, rfl⟩
                | cons _ _ => simp at hl
            refine iteT ⟨_, rfl, _, rfl, fa, _, rfl, .inl (SqL.of hfa1), rfl, rfl, false, rfl, iteF ?_⟩
            refine ⟨_, rfl, _, rfl, iteF ?_⟩
            refine ⟨_, rfl, (by show 0 ≤ sizeLine; decide), fun q hq => ?_⟩
            have e2 := same_upd (o := .tup []) hq
            refine ⟨_, _, .tup (SqT.of (e2 _ _ hm1)) (dpAll_strs _), .tup (SqT.of upd_same) .nil, sh, by decide, true, rfl, iteT ⟨_, rfl, fa, _, _, _, rfl, rfl, SqL.of (e2 _ _ hfa1), atI_nat (j := 0) rfl, ?_⟩⟩
            have := k _ (e1.trans e2)
            unfold destOf at this
            rw [hd] at this
            exact this
          · rw [hd] at h
            cases h
        | true =>
          obtain ⟨f0, fA⟩ := hG.op rfl
          have hm1 : H1 m = some (.tup (gs.map V.str)) := hm1
          have hne : PyData.eqv (.tuple ((flOf gs true).map PyData.str)) (.tuple []) = false := by
            cases gs with
            | nil => exact absurd rfl f0
            | cons z zs => rfl
          rw [hne]
          refine iteF (iteF ⟨_, rfl, _, rfl, iteF ?_⟩)
          refine ⟨_, rfl, (by show 0 ≤ sizeLine; decide), fun q hq => ?_⟩
          have e2 := same_upd (o := .tup []) hq
          have hm2 := e2 _ _ hm1
          have hq1 : (upd H1 q (.tup [])) q = some (.tup []) := upd_same
          generalize upd H1 q (.tup []) = H2 at e2 hm2 hq1
          refine ⟨_, _, .tup (SqT.of hm2) (dpAll_strs _), .tup (SqT.of hq1) .nil, sh, by decide, _, rfl, ?_⟩
          rw [show PyData.eqv (.tuple (gs.map PyData.str)) (.tuple []) = false from hne]
          refine iteF ?_
          -- the long ones
          refine ⟨_, rfl, m, rfl, ⟨_, SqT.of hm2⟩, fun D hD => ?_⟩
          refine lc_tup (K := K) (a := m) (xs := gs.map V.str) (fun i H' => Same H2 H' ∧ H' D = some (.lst (((gs.take i).filter fun x => inP pf (wAt x 1)).map V.str))) ⟨same_upd hD, upd_same⟩ (fun i H' _ h => SqT.of (h.1 _ _ hm2)) (fun i x H' hx h => ?_) (fun H3 h => ?_)
          · obtain ⟨y, hy, rfl⟩ := str_at hx
            have hyf := fA y (List.mem_of_getElem? hy)
            have hyl := hyf.l2
            have hyn := hyf.ln
            have hi := (List.getElem?_eq_some_iff.mp hy).1
            refine ⟨rfl, _, rfl, y, 1, _, rfl, rfl, (by rw [PySem.sizeLine_eq]; omega), (wAt_at (x := y) (i := 1) (by omega) : atI y.cps.toList ((1 : Nat) : Int) = _), _, rfl, _, _, rfl, rfl, _, rfl, ?_⟩
            rw [take_more' hy, List.filter_append, List.filter_cons, List.filter_nil]
            have hle : (((gs.take i).filter fun x => inP pf (wAt x 1)).map V.str).length < sizeLine := by
              rw [List.length_map, PySem.sizeLine_eq]
              have := List.length_filter_le (fun x => inP pf (wAt x 1)) (gs.take i)
              rw [List.length_take] at this
              omega
            show ite (inP pf (wAt y 1) = true) _ _
            refine ite2 (fun hc => ?_) (fun hc => ?_)
            · refine ⟨_, rfl, _, h.2, hle, same_mut h.1 hD, ?_⟩
              rw [upd_same, if_pos hc, List.map_append]
              rfl
            · rw [if_neg hc, List.append_nil]
              exact h
          obtain ⟨e3, hD3⟩ := h
          rw [List.length_map, List.take_length] at hD3
          have hm3 := e3 _ _ hm2
          refine ⟨_, rfl, _, rfl, m, _, rfl, .inr (SqT.of hm3), fun p2 hp2 => ?_⟩
          have e4 := same_upd (o := .lst (gs.map V.str)) hp2
          have hp2' : (upd H3 p2 (.lst (gs.map V.str))) p2 = some (.lst (gs.map V.str)) := upd_same
          have hD4 := e4 _ _ hD3
          generalize upd H3 p2 (.lst (gs.map V.str)) = H4 at e4 hp2' hD4
          have hfl := List.length_filter_le (fun x => inP pf (wAt x 1)) gs
          refine ⟨D, p2, _, _, rfl, rfl, hD4, hp2', by rw [List.length_map, List.length_map, PySem.sizeLine_eq]; omega, fun p3 hp3 => ?_⟩
          have e5 := same_upd (o := .lst ((gs.filter fun x => inP pf (wAt x 1)).map V.str ++ gs.map V.str)) hp3
          obtain ⟨z, hz, hzf⟩ : ∃ z, (gs.filter (fun x => inP pf (wAt x 1)) ++ gs)[0]? = some z ∧ FlOk pf z := by
            cases hc : gs.filter (fun x => inP pf (wAt x 1)) ++ gs with
            | nil =>
              have := (List.append_eq_nil_iff.mp hc).2
              exact absurd this f0
            | cons z r =>
              refine ⟨z, rfl, fA z ?_⟩
              have : z ∈ gs.filter (fun x => inP pf (wAt x 1)) ++ gs := by rw [hc]; exact List.mem_cons_self
              rcases List.mem_append.mp this with h | h
              · exact (List.mem_filter.mp h).1
              · exact h
          have hzn := hzf.ln
          refine ⟨p3, _, 0, V.str z, rfl, rfl, SqL.of upd_same, ?_, rfl, _, rfl, _, _, rfl, rfl, (by rw [PySem.sizeLine_eq]; omega), _, rfl, replace1_len ?_, ?_⟩
          · have h0 : (List.map V.str (gs.filter fun x => inP pf (wAt x 1)) ++ List.map V.str gs)[0]? = some (V.str z) := by
              rw [← List.map_append, List.getElem?_map, hz]
              rfl
            exact atI_nat h0
          · have := hzf.sl
            omega
          · have := k _ (((e1.trans e2).trans (e3.trans e4)).trans e5)
            unfold destOf headF at this
            rw [hd] at this
            have hh : (gs.filter (fun x => inP pf (wAt x 1)) ++ gs).headD "" = z := by
              cases hc : gs.filter (fun x => inP pf (wAt x 1)) ++ gs with
              | nil =>
                rw [hc] at hz
                cases hz
              | cons y r =>
                rw [hc] at hz
                exact Option.some.inj hz
            rw [hh] at this
            exact this
      · -- a name is given
        obtain ⟨z, rfl, z0, zl⟩ := hN.des d hd
        obtain rfl : v = V.str z := by
          cases hv
          rfl
        have gg : ∀ H', Same H H' → DGet H' o (.str "dest") (some (.str z)) := fun H' e => by
          obtain ⟨ov', q1, q2⟩ := (hO.keep e).get "dest"
          rcases q2 with ⟨q, _⟩ | ⟨d', v', q, rfl, qv⟩
          · rw [hd] at q
            cases q
          · rw [hd] at q
            cases q
            cases qv
            exact q1
        have fin : ∀ H', Same H H' → Q (.str z) H' := fun H' e => by
          have := k H' e
          unfold destOf at this
          rw [hd] at this
          exact this
        refine iteT ⟨_, rfl, o, _, rfl, gg H (Same.refl _), _, .ty "str", _, _, true, rfl, .ty _, .base (.str z), kit_ty (by decide +kernel), _, rfl, iteF ⟨_, rfl, o, _, rfl, gg H (Same.refl _), rfl, false, congrArg V.bl (decide_eq_false fun q => z0 (V.str.inj q)), iteF ?_⟩⟩
        refine ⟨_, rfl, (by show 0 ≤ sizeLine; decide), fun p hp => ?_⟩
        have e1 := same_upd (o := .tup []) hp
        have hm1 := e1 _ _ hm
        have hfa1 := e1 _ _ hfa
        have hp1 : (upd H p (.tup [])) p = some (.tup []) := upd_same
        generalize upd H p (.tup []) = H1 at e1 hm1 hfa1 hp1
        refine ⟨_, _, .tup (SqT.of hm1) (dpAll_strs _), .tup (SqT.of hp1) .nil, sh, by decide, _, rfl, ?_⟩
        refine ite2 (fun hc => ?_) (fun hc => ?_)
        · have hgl : gs.length ≠ 1 := by
            cases io with
            | true =>
              exfalso
              have hc' : PyData.eqv (.tuple ((flOf gs true).map PyData.str)) (.tuple []) = true := hc
              cases gs with
              | nil => exact (hG.op rfl).1 rfl
              | cons z zs => cases hc'
            | false =>
              rcases hN.pos rfl with ⟨h, _⟩ | ⟨_, h⟩
              · rw [hd] at h
                cases h
              · rw [h]
                decide
          refine ⟨_, rfl, _, rfl, fa, _, rfl, .inl (SqL.of hfa1), rfl, rfl, false, ?_, iteF ?_⟩
          · refine congrArg V.bl (decide_eq_false fun q => ?_)
            have q' := (V.bl.inj q).symm
            have := V.int.inj (of_decide_eq_true q')
            rw [List.length_map] at this
            omega
          exact ⟨_, rfl, _, rfl, iteT ⟨_, rfl, o, _, rfl, gg _ e1, fin _ e1⟩⟩
        · exact iteF ⟨_, rfl, _, rfl, iteT ⟨_, rfl, o, _, rfl, gg _ e1, fin _ e1⟩⟩
    · refine ⟨_, XTokIn.pss_dinT (i := 4) scNamed.nd rfl (Or.inl rfl) hu1 (pv 2)
        (psst_cons (PST.of (ps_if (PW.pt (pw_and (pt_val (pv 4)) (pw_and1 (PW.pt (pw_or (pt_not (pt_val (pe_callB call_isi (by rfl) T.isinstance (by decide +kernel) (pa_cons (pe_dget hu1 (pv 2) pe_str (fun _ _ => rfl)) (pa_cons (pe_bltn (v := .ty "str") (by rfl) zStr (by decide +kernel) rfl) pa_nil))))) (pw_or1 (pt_cmpR op_eq (pe_dget hu1 (pv 2) pe_str (fun _ _ => rfl)) pe_str (nomark _)))))))) pss_never pss_nil))
        (psst_cons (PST.of (ps_if (PW.pt (pw_and (pt_cmpR (op_eqD hu) (pv 1) (pe_tup pa_nil) (nomark _)) (pw_and1 (pt_cmpR op_eq (pv 4) (pe_cmpR op_eq (pe_callB call_len_seq (by rfl) T.len PySem.boot_len (pa_cons (pv 0) pa_nil)) pe_int (nomark _)) (nomark _))))) pss_never pss_nil))
        (psst_cons (PST.of (ps_if (pt_val (pv 4)) (pss_one (ps_ret (pe_dget hu1 (pv 2) pe_str (fun _ _ => rfl)))) pss_nil))
        (psst_cons (PST.of (ps_if (pt_cmpR (op_eqD hu) (pv 1) (pe_tup pa_nil) (nomark _)) (pss_one (ps_ret (pe_ix ix_tup (pv 0) pe_int (fun _ _ => rfl)))) pss_nil))
        (psst_cons (PST.of (ps_setLc (i := 5) (own := [("flag", 6)]) (g := gName 6) (tt := tTest (tOp (fun x y H Q => ∃ i j, x = .str i ∧ y = .str j ∧ Q (.bl (!(Builtin.Str.occurrences j i 0 j.length 1).isEmpty)) H) (tOp rIxS (tVar 6) (tC (.int 1))) (tVar 3))) (te := tVar 6) rfl scNamed.nd rfl rfl (sw_true rfl rfl rfl (by decide +kernel)) (pi_tup (pv 1)) (blkOk_by (N := nNamed) (sc := defScope sNamed) (by decide +kernel)) (fun _ _ _ _ _ => pg_name (i := 6) scNamed.nd rfl (Or.inl rfl)) (fun _ _ _ _ _ => by exact pts_one (pt_cmpR op_in_str (pe_ix ix_str (pv 6) pe_int (fun _ _ => rfl)) (pv 3) (by rfl))) (fun _ _ _ _ _ => by exact pv 6)))
        (CwR.psst_one (CwR.pst_ret (CwR.pet_replC (pe_bm PySem.F.plainAttrs_str PySem.F.slot_str_lstrip PySem.F.type_str_lstrip mt_lstripChars (pe_ix ix_list (pe_op op_cat (pv 5) (pe_callTy call_list_of (by rfl) T.list (by decide +kernel) (pa_cons (pv 1) pa_nil))) pe_int (fun _ _ => rfl)) (pa_cons (pv 3) pa_nil))))))))))
        (by rfl), ?_⟩
      obtain ⟨ov, g1, g2⟩ := hO.get "dest"
      refine ⟨_, rfl, o, _, rfl, g1, ?_⟩
      refine ⟨_, rfl, _, rfl, ?_⟩
      rcases g2 with ⟨hd, rfl⟩ | ⟨d, v, hd, rfl, hv⟩
      · -- no name is given
        refine iteF (iteF ?_)
        refine ⟨_, rfl, (by show 0 ≤ sizeLine; decide), fun p hp => ?_⟩
        have e1 := same_upd (o := .tup []) hp
        have hm1 := e1 _ _ hm
        have hfa1 := e1 _ _ hfa
        have hp1 : (upd H p (.tup [])) p = some (.tup []) := upd_same
        generalize upd H p (.tup []) = H1 at e1 hm1 hfa1 hp1
        refine ⟨_, _, .tup (SqT.of hm1) (dpAll_strs _), .tup (SqT.of hp1) .nil, sh, by decide, _, rfl, ?_⟩
        cases io with
        | false =>
          rcases hN.pos rfl with ⟨_, hl⟩ | ⟨h, _⟩
          · obtain ⟨g, rfl⟩ : ∃ g, gs = [g] := by
              cases gs with
              | nil => cases hl
              | cons g r =>
                cases r with
                | nil => exact ⟨g, rfl⟩
                | cons _ _ => simp at hl
            refine iteT ⟨_, rfl, _, rfl, fa, _, rfl, .inr (SqT.of hfa1), rfl, rfl, false, rfl, iteF ?_⟩
            refine ⟨_, rfl, _, rfl, iteF ?_⟩
            refine ⟨_, rfl, (by show 0 ≤ sizeLine; decide), fun q hq => ?_⟩
            have e2 := same_upd (o := .tup []) hq
            refine ⟨_, _, .tup (SqT.of (e2 _ _ hm1)) (dpAll_strs _), .tup (SqT.of upd_same) .nil, sh, by decide, true, rfl, iteT ⟨_, rfl, fa, _, _, _, rfl, rfl, SqT.of (e2 _ _ hfa1), atI_nat (j := 0) rfl, ?_⟩⟩
            have := k _ (e1.trans e2)
            unfold destOf at this
            rw [hd] at this
            exact this
          · rw [hd] at h
            cases h
        | true =>
          obtain ⟨f0, fA⟩ := hG.op rfl
          have hm1 : H1 m = some (.tup (gs.map V.str)) := hm1
          have hne : PyData.eqv (.tuple ((flOf gs true).map PyData.str)) (.tuple []) = false := by
            cases gs with
            | nil => exact absurd rfl f0
            | cons z zs => rfl
          rw [hne]
          refine iteF (iteF ⟨_, rfl, _, rfl, iteF ?_⟩)
          refine ⟨_, rfl, (by show 0 ≤ sizeLine; decide), fun q hq => ?_⟩
          have e2 := same_upd (o := .tup []) hq
          have hm2 := e2 _ _ hm1
          have hq1 : (upd H1 q (.tup [])) q = some (.tup []) := upd_same
          generalize upd H1 q (.tup []) = H2 at e2 hm2 hq1
          refine ⟨_, _, .tup (SqT.of hm2) (dpAll_strs _), .tup (SqT.of hq1) .nil, sh, by decide, _, rfl, ?_⟩
          rw [show PyData.eqv (.tuple (gs.map PyData.str)) (.tuple []) = false from hne]
          refine iteF ?_
          -- the long ones
          refine ⟨_, rfl, m, rfl, ⟨_, SqT.of hm2⟩, fun D hD => ?_⟩
          refine lc_tup (K := K) (a := m) (xs := gs.map V.str) (fun i H' => Same H2 H' ∧ H' D = some (.lst (((gs.take i).filter fun x => inP pf (wAt x 1)).map V.str))) ⟨same_upd hD, upd_same⟩ (fun i H' _ h => SqT.of (h.1 _ _ hm2)) (fun i x H' hx h => ?_) (fun H3 h => ?_)
          · obtain ⟨y, hy, rfl⟩ := str_at hx
            have hyf := fA y (List.mem_of_getElem? hy)
            have hyl := hyf.l2
            have hyn := hyf.ln
            have hi := (List.getElem?_eq_some_iff.mp hy).1
            refine ⟨rfl, _, rfl, y, 1, _, rfl, rfl, (by rw [PySem.sizeLine_eq]; omega), (wAt_at (x := y) (i := 1) (by omega) : atI y.cps.toList ((1 : Nat) : Int) = _), _, rfl, _, _, rfl, rfl, _, rfl, ?_⟩
            rw [take_more' hy, List.filter_append, List.filter_cons, List.filter_nil]
            have hle : (((gs.take i).filter fun x => inP pf (wAt x 1)).map V.str).length < sizeLine := by
              rw [List.length_map, PySem.sizeLine_eq]
              have := List.length_filter_le (fun x => inP pf (wAt x 1)) (gs.take i)
              rw [List.length_take] at this
              omega
            show ite (inP pf (wAt y 1) = true) _ _
            refine ite2 (fun hc => ?_) (fun hc => ?_)
            · refine ⟨_, rfl, _, h.2, hle, same_mut h.1 hD, ?_⟩
              rw [upd_same, if_pos hc, List.map_append]
              rfl
            · rw [if_neg hc, List.append_nil]
              exact h
          obtain ⟨e3, hD3⟩ := h
          rw [List.length_map, List.take_length] at hD3
          have hm3 := e3 _ _ hm2
          refine ⟨_, rfl, _, rfl, m, _, rfl, .inr (SqT.of hm3), fun p2 hp2 => ?_⟩
          have e4 := same_upd (o := .lst (gs.map V.str)) hp2
          have hp2' : (upd H3 p2 (.lst (gs.map V.str))) p2 = some (.lst (gs.map V.str)) := upd_same
          have hD4 := e4 _ _ hD3
          generalize upd H3 p2 (.lst (gs.map V.str)) = H4 at e4 hp2' hD4
          have hfl := List.length_filter_le (fun x => inP pf (wAt x 1)) gs
          refine ⟨D, p2, _, _, rfl, rfl, hD4, hp2', by rw [List.length_map, List.length_map, PySem.sizeLine_eq]; omega, fun p3 hp3 => ?_⟩
          have e5 := same_upd (o := .lst ((gs.filter fun x => inP pf (wAt x 1)).map V.str ++ gs.map V.str)) hp3
          obtain ⟨z, hz, hzf⟩ : ∃ z, (gs.filter (fun x => inP pf (wAt x 1)) ++ gs)[0]? = some z ∧ FlOk pf z := by
            cases hc : gs.filter (fun x => inP pf (wAt x 1)) ++ gs with
            | nil =>
              have := (List.append_eq_nil_iff.mp hc).2
              exact absurd this f0
            | cons z r =>
              refine ⟨z, rfl, fA z ?_⟩
              have : z ∈ gs.filter (fun x => inP pf (wAt x 1)) ++ gs := by rw [hc]; exact List.mem_cons_self
              rcases List.mem_append.mp this with h | h
              · exact (List.mem_filter.mp h).1
              · exact h
          have hzn := hzf.ln
          refine ⟨p3, _, 0, V.str z, rfl, rfl, SqL.of upd_same, ?_, rfl, _, rfl, _, _, rfl, rfl, (by rw [PySem.sizeLine_eq]; omega), _, rfl, replace1_len ?_, ?_⟩
          · have h0 : (List.map V.str (gs.filter fun x => inP pf (wAt x 1)) ++ List.map V.str gs)[0]? = some (V.str z) := by
              rw [← List.map_append, List.getElem?_map, hz]
              rfl
            exact atI_nat h0
          · have := hzf.sl
            omega
          · have := k _ (((e1.trans e2).trans (e3.trans e4)).trans e5)
            unfold destOf headF at this
            rw [hd] at this
            have hh : (gs.filter (fun x => inP pf (wAt x 1)) ++ gs).headD "" = z := by
              cases hc : gs.filter (fun x => inP pf (wAt x 1)) ++ gs with
              | nil =>
                rw [hc] at hz
                cases hz
              | cons y r =>
                rw [hc] at hz
                exact Option.some.inj hz
            rw [hh] at this
            exact this
      · -- a name is given
        obtain ⟨z, rfl, z0, zl⟩ := hN.des d hd
        obtain rfl : v = V.str z := by
          cases hv
          rfl
        have gg : ∀ H', Same H H' → DGet H' o (.str "dest") (some (.str z)) := fun H' e => by
          obtain ⟨ov', q1, q2⟩ := (hO.keep e).get "dest"
          rcases q2 with ⟨q, _⟩ | ⟨d', v', q, rfl, qv⟩
          · rw [hd] at q
            cases q
          · rw [hd] at q
            cases q
            cases qv
            exact q1
        have fin : ∀ H', Same H H' → Q (.str z) H' := fun H' e => by
          have := k H' e
          unfold destOf at this
          rw [hd] at this
          exact this
        refine iteT ⟨_, rfl, o, _, rfl, gg H (Same.refl _), _, .ty "str", _, _, true, rfl, .ty _, .base (.str z), kit_ty (by decide +kernel), _, rfl, iteF ⟨_, rfl, o, _, rfl, gg H (Same.refl _), rfl, false, congrArg V.bl (decide_eq_false fun q => z0 (V.str.inj q)), iteF ?_⟩⟩
        refine ⟨_, rfl, (by show 0 ≤ sizeLine; decide), fun p hp => ?_⟩
        have e1 := same_upd (o := .tup []) hp
        have hm1 := e1 _ _ hm
        have hfa1 := e1 _ _ hfa
        have hp1 : (upd H p (.tup [])) p = some (.tup []) := upd_same
        generalize upd H p (.tup []) = H1 at e1 hm1 hfa1 hp1
        refine ⟨_, _, .tup (SqT.of hm1) (dpAll_strs _), .tup (SqT.of hp1) .nil, sh, by decide, _, rfl, ?_⟩
        refine ite2 (fun hc => ?_) (fun hc => ?_)
        · have hgl : gs.length ≠ 1 := by
            cases io with
            | true =>
              exfalso
              have hc' : PyData.eqv (.tuple ((flOf gs true).map PyData.str)) (.tuple []) = true := hc
              cases gs with
              | nil => exact (hG.op rfl).1 rfl
              | cons z zs => cases hc'
            | false =>
              rcases hN.pos rfl with ⟨h, _⟩ | ⟨_, h⟩
              · rw [hd] at h
                cases h
              · rw [h]
                decide
          refine ⟨_, rfl, _, rfl, fa, _, rfl, .inr (SqT.of hfa1), rfl, rfl, false, ?_, iteF ?_⟩
          · refine congrArg V.bl (decide_eq_false fun q => ?_)
            have q' := (V.bl.inj q).symm
            have := V.int.inj (of_decide_eq_true q')
            rw [List.length_map] at this
            omega
          exact ⟨_, rfl, _, rfl, iteT ⟨_, rfl, o, _, rfl, gg _ e1, fin _ e1⟩⟩
        · exact iteF ⟨_, rfl, _, rfl, iteT ⟨_, rfl, o, _, rfl, gg _ e1, fin _ e1⟩⟩
end
end K67

namespace K67
open PySem L2 PyProof.Rows
/-! ### the flags that say no; the actions -/
def fel1 (pf x : Str) : List Str := if inP pf (wAt x 1) then [x, noF x] else [x]
def felStep (pf : Str) (found : List Str) (x : Str) : List Str := found ++ (fel1 pf x).filter fun y => decide (y ∉ found)
def fellows (pf : Str) (fl : List Str) : List Str := fl.foldl (felStep pf) []
theorem fel1_len (pf x : Str) : (fel1 pf x).length ≤ 2 := by
  unfold fel1
  split
  · exact Nat.le_refl 2
  · exact Nat.le_succ 1
theorem felStep_len (pf x : Str) (f : List Str) : (felStep pf f x).length ≤ f.length + 2 := by
  unfold felStep
  rw [List.length_append]
  have h1 := List.length_filter_le (fun y => decide (y ∉ f)) (fel1 pf x)
  have h2 := fel1_len pf x
  omega
theorem cutS_len (z : Str) (lo hi : Option Int) : (cutS z lo hi).length ≤ z.length := by
  unfold cutS
  simp only [PySem.Str.length, List.size_toArray, List.length_take, List.length_drop, Array.length_toList]
  omega
theorem inV_strs (x : Str) (l : List Str) : inV (.str x) (l.map V.str) = decide (x ∈ l) := by
  induction l with
  | nil => rfl
  | cons y l ih =>
    have e : inV (.str x) ((y :: l).map V.str) = ((y == x) || inV (.str x) (l.map V.str)) := rfl
    rw [e, ih]
    by_cases h : x = y
    · subst h
      rw [decide_eq_true (List.mem_cons_self : x ∈ x :: l)]
      simp
    · have h1 : (y == x) = false := by
        rw [beq_eq_false_iff_ne]
        exact fun z => h z.symm
      rw [h1, Bool.false_or]
      refine decide_eq_decide.mpr ⟨fun q => List.mem_cons_of_mem _ q, fun q => ?_⟩
      rcases List.mem_cons.mp q with q | q
      · exact absurd q h
      · exact q
theorem flat_strs (fl : List Str) : (fl.map V.str).all flatV = true := by
  rw [List.all_eq_true]
  intro x hx
  obtain ⟨z, _, rfl⟩ := List.mem_map.mp hx
  rfl
def spWithF : Sp := fun vs H Q _ => ∃ (T : Addr) (pf : Str) (fl : List Str), vs = [.ref T, .str pf] ∧ H T = some (.tup (fl.map V.str)) ∧ (∀ x ∈ fl, FlOk pf x) ∧ fl.length ≤ 20 ∧ ∀ (U : Addr) (H' : Hp), Same H H' → H U = none → H' U = some (.tup ((fellows pf fl).map V.str)) → Q (.ref U) H'
def acts12 : List Str := ["store", "append", "extend", "store_const", "append_const", "store_true", "store_false", "count", "yes_no", "help", "version"]
def WWs : List Str := ["store", "append", "extend"]
def WCs : List Str := ["store_const", "append_const"]
def WOs : List Str := ["store_true", "store_false", "count", "yes_no"]
def LLs : List Str := ["append", "append_const", "extend"]
def wW : List V := [.str "store", .str "append", .str "extend"]
def wC : List V := [.str "store_const", .str "append_const"]
def wO : List V := [.str "store_true", .str "store_false", .str "count", .str "yes_no"]
def wN : List V := [.str "?", .str "*", .str "+", .str "..."]
def wL : List V := [.str "append", .str "append_const", .str "extend"]
def wA : List V := [.str "action", .str "dest", .str "help"]
def VH : Str := "show program's version number and exit"
structure TxtK (K : PySem.W.Frag) (mg : Str → Option Value) (aW aC aO aN aL aA : Addr) : Prop where
  W : KT K mg "WITH_WORDS" aW wW
  C : KT K mg "WITH_CONST" aC wC
  O : KT K mg "WITHOUT" aO wO
  N : KT K mg "WORD_COUNTS" aN wN
  L : KT K mg "LISTS" aL wL
  A : KT K mg "ALWAYS" aA wA
  sup : ∃ t, mg "SUPPRESS" = some (.str "==SUPPRESS==" t)
  vh : ∃ t, mg "VERSION_HELP" = some (.str VH t)
  str : mg "str" = none
  any : mg "any" = none
  enum : mg "enumerate" = none
def keysS (s : Str) : List Str := if s ∈ WWs then ["action", "dest", "help", "nargs", "const", "default", "kind", "choices", "required", "metavar"] else if s ∈ WCs then ["action", "dest", "help", "const", "default", "required"] else if s ∈ WOs then ["action", "dest", "help", "default", "required"] else if s = "version" then ["action", "dest", "help", "version"] else ["action", "dest", "help"]
def spKeys : Sp := fun vs H Q _ => ∃ s : Str, vs = [.str s] ∧ s ∈ acts12 ∧ ∀ (T : Addr) (H' : Hp), Same H H' → H' T = some (.tup ((keysS s).map V.str)) → Q (.ref T) H'
section
variable {P : Program} {w : World} {K : PySem.W.Frag} {mg : Str → Option Value} {base : Heap}
abbrev nWF : List Str := ["flags", "prefix_chars", "found", "flag", "more", "one"]
theorem scWF : FnScope nWF ["flags", "prefix_chars"] (defScope sWithF) := ⟨rfl, rfl, rfl, by decide +kernel, rfl, by decide +kernel, by decide +kernel⟩
theorem ok_withF {f : Addr} {fd : FuncData} (F : Fun K "with_fellows" "with_fellows" sWithF f fd) (T : TxtB mg) : FnOk P w K mg base CX0 1 f fd ["flags", "prefix_chars"] spWithF := by
  refine F.ok scWF (fun vs H Q E h => ?_) (fun cdv A outer s H vs Q E hr h => ?_)
  · obtain ⟨a, pf, fl, rfl, _⟩ := h
    rfl
  · obtain ⟨a, pf, fl, rfl, ha, hf, hn, k⟩ := h
    refine ⟨_, pss_mid (ps_set (i := 2) scWF.nd rfl (Or.inr rfl) (pe_lst pa_nil))
      (pss_mid (ps_for PassesOwn.never rfl (pi_tup (pv 0)) (pg_name (i := 3) scWF.nd rfl (Or.inl rfl))
        (pss_mid (ps_set (i := 4) scWF.nd rfl (Or.inl rfl) (pe_ifExp (pt_cmpR op_in_str (pe_ix ix_str (pv 3) pe_int (fun _ _ => rfl)) (pv 1) (by rfl)) (pe_lst (pa_cons (pe_op op_add_str (pe_op op_add_str (pe_slice sl_str (pv 3) po_none (po_some pe_int)) pe_str) (pe_slice sl_str (pv 3) (po_some pe_int) po_none)) pa_nil)) (pe_lst pa_nil)))
        (pss_one (ps_expr (pe_bm PySem.F.plainAttrs_list PySem.F.slot_list_extend PySem.F.type_list_extend mt_extend (pv 2) (pa_cons (pe_lc (own := [("one", 5)]) (g := gName 5) (tt := tTest (tOp (rIn K true) (tVar 5) (tVar 2))) (te := tVar 5) rfl scWF.nd (pi_list (pe_op op_cat (pe_lst (pa_cons (pv 3) pa_nil)) (pv 4))) (blkOk_by (N := nWF) (sc := defScope sWithF) (by decide +kernel)) (fun _ _ _ _ _ => pg_name (i := 5) scWF.nd rfl (Or.inl rfl)) (fun _ _ _ _ _ => by exact pts_one (pt_cmpR op_notIn_seq (pv 5) (pv 2) (by rfl))) (fun _ _ _ _ _ => by exact pv 5)) pa_nil))))))
      (pss_one (ps_ret (pe_callTy call_tuple_of (by rfl) T.tuple (by decide +kernel) (pa_cons (pv 2) pa_nil))))), ?_⟩
    refine ⟨fun σ' H' => ∃ L : Addr, σ' = [some (.ref a), some (.str pf), some (.ref L), none, none, none] ∧ Same H H' ∧ H L = none ∧ H' L = some (.lst []), ⟨(by show 0 ≤ sizeLine; decide), fun L hL => ⟨L, rfl, same_upd hL, hL, upd_same⟩⟩, ?_⟩
    rintro _ H1 ⟨L, rfl, e1, hL0, hL1⟩
    refine ⟨fun σ' H' => ∃ r3 r4 r5, σ' = [some (.ref a), some (.str pf), some (.ref L), r3, r4, r5] ∧ Same H H' ∧ H' L = some (.lst ((fellows pf fl).map V.str)), ?_, ?_⟩
    · refine ⟨_, rfl, a, rfl, ⟨_, SqT.of (e1 _ _ ha)⟩, ?_⟩
      refine for_tup (K := K) (a := a) (xs := fl.map V.str) (fun i σ' H' => ∃ r3 r4 r5, σ' = [some (.ref a), some (.str pf), some (.ref L), r3, r4, r5] ∧ Same H H' ∧ H' L = some (.lst (((fl.take i).foldl (felStep pf) []).map V.str)) ∧ ((fl.take i).foldl (felStep pf) []).length ≤ 2 * i) ⟨none, none, none, rfl, e1, hL1, Nat.le_refl _⟩ ?_ ?_ ?_
      · rintro i σ' H' _ ⟨_, _, _, _, e, _⟩
        exact SqT.of (e _ _ ha)
      · rintro i x σ' H' hx ⟨r3, r4, r5, rfl, e, hL, hlen⟩
        obtain ⟨y, hy, rfl⟩ := str_at hx
        have hyf := hf y (List.mem_of_getElem? hy)
        have hy2 := hyf.l2
        have hyn := hyf.ln
        have hi := (List.getElem?_eq_some_iff.mp hy).1
        have hnext : (fl.take (i + 1)).foldl (felStep pf) [] = felStep pf ((fl.take i).foldl (felStep pf) []) y := by
          rw [take_more' hy, List.foldl_append]
          rfl
        rw [hnext]
        have hsl := felStep_len pf y ((fl.take i).foldl (felStep pf) [])
        generalize (fl.take i).foldl (felStep pf) [] = fd0 at hL hlen hsl
        -- more
        refine ⟨fun σ' H'' => ∃ M : Addr, σ' = [some (.ref a), some (.str pf), some (.ref L), some (.str y), some (.ref M), r5] ∧ Same H' H'' ∧ H'' M = some (.lst ((if inP pf (wAt y 1) then [noF y] else []).map V.str)), ?_, ?_⟩
        · refine ⟨_, rfl, y, 1, _, rfl, rfl, (by rw [PySem.sizeLine_eq]; omega), (wAt_at (x := y) (i := 1) (by omega) : atI y.cps.toList ((1 : Nat) : Int) = _), _, rfl, _, _, rfl, rfl, _, rfl, ?_⟩
          show ite (inP pf (wAt y 1) = true) _ _
          have c1 := cutS_len y none (some 2)
          have c2 := cutS_len y (some 2) none
          refine ite2 (fun hc => ?_) (fun hc => ?_)
          · refine ⟨_, rfl, _, rfl, y, rfl, (by rw [PySem.sizeLine_eq]; omega), _, _, rfl, rfl, (by rw [PySem.sizeLine_eq]; show _ + 3 ≤ _; omega), _, rfl, _, rfl, y, rfl, (by rw [PySem.sizeLine_eq]; omega), _, _, rfl, rfl, ?_, (by show 1 ≤ sizeLine; decide), fun M hM => ⟨M, rfl, same_upd hM, ?_⟩⟩
            · have c3 : (cutS y none (some 2) ++ "no-").length = (cutS y none (some 2)).length + 3 := by
                rw [PySem.Str.length_append]
                rfl
              rw [c3, PySem.sizeLine_eq]
              omega
            · rw [upd_same, if_pos hc]
              rfl
          · refine ⟨(by show 0 ≤ sizeLine; decide), fun M hM => ⟨M, rfl, same_upd hM, ?_⟩⟩
            rw [upd_same, if_neg hc]
            rfl
        rintro _ H2 ⟨M, rfl, e2, hM⟩
        have hL2 := e2 _ _ hL
        refine ⟨_, rfl, .inl ⟨rfl, _, SqL.of hL2⟩, _, rfl, (by show 1 ≤ sizeLine; decide), fun p hp => ?_⟩
        have ep := same_upd (o := .lst [V.str y]) hp
        have hp1 : (upd H2 p (.lst [V.str y])) p = some (.lst [V.str y]) := upd_same
        have hM1 := ep _ _ hM
        generalize upd H2 p (.lst [V.str y]) = H3 at ep hp1 hM1
        have hml : ((if inP pf (wAt y 1) then [noF y] else []).map V.str).length ≤ 1 := by
          rw [List.length_map]
          split
          · exact Nat.le_refl 1
          · exact Nat.zero_le 1
        refine ⟨_, rfl, p, M, _, _, rfl, rfl, hp1, hM1, (by rw [PySem.sizeLine_eq]; show 1 + _ ≤ _; omega), fun c hc => ?_⟩
        have ec := same_upd (o := .lst ([V.str y] ++ (if inP pf (wAt y 1) then [noF y] else []).map V.str)) hc
        have hc1 : (upd H3 c (.lst ([V.str y] ++ (if inP pf (wAt y 1) then [noF y] else []).map V.str))) c = some (.lst ((fel1 pf y).map V.str)) := by
          rw [upd_same]
          unfold fel1
          split <;> rfl
        generalize upd H3 c (.lst ([V.str y] ++ (if inP pf (wAt y 1) then [noF y] else []).map V.str)) = H4 at ec hc1
        have e24 := ep.trans ec
        refine ⟨c, rfl, ⟨_, SqL.of hc1⟩, fun D hD => ?_⟩
        have hf2 := fel1_len pf y
        refine lc_list (K := K) (a := c) (xs := (fel1 pf y).map V.str) (fun i H' => Same H4 H' ∧ H' D = some (.lst ((((fel1 pf y).take i).filter fun z => decide (z ∉ fd0)).map V.str))) ⟨same_upd hD, upd_same⟩ (fun i H' _ h => SqL.of (h.1 _ _ hc1)) (fun j x H' hx h => ?_) (fun H5 h => ?_)
        · obtain ⟨z, hz, rfl⟩ := str_at hx
          have hLz := h.1 _ _ (e24 _ _ hL2)
          refine ⟨rfl, _, rfl, _, rfl, L, _, rfl, .inl (SqL.of hLz), rfl, flat_strs _, _, rfl, ?_⟩
          rw [take_more' hz, List.filter_append, List.filter_cons, List.filter_nil, if_pos rfl, inV_strs]
          have hle : ((((fel1 pf y).take j).filter fun z => decide (z ∉ fd0)).map V.str).length < sizeLine := by
            rw [List.length_map, PySem.sizeLine_eq]
            have := List.length_filter_le (fun z => decide (z ∉ fd0)) ((fel1 pf y).take j)
            rw [List.length_take] at this
            omega
          by_cases hc : z ∈ fd0
          · rw [decide_eq_true hc]
            refine iteF ?_
            rw [if_neg (by rw [decide_eq_false (fun q => q hc)]; exact Bool.false_ne_true), List.append_nil]
            exact h
          · rw [decide_eq_false hc]
            refine iteT ⟨_, rfl, _, h.2, hle, same_mut h.1 hD, ?_⟩
            rw [upd_same, if_pos (decide_eq_true hc), List.map_append]
            rfl
        obtain ⟨e5, hD5⟩ := h
        rw [List.length_map, List.take_length] at hD5
        have hL5 := e5 _ _ (e24 _ _ hL2)
        have hfl := List.length_filter_le (fun z => decide (z ∉ fd0)) (fel1 pf y)
        refine ⟨L, D, _, _, rfl, rfl, hL5, hD5, by rw [List.length_map, List.length_map, PySem.sizeLine_eq]; omega, _, _, _, rfl, same_mut (e.trans (e2.trans (e24.trans e5))) hL0, ?_, by omega⟩
        rw [upd_same]
        unfold felStep
        rw [List.map_append]
      · rintro σ' H' ⟨r3, r4, r5, rfl, e, hL, _⟩
        rw [List.length_map, List.take_length] at hL
        exact ⟨r3, r4, r5, rfl, e, hL⟩
    rintro _ H2 ⟨r3, r4, r5, rfl, e2, hL2⟩
    refine ⟨_, rfl, L, _, rfl, .inl ⟨SqL.of hL2, fun U hU => k U _ (same_upd2 e2 hU) (Same.free e2 hU) upd_same⟩⟩
end
end K67

namespace K67
open PySem L2 PyProof.Rows
/-! ### keys, kinds, values, metavars -/
def spKeysT (K : PySem.W.Frag) : Sp := fun vs H Q _ => ∃ s : Str, vs = [.str s] ∧ s ∈ acts12 ∧ ∀ (T : Addr) (H' : Hp), Same H H' → SqT K H' T ((keysS s).map V.str) → Q (.ref T) H'
def kinds3 : List PyData := [.none, .str "str", .str "int"]
def kindsV : List V := [.non, .str "str", .str "int"]
def spIsKind : Sp := fun vs H Q _ => ∃ v : V, vs = [v] ∧ v ∈ kindsV ∧ ∀ H', Same H H' → Q (.bl true) H'
def nMenu : List V := [.non, .str "?", .str "*", .str "+", .str "...", .int 1, .int 2, .int 3, .int 4]
def wantN : V → Nat
  | .int n => n.toNat
  | .str x => if x = "+" then 2 else 1
  | _ => 1
/-- a metavar that is right for a number of words -/
def FitsM (md : PyData) (nv : V) : Prop := md = .none ∨ (∃ z, md = .str z ∧ z ≠ "") ∨ ∃ l : List Str, (md = .list (l.map PyData.str) ∨ md = .tuple (l.map PyData.str)) ∧ (∀ x ∈ l, x ≠ "") ∧ l.length ≤ 10 ∧ (if nv = .str "*" then l.length = 1 ∨ l.length = 2 else l.length = wantN nv)
def spFits : Sp := fun vs H Q _ => ∃ (mv nv : V) (md : PyData), vs = [mv, nv] ∧ Dt H mv md ∧ nv ∈ nMenu ∧ FitsM md nv ∧ ∀ H', Same H H' → Q (.bl true) H'
def spIsVal : Nat → Sp
  | 0 => fun _ _ _ _ => False
  | m + 1 => fun vs H Q _ => ∃ (v : V) (d : PyData), vs = [v] ∧ Dt H v d ∧ PyData.depth d ≤ m ∧ small d = true ∧ ∀ (H' : Hp), Same H H' → Q (.bl true) H'
theorem dts_lst {N : Hp} : ∀ {l : List Str} {vs : List V}, DtAll N vs (l.map PyData.str) → vs = l.map V.str
  | [], _, h => by
    cases h
    rfl
  | x :: l, _, h => by
    cases h with
    | cons h1 h2 =>
      cases h1
      rw [dts_lst h2]
      rfl
section
variable {P : Program} {w : World} {K : PySem.W.Frag} {mg : Str → Option Value} {base : Heap}
theorem scKeys : FnScope ["action"] ["action"] (defScope sKeys) := ⟨rfl, rfl, rfl, by decide +kernel, rfl, by decide +kernel, by decide +kernel⟩
theorem ok_keys {f aW aC aO aN aL aA : Addr} {fd : FuncData} (F : Fun K "keys_of" "keys_of" sKeys f fd) (Z : TxtK K mg aW aC aO aN aL aA) : FnOk P w K mg base CX0 1 f fd ["action"] (spKeysT K) := by
  refine F.ok scKeys (fun vs H Q E h => ?_) (fun cdv A outer s H vs Q E hr h => ?_)
  · obtain ⟨x, rfl, _⟩ := h
    rfl
  · obtain ⟨x, rfl, hx, k⟩ := h
    refine ⟨_, pss_cons (ps_if (pt_cmpR op_in_seq (pv 0) (pe_glob (v := .ref aW) rfl Z.W.m rfl) (by rfl)) (pss_one (ps_ret (pe_op op_catT (pe_glob (v := .ref aA) rfl Z.A.m rfl) (pe_tup (pa_cons pe_str (pa_cons pe_str (pa_cons pe_str (pa_cons pe_str (pa_cons pe_str (pa_cons pe_str (pa_cons pe_str pa_nil)))))))))))
        pss_nil)
      (pss_cons (ps_if (pt_cmpR op_in_seq (pv 0) (pe_glob (v := .ref aC) rfl Z.C.m rfl) (by rfl)) (pss_one (ps_ret (pe_op op_catT (pe_glob (v := .ref aA) rfl Z.A.m rfl) (pe_tup (pa_cons pe_str (pa_cons pe_str (pa_cons pe_str pa_nil))))))) pss_nil)
      (pss_cons (ps_if (pt_cmpR op_in_seq (pv 0) (pe_glob (v := .ref aO) rfl Z.O.m rfl) (by rfl)) (pss_one (ps_ret (pe_op op_catT (pe_glob (v := .ref aA) rfl Z.A.m rfl) (pe_tup (pa_cons pe_str (pa_cons pe_str pa_nil))))))
        pss_nil) (pss_one (ps_ret (pe_ifExp (pt_cmpR op_eq (pv 0) pe_str (nomark _)) (pe_op op_catT (pe_glob (v := .ref aA) rfl Z.A.m rfl) (pe_tup (pa_cons pe_str pa_nil))) (pe_glob (v := .ref aA) rfl Z.A.m rfl)))))), ?_⟩
    have i1 : inV (.str x) wW = decide (x ∈ WWs) := inV_strs x WWs
    have i2 : inV (.str x) wC = decide (x ∈ WCs) := inV_strs x WCs
    have i3 : inV (.str x) wO = decide (x ∈ WOs) := inV_strs x WOs
    refine ⟨_, rfl, aW, wW, rfl, .inr (Z.W.q _), rfl, by decide +kernel, _, rfl, ?_⟩
    rw [if_neg Bool.false_ne_true, i1]
    refine ite2 (fun hc => ?_) (fun hc => ?_)
    · refine ⟨(by show 7 ≤ sizeLine; decide), fun p hp => ⟨aA, p, wA, _, rfl, rfl, Z.A.q _, SqT.of upd_same, (fun z => nomatch z), (by show 3 + 7 ≤ sizeLine; decide), (fun z => nomatch z), fun _ q hq => k q _ (same_upd2 (same_upd hp) hq) ?_⟩⟩
      unfold keysS
      rw [if_pos (of_decide_eq_true hc)]
      exact SqT.of upd_same
    refine ⟨_, rfl, aC, wC, rfl, .inr (Z.C.q _), rfl, by decide +kernel, _, rfl, ?_⟩
    rw [if_neg Bool.false_ne_true, i2]
    refine ite2 (fun hc2 => ?_) (fun hc2 => ?_)
    · refine ⟨(by show 3 ≤ sizeLine; decide), fun p hp => ⟨aA, p, wA, _, rfl, rfl, Z.A.q _, SqT.of upd_same, (fun z => nomatch z), (by show 3 + 3 ≤ sizeLine; decide), (fun z => nomatch z), fun _ q hq => k q _ (same_upd2 (same_upd hp) hq) ?_⟩⟩
      unfold keysS
      rw [if_neg (fun z => hc (decide_eq_true z)), if_pos (of_decide_eq_true hc2)]
      exact SqT.of upd_same
    refine ⟨_, rfl, aO, wO, rfl, .inr (Z.O.q _), rfl, by decide +kernel, _, rfl, ?_⟩
    rw [if_neg Bool.false_ne_true, i3]
    refine ite2 (fun hc3 => ?_) (fun hc3 => ?_)
    · refine ⟨(by show 2 ≤ sizeLine; decide), fun p hp => ⟨aA, p, wA, _, rfl, rfl, Z.A.q _, SqT.of upd_same, (fun z => nomatch z), (by show 3 + 2 ≤ sizeLine; decide), (fun z => nomatch z), fun _ q hq => k q _ (same_upd2 (same_upd hp) hq) ?_⟩⟩
      unfold keysS
      rw [if_neg (fun z => hc (decide_eq_true z)), if_neg (fun z => hc2 (decide_eq_true z)), if_pos (of_decide_eq_true hc3)]
      exact SqT.of upd_same
    have ek : keysS x = if x = "version" then (["action", "dest", "help", "version"] : List Str) else (["action", "dest", "help"] : List Str) := by
      unfold keysS
      rw [if_neg (fun z => hc (decide_eq_true z)), if_neg (fun z => hc2 (decide_eq_true z)), if_neg (fun z => hc3 (decide_eq_true z))]
    refine ⟨_, rfl, rfl, _, rfl, ?_⟩
    refine ite2 (fun h => ?_) (fun h => ?_)
    · refine ⟨(by show 1 ≤ sizeLine; decide), fun p hp => ⟨aA, p, wA, _, rfl, rfl, Z.A.q _, SqT.of upd_same, (fun z => nomatch z), (by show 3 + 1 ≤ sizeLine; decide), (fun z => nomatch z), fun _ q hq => k q _ (same_upd2 (same_upd hp) hq) ?_⟩⟩
      rw [ek, if_pos (V.str.inj (of_decide_eq_true h))]
      exact SqT.of upd_same
    · refine k aA _ (Same.refl _) ?_
      rw [ek, if_neg (fun z => h (decide_eq_true (congrArg V.str z)))]
      exact Z.A.q _
theorem scIsKind : FnScope ["thing"] ["thing"] (defScope sIsKind) := ⟨rfl, rfl, rfl, by decide +kernel, rfl, by decide +kernel, by decide +kernel⟩
theorem ok_isKind {f : Addr} {fd : FuncData} (F : Fun K "is_kind" "is_kind" sIsKind f fd) (T : TxtB mg) (zStr : mg "str" = none) : FnOk P w K mg base CX0 1 f fd ["thing"] spIsKind := by
  refine F.ok scIsKind (fun vs H Q E h => ?_) (fun cdv A outer s H vs Q E hr h => ?_)
  · obtain ⟨v, rfl, _⟩ := h
    rfl
  · obtain ⟨v, rfl, hv, k⟩ := h
    refine ⟨_, pss_cons (ps_if (PW.pt (pw_or (pt_cmp (pc_isN (pv 0))) (pw_or1 (pt_val (pe_callB call_isi (by rfl) T.isinstance (by decide +kernel) (pa_cons (pv 0) (pa_cons (pe_bltn (v := .ty "str") (by rfl) zStr (by decide +kernel) rfl) pa_nil))))))) (pss_one (ps_ret (pe_cmpR op_in_seq (pv 0) (pe_tup (pa_cons pe_non (pa_cons pe_str (pa_cons pe_str pa_nil)))) (by rfl)))) pss_nil) pss_never, ?_⟩
    simp only [kindsV, List.mem_cons, List.not_mem_nil, or_false] at hv
    rcases hv with rfl | rfl | rfl
    · exact ⟨_, rfl, true, rfl, iteT (iteT ⟨_, rfl, (by show 3 ≤ sizeLine; decide), fun p hp => ⟨p, _, rfl, .inr (SqT.of upd_same), rfl, by decide +kernel, k _ (same_upd hp)⟩⟩)⟩
    · exact ⟨_, rfl, false, rfl, iteF ⟨_, rfl, _, .ty "str", _, _, true, rfl, .ty _, .base (.str _), kit_ty (by decide +kernel), _, rfl, iteT ⟨_, rfl, (by show 3 ≤ sizeLine; decide), fun p hp => ⟨p, _, rfl, .inr (SqT.of upd_same), rfl, by decide +kernel, k _ (same_upd hp)⟩⟩⟩⟩
    · exact ⟨_, rfl, false, rfl, iteF ⟨_, rfl, _, .ty "str", _, _, true, rfl, .ty _, .base (.str _), kit_ty (by decide +kernel), _, rfl, iteT ⟨_, rfl, (by show 3 ≤ sizeLine; decide), fun p hp => ⟨p, _, rfl, .inr (SqT.of upd_same), rfl, by decide +kernel, k _ (same_upd hp)⟩⟩⟩⟩
theorem scIsVal : FnScope ["thing", "part"] ["thing"] (defScope sIsVal) := ⟨rfl, rfl, rfl, by decide +kernel, rfl, by decide +kernel, by decide +kernel⟩
theorem stepIsVal {f fR : Addr} {fd fdR : FuncData} {m : Nat} (F : Fun K "is_value" "is_value" sIsVal f fd) (T : TxtB mg) (zStr : mg "str" = none) (R : At P w K mg base "is_row" 1 ["thing"] (spIsRow K) fR fdR) (G : FnOk P w K mg base CX0 (m + 1) f fd ["thing"] (spIsVal m)) (mC : mg "is_value" = some (.ref f)) (kC : PySem.W.keepIn K (.ref f) = true) (bC : Binds K fd ["thing"] []) :
    FnOk P w K mg base CX0 (m + 2) f fd ["thing"] (spIsVal (m + 1)) := by
  refine F.ok scIsVal (fun vs H Q E h => ?_) (fun cdv A outer s H vs Q E hr h => ?_)
  · obtain ⟨v, d, rfl, _⟩ := h
    rfl
  · obtain ⟨v, d, rfl, hd, dep, sz, k⟩ := h
    have r1 : Room 1 (A.deeper (PyProof.Rows.envOfC "is_value" (defScope sIsVal) s.heap.objs.size f cdv)) := hr.mono (by omega)
    cases hd with
    | non =>
      refine ⟨_, pss_cons (ps_if (pt_val (pe_call R.ok r1 rfl R.m R.k R.b .nil pass0 (pa_cons (pv 0) pa_nil))) (pss_one (ps_ret (pe_callB (cr_all rfl) (by rfl) T.all (by decide +kernel) (pa_cons (pe_lc (own := [("part", 1)]) (g := gName 1) (tt := tYes) (te := tCall (spIsVal m) [] E0 (tCons (tVar 1) tNil)) rfl scIsVal.nd (pi_list (pv 0)) (blkOk_by (N := ["thing", "part"]) (sc := defScope sIsVal) (by decide +kernel)) (fun _ _ _ _ _ => pg_name (i := 1) scIsVal.nd rfl (Or.inl rfl)) (fun _ _ _ _ _ => pts_nil) (fun _ _ _ _ _ => by exact pe_call G (by exact hr) rfl mC kC bC .nil pass0 (pa_cons (pv 1) pa_nil))) pa_nil)))) pss_nil)
        (pss_one (ps_ret (pe_or (pe_cmp (pc_isN (pv 0))) (pe_one (pe_callB call_isiT (by rfl) T.isinstance (by decide +kernel) (pa_cons (pv 0) (pa_cons (pe_tup (pa_cons (pe_bltn (v := .ty "int") (by rfl) T.int (by decide +kernel) rfl) (pa_cons (pe_bltn (v := .ty "str") (by rfl) zStr (by decide +kernel) rfl) pa_nil))) pa_nil))))))), ?_⟩
      refine ⟨_, rfl, _, "NoneType", false, rfl, .base .non, by decide +kernel, fun H1 e1 => ⟨_, rfl, iteF ?_⟩⟩
      exact ⟨_, rfl, true, rfl, iteT (k _ e1)⟩
    | bl b =>
      refine ⟨_, pss_cons (ps_if (pt_val (pe_call R.ok r1 rfl R.m R.k R.b .nil pass0 (pa_cons (pv 0) pa_nil))) (pss_one (ps_ret (pe_callB (cr_all rfl) (by rfl) T.all (by decide +kernel) (pa_cons (pe_lc (own := [("part", 1)]) (g := gName 1) (tt := tYes) (te := tCall (spIsVal m) [] E0 (tCons (tVar 1) tNil)) rfl scIsVal.nd (pi_list (pv 0)) (blkOk_by (N := ["thing", "part"]) (sc := defScope sIsVal) (by decide +kernel)) (fun _ _ _ _ _ => pg_name (i := 1) scIsVal.nd rfl (Or.inl rfl)) (fun _ _ _ _ _ => pts_nil) (fun _ _ _ _ _ => by exact pe_call G (by exact hr) rfl mC kC bC .nil pass0 (pa_cons (pv 1) pa_nil))) pa_nil)))) pss_nil)
        (pss_one (ps_ret (pe_or (pe_cmp (pc_isN (pv 0))) (pe_one (pe_callB call_isiT (by rfl) T.isinstance (by decide +kernel) (pa_cons (pv 0) (pa_cons (pe_tup (pa_cons (pe_bltn (v := .ty "int") (by rfl) T.int (by decide +kernel) rfl) (pa_cons (pe_bltn (v := .ty "str") (by rfl) zStr (by decide +kernel) rfl) pa_nil))) pa_nil))))))), ?_⟩
      refine ⟨_, rfl, _, "bool", false, rfl, .base (.bl b), by decide +kernel, fun H1 e1 => ⟨_, rfl, iteF ?_⟩⟩
      exact ⟨_, rfl, false, rfl, iteF ⟨_, rfl, (by show 2 ≤ sizeLine; decide), fun p hp => ⟨_, p, _, _, _, true, rfl, upd_same, .cons (.ty _) (.cons (.ty _) .nil), .base (.bl b), kits (cs := ["int", "str"]) (by decide +kernel), k _ (same_upd2 e1 hp)⟩⟩⟩
    | int i =>
      refine ⟨_, pss_cons (ps_if (pt_val (pe_call R.ok r1 rfl R.m R.k R.b .nil pass0 (pa_cons (pv 0) pa_nil))) (pss_one (ps_ret (pe_callB (cr_all rfl) (by rfl) T.all (by decide +kernel) (pa_cons (pe_lc (own := [("part", 1)]) (g := gName 1) (tt := tYes) (te := tCall (spIsVal m) [] E0 (tCons (tVar 1) tNil)) rfl scIsVal.nd (pi_list (pv 0)) (blkOk_by (N := ["thing", "part"]) (sc := defScope sIsVal) (by decide +kernel)) (fun _ _ _ _ _ => pg_name (i := 1) scIsVal.nd rfl (Or.inl rfl)) (fun _ _ _ _ _ => pts_nil) (fun _ _ _ _ _ => by exact pe_call G (by exact hr) rfl mC kC bC .nil pass0 (pa_cons (pv 1) pa_nil))) pa_nil)))) pss_nil)
        (pss_one (ps_ret (pe_or (pe_cmp (pc_isN (pv 0))) (pe_one (pe_callB call_isiT (by rfl) T.isinstance (by decide +kernel) (pa_cons (pv 0) (pa_cons (pe_tup (pa_cons (pe_bltn (v := .ty "int") (by rfl) T.int (by decide +kernel) rfl) (pa_cons (pe_bltn (v := .ty "str") (by rfl) zStr (by decide +kernel) rfl) pa_nil))) pa_nil))))))), ?_⟩
      refine ⟨_, rfl, _, "int", false, rfl, .base (.int i), by decide +kernel, fun H1 e1 => ⟨_, rfl, iteF ?_⟩⟩
      exact ⟨_, rfl, false, rfl, iteF ⟨_, rfl, (by show 2 ≤ sizeLine; decide), fun p hp => ⟨_, p, _, _, _, true, rfl, upd_same, .cons (.ty _) (.cons (.ty _) .nil), .base (.int i), kits (cs := ["int", "str"]) (by decide +kernel), k _ (same_upd2 e1 hp)⟩⟩⟩
    | str x =>
      refine ⟨_, pss_cons (ps_if (pt_val (pe_call R.ok r1 rfl R.m R.k R.b .nil pass0 (pa_cons (pv 0) pa_nil))) (pss_one (ps_ret (pe_callB (cr_all rfl) (by rfl) T.all (by decide +kernel) (pa_cons (pe_lc (own := [("part", 1)]) (g := gName 1) (tt := tYes) (te := tCall (spIsVal m) [] E0 (tCons (tVar 1) tNil)) rfl scIsVal.nd (pi_list (pv 0)) (blkOk_by (N := ["thing", "part"]) (sc := defScope sIsVal) (by decide +kernel)) (fun _ _ _ _ _ => pg_name (i := 1) scIsVal.nd rfl (Or.inl rfl)) (fun _ _ _ _ _ => pts_nil) (fun _ _ _ _ _ => by exact pe_call G (by exact hr) rfl mC kC bC .nil pass0 (pa_cons (pv 1) pa_nil))) pa_nil)))) pss_nil)
        (pss_one (ps_ret (pe_or (pe_cmp (pc_isN (pv 0))) (pe_one (pe_callB call_isiT (by rfl) T.isinstance (by decide +kernel) (pa_cons (pv 0) (pa_cons (pe_tup (pa_cons (pe_bltn (v := .ty "int") (by rfl) T.int (by decide +kernel) rfl) (pa_cons (pe_bltn (v := .ty "str") (by rfl) zStr (by decide +kernel) rfl) pa_nil))) pa_nil))))))), ?_⟩
      refine ⟨_, rfl, _, "str", false, rfl, .base (.str x), by decide +kernel, fun H1 e1 => ⟨_, rfl, iteF ?_⟩⟩
      exact ⟨_, rfl, false, rfl, iteF ⟨_, rfl, (by show 2 ≤ sizeLine; decide), fun p hp => ⟨_, p, _, _, _, true, rfl, upd_same, .cons (.ty _) (.cons (.ty _) .nil), .base (.str x), kits (cs := ["int", "str"]) (by decide +kernel), k _ (same_upd2 e1 hp)⟩⟩⟩
    | @lst a xs ds ha hds =>
      refine ⟨_, pss_cons (ps_if (pt_val (pe_call R.ok r1 rfl R.m R.k R.b .nil pass0 (pa_cons (pv 0) pa_nil))) (pss_one (ps_ret (pe_callB (cr_all rfl) (by rfl) T.all (by decide +kernel) (pa_cons (pe_lc (own := [("part", 1)]) (g := gName 1) (tt := tYes) (te := tCall (spIsVal m) [] E0 (tCons (tVar 1) tNil)) rfl scIsVal.nd (pi_list (pv 0)) (blkOk_by (N := ["thing", "part"]) (sc := defScope sIsVal) (by decide +kernel)) (fun _ _ _ _ _ => pg_name (i := 1) scIsVal.nd rfl (Or.inl rfl)) (fun _ _ _ _ _ => pts_nil) (fun _ _ _ _ _ => by exact pe_call G (by exact hr) rfl mC kC bC .nil pass0 (pa_cons (pv 1) pa_nil))) pa_nil)))) pss_nil)
        (pss_one (ps_ret (pe_or (pe_cmp (pc_isN (pv 0))) (pe_one (pe_callB call_isiT (by rfl) T.isinstance (by decide +kernel) (pa_cons (pv 0) (pa_cons (pe_tup (pa_cons (pe_bltn (v := .ty "int") (by rfl) T.int (by decide +kernel) rfl) (pa_cons (pe_bltn (v := .ty "str") (by rfl) zStr (by decide +kernel) rfl) pa_nil))) pa_nil))))))), ?_⟩
      refine ⟨_, rfl, _, "list", true, rfl, .base (.lst ha), by decide +kernel, fun H1 e1 => ⟨_, rfl, iteT ?_⟩⟩
      have ha1 := e1 _ _ ha
      have hln := hds.len
      have hsz := cop_size sz
      refine ⟨_, rfl, a, rfl, ⟨_, SqL.of ha1⟩, fun D hD => ?_⟩
      refine lc_list (K := K) (a := a) (xs := xs) (BlI (fun _ => true) H1 D xs) (blI0 hD) (fun i H' _ h => SqL.of (h.1 _ _ ha1)) (fun i x H' hx h => ?_) (fun H2 h => ?_)
      · obtain ⟨dx, hdx, hx'⟩ := hds.get hx
        obtain ⟨d0, s0⟩ := cop_child dep sz hdx
        obtain ⟨m', rfl⟩ : ∃ m', m = m' + 1 := ⟨m - 1, by omega⟩
        exact ⟨rfl, _, rfl, x, dx, rfl, Dt.mono (e1.trans h.1) _ _ hx', by omega, s0, fun H3 e3 => blI_step hD hx h e3 rfl (by omega)⟩
      obtain ⟨e2, hl⟩ := blI_end rfl h
      refine ⟨D, _, rfl, SqL.of hl, ?_⟩
      rw [all_tt]
      exact k _ (e1.trans e2)
    | @tup a xs ds ha hds =>
      refine ⟨_, pss_cons (ps_if (pt_val (pe_call R.ok r1 rfl R.m R.k R.b .nil pass0 (pa_cons (pv 0) pa_nil))) (pss_one (ps_ret (pe_callB (cr_all rfl) (by rfl) T.all (by decide +kernel) (pa_cons (pe_lc (own := [("part", 1)]) (g := gName 1) (tt := tYes) (te := tCall (spIsVal m) [] E0 (tCons (tVar 1) tNil)) rfl scIsVal.nd (pi_tup (pv 0)) (blkOk_by (N := ["thing", "part"]) (sc := defScope sIsVal) (by decide +kernel)) (fun _ _ _ _ _ => pg_name (i := 1) scIsVal.nd rfl (Or.inl rfl)) (fun _ _ _ _ _ => pts_nil) (fun _ _ _ _ _ => by exact pe_call G (by exact hr) rfl mC kC bC .nil pass0 (pa_cons (pv 1) pa_nil))) pa_nil)))) pss_nil)
        (pss_one (ps_ret (pe_or (pe_cmp (pc_isN (pv 0))) (pe_one (pe_callB call_isiT (by rfl) T.isinstance (by decide +kernel) (pa_cons (pv 0) (pa_cons (pe_tup (pa_cons (pe_bltn (v := .ty "int") (by rfl) T.int (by decide +kernel) rfl) (pa_cons (pe_bltn (v := .ty "str") (by rfl) zStr (by decide +kernel) rfl) pa_nil))) pa_nil))))))), ?_⟩
      refine ⟨_, rfl, _, "tuple", true, rfl, .base (.tup ha), by decide +kernel, fun H1 e1 => ⟨_, rfl, iteT ?_⟩⟩
      have ha1 := e1 _ _ ha
      have hln := hds.len
      have hsz := cop_size' sz
      refine ⟨_, rfl, a, rfl, ⟨_, SqT.of ha1⟩, fun D hD => ?_⟩
      refine lc_tup (K := K) (a := a) (xs := xs) (BlI (fun _ => true) H1 D xs) (blI0 hD) (fun i H' _ h => SqT.of (h.1 _ _ ha1)) (fun i x H' hx h => ?_) (fun H2 h => ?_)
      · obtain ⟨dx, hdx, hx'⟩ := hds.get hx
        obtain ⟨d0, s0⟩ := cop_child' dep sz hdx
        obtain ⟨m', rfl⟩ : ∃ m', m = m' + 1 := ⟨m - 1, by omega⟩
        exact ⟨rfl, _, rfl, x, dx, rfl, Dt.mono (e1.trans h.1) _ _ hx', by omega, s0, fun H3 e3 => blI_step hD hx h e3 rfl (by omega)⟩
      obtain ⟨e2, hl⟩ := blI_end rfl h
      refine ⟨D, _, rfl, SqL.of hl, ?_⟩
      rw [all_tt]
      exact k _ (e1.trans e2)
theorem okIsVal {f fR : Addr} {fd fdR : FuncData} (F : Fun K "is_value" "is_value" sIsVal f fd) (T : TxtB mg) (zStr : mg "str" = none) (R : At P w K mg base "is_row" 1 ["thing"] (spIsRow K) fR fdR) (mC : mg "is_value" = some (.ref f)) (kC : PySem.W.keepIn K (.ref f) = true) (bC : Binds K fd ["thing"] []) :
    ∀ m, FnOk P w K mg base CX0 (m + 1) f fd ["thing"] (spIsVal m)
  | 0 => ⟨fun _ _ _ _ h => h.elim, fun _ _ _ _ _ _ _ _ _ _ _ _ _ h => h.elim⟩
  | m + 1 => stepIsVal F T zStr R (okIsVal F T zStr R mC kC bC m) mC kC bC
abbrev nFits : List Str := ["metavar", "nargs", "part", "wanted"]
theorem scFits : FnScope nFits ["metavar", "nargs"] (defScope sFits) := ⟨rfl, rfl, rfl, by decide +kernel, rfl, by decide +kernel, by decide +kernel⟩
theorem ok_fits {f fR fI : Addr} {fd fdR fdI : FuncData} (F : Fun K "fits_metavar" "fits_metavar" sFits f fd) (T : TxtB mg) (zStr : mg "str" = none) (R : At P w K mg base "is_row" 1 ["thing"] (spIsRow K) fR fdR) (I : At P w K mg base "is_integer" 1 ["thing"] (spIsInt K) fI fdI) : FnOk P w K mg base CX0 2 f fd ["metavar", "nargs"] spFits := by
  refine F.ok scFits (fun vs H Q E h => ?_) (fun cdv A outer s H vs Q E hr h => ?_)
  · obtain ⟨mv, nv, md, rfl, _⟩ := h
    rfl
  · obtain ⟨mv, nv, md, rfl, hm, hn, hf, k⟩ := h
    have r1 : Room 1 (A.deeper (PyProof.Rows.envOfC "fits_metavar" (defScope sFits) s.heap.objs.size f cdv)) := hr
    rcases hf with rfl | ⟨z, rfl, z0⟩ | ⟨l, hl, l0, l10, lw⟩
    · cases hm
      refine ⟨_, pss_mid (ps_if (PW.pt (pw_or (pt_cmp (pc_isN (pv 0))) (pw_or1 (pt_val (pe_callB call_isi (by rfl) T.isinstance (by decide +kernel) (pa_cons (pv 0) (pa_cons (pe_bltn (v := .ty "str") (by rfl) zStr (by decide +kernel) rfl) pa_nil))))))) (pss_one (ps_ret (pe_cmpR op_ne (pv 0) pe_str (nomark _)))) pss_nil)
        (pss_cons (ps_if (PW.pt (pw_or (pt_not (pt_val (pe_call R.ok r1 rfl R.m R.k R.b .nil pass0 (pa_cons (pv 0) pa_nil)))) (pw_or1 (pt_not (pt_val (pe_callB (cr_all rfl) (by rfl) T.all (by decide +kernel) (pa_cons (pe_lc (own := [("part", 2)]) (g := gName 2) (tt := tYes) (te := tAndV (tCB (rIsi K) (tCons (tVar 2) (tCons (tC (.ty "str")) tNil))) (tOp rNe (tVar 2) (tC (.str "")))) rfl scFits.nd (pi_list (pv 0)) (blkOk_by (N := nFits) (sc := defScope sFits) (by decide +kernel)) (fun _ _ _ _ _ => pg_name (i := 2) scFits.nd rfl (Or.inl rfl)) (fun _ _ _ _ _ => pts_nil)
          (fun _ _ _ _ _ => by exact pe_and (pe_callB call_isi (by rfl) T.isinstance (by decide +kernel) (pa_cons (pv 2) (pa_cons (pe_bltn (v := .ty "str") (by rfl) zStr (by decide +kernel) rfl) pa_nil))) (pe_one (pe_cmpR op_ne (pv 2) pe_str (nomark _))))) pa_nil))))))) pss_never pss_nil)
        (pss_cons (ps_if (pt_cmpR op_eq (pv 1) pe_str (nomark _)) (pss_one (ps_ret (pe_cmpR op_in_seq (pe_callB call_len_seq (by rfl) T.len PySem.boot_len (pa_cons (pv 0) pa_nil)) (pe_tup (pa_cons pe_int (pa_cons pe_int pa_nil))) (by rfl)))) pss_nil)
        (pss_mid (ps_set (i := 3) scFits.nd rfl (Or.inl rfl) (pe_ifExp (pt_val (pe_call I.ok r1 rfl I.m I.k I.b .nil pass0 (pa_cons (pv 1) pa_nil))) (pv 1) (pe_ifExp (pt_cmpR op_eq (pv 1) pe_str (nomark _)) pe_int pe_int)))
        (pss_one (ps_ret (pe_cmpR op_eq (pe_callB call_len_seq (by rfl) T.len PySem.boot_len (pa_cons (pv 0) pa_nil)) (pv 3) (nomark _))))))), ?_⟩
      exact ⟨fun _ _ => False, ⟨_, rfl, true, rfl, iteT (iteT ⟨_, rfl, rfl, k _ (Same.refl _)⟩)⟩, fun _ _ h => h.elim⟩
    · cases hm
      refine ⟨_, pss_mid (ps_if (PW.pt (pw_or (pt_cmp (pc_isN (pv 0))) (pw_or1 (pt_val (pe_callB call_isi (by rfl) T.isinstance (by decide +kernel) (pa_cons (pv 0) (pa_cons (pe_bltn (v := .ty "str") (by rfl) zStr (by decide +kernel) rfl) pa_nil))))))) (pss_one (ps_ret (pe_cmpR op_ne (pv 0) pe_str (nomark _)))) pss_nil)
        (pss_cons (ps_if (PW.pt (pw_or (pt_not (pt_val (pe_call R.ok r1 rfl R.m R.k R.b .nil pass0 (pa_cons (pv 0) pa_nil)))) (pw_or1 (pt_not (pt_val (pe_callB (cr_all rfl) (by rfl) T.all (by decide +kernel) (pa_cons (pe_lc (own := [("part", 2)]) (g := gName 2) (tt := tYes) (te := tAndV (tCB (rIsi K) (tCons (tVar 2) (tCons (tC (.ty "str")) tNil))) (tOp rNe (tVar 2) (tC (.str "")))) rfl scFits.nd (pi_list (pv 0)) (blkOk_by (N := nFits) (sc := defScope sFits) (by decide +kernel)) (fun _ _ _ _ _ => pg_name (i := 2) scFits.nd rfl (Or.inl rfl)) (fun _ _ _ _ _ => pts_nil)
          (fun _ _ _ _ _ => by exact pe_and (pe_callB call_isi (by rfl) T.isinstance (by decide +kernel) (pa_cons (pv 2) (pa_cons (pe_bltn (v := .ty "str") (by rfl) zStr (by decide +kernel) rfl) pa_nil))) (pe_one (pe_cmpR op_ne (pv 2) pe_str (nomark _))))) pa_nil))))))) pss_never pss_nil)
        (pss_cons (ps_if (pt_cmpR op_eq (pv 1) pe_str (nomark _)) (pss_one (ps_ret (pe_cmpR op_in_seq (pe_callB call_len_seq (by rfl) T.len PySem.boot_len (pa_cons (pv 0) pa_nil)) (pe_tup (pa_cons pe_int (pa_cons pe_int pa_nil))) (by rfl)))) pss_nil)
        (pss_mid (ps_set (i := 3) scFits.nd rfl (Or.inl rfl) (pe_ifExp (pt_val (pe_call I.ok r1 rfl I.m I.k I.b .nil pass0 (pa_cons (pv 1) pa_nil))) (pv 1) (pe_ifExp (pt_cmpR op_eq (pv 1) pe_str (nomark _)) pe_int pe_int)))
        (pss_one (ps_ret (pe_cmpR op_eq (pe_callB call_len_seq (by rfl) T.len PySem.boot_len (pa_cons (pv 0) pa_nil)) (pv 3) (nomark _))))))), ?_⟩
      refine ⟨fun _ _ => False, ⟨_, rfl, false, rfl, iteF ⟨_, rfl, _, .ty "str", _, _, true, rfl, .ty _, .base (.str z), kit_ty (by decide +kernel), _, rfl, iteT ⟨_, rfl, rfl, ?_⟩⟩⟩, fun _ _ h => h.elim⟩
      rw [decide_eq_false fun q => z0 (V.str.inj q)]
      exact k _ (Same.refl _)
    rcases hl with rfl | rfl
    · obtain ⟨a, xs, rfl, ha, hds⟩ : ∃ a xs, mv = V.ref a ∧ H a = some (.lst xs) ∧ DtAll H xs (l.map PyData.str) := by
        cases hm with
        | lst h1 h2 => exact ⟨_, _, rfl, h1, h2⟩
      refine ⟨_, pss_mid (ps_if (PW.pt (pw_or (pt_cmp (pc_isN (pv 0))) (pw_or1 (pt_val (pe_callB call_isi (by rfl) T.isinstance (by decide +kernel) (pa_cons (pv 0) (pa_cons (pe_bltn (v := .ty "str") (by rfl) zStr (by decide +kernel) rfl) pa_nil))))))) (pss_one (ps_ret (pe_cmpR op_ne (pv 0) pe_str (nomark _)))) pss_nil)
        (pss_cons (ps_if (PW.pt (pw_or (pt_not (pt_val (pe_call R.ok r1 rfl R.m R.k R.b .nil pass0 (pa_cons (pv 0) pa_nil)))) (pw_or1 (pt_not (pt_val (pe_callB (cr_all rfl) (by rfl) T.all (by decide +kernel) (pa_cons (pe_lc (own := [("part", 2)]) (g := gName 2) (tt := tYes) (te := tAndV (tCB (rIsi K) (tCons (tVar 2) (tCons (tC (.ty "str")) tNil))) (tOp rNe (tVar 2) (tC (.str "")))) rfl scFits.nd (pi_list (pv 0)) (blkOk_by (N := nFits) (sc := defScope sFits) (by decide +kernel)) (fun _ _ _ _ _ => pg_name (i := 2) scFits.nd rfl (Or.inl rfl)) (fun _ _ _ _ _ => pts_nil)
          (fun _ _ _ _ _ => by exact pe_and (pe_callB call_isi (by rfl) T.isinstance (by decide +kernel) (pa_cons (pv 2) (pa_cons (pe_bltn (v := .ty "str") (by rfl) zStr (by decide +kernel) rfl) pa_nil))) (pe_one (pe_cmpR op_ne (pv 2) pe_str (nomark _))))) pa_nil))))))) pss_never pss_nil)
        (pss_cons (ps_if (pt_cmpR op_eq (pv 1) pe_str (nomark _)) (pss_one (ps_ret (pe_cmpR op_in_seq (pe_callB call_len_seq (by rfl) T.len PySem.boot_len (pa_cons (pv 0) pa_nil)) (pe_tup (pa_cons pe_int (pa_cons pe_int pa_nil))) (by rfl)))) pss_nil)
        (pss_mid (ps_set (i := 3) scFits.nd rfl (Or.inl rfl) (pe_ifExp (pt_val (pe_call I.ok r1 rfl I.m I.k I.b .nil pass0 (pa_cons (pv 1) pa_nil))) (pv 1) (pe_ifExp (pt_cmpR op_eq (pv 1) pe_str (nomark _)) pe_int pe_int)))
        (pss_one (ps_ret (pe_cmpR op_eq (pe_callB call_len_seq (by rfl) T.len PySem.boot_len (pa_cons (pv 0) pa_nil)) (pv 3) (nomark _))))))), ?_⟩
      obtain rfl := dts_lst hds
      refine ⟨fun σ' H' => σ' = [some (.ref a), some nv, none, none] ∧ H = H', ⟨_, rfl, false, rfl, iteF ⟨_, rfl, _, .ty "str", _, _, false, rfl, .ty _, .base (.lst ha), kit_ty (by decide +kernel), _, rfl, iteF ⟨rfl, rfl⟩⟩⟩, ?_⟩
      rintro _ _ ⟨rfl, rfl⟩
      refine ⟨_, rfl, _, "list", true, rfl, .base (.lst ha), by decide +kernel, fun H1 e1 => ⟨_, rfl, iteF ?_⟩⟩
      have ha1 := e1 _ _ ha
      refine ⟨_, rfl, a, rfl, ⟨_, SqL.of ha1⟩, fun D hD => ?_⟩
      refine lc_list (K := K) (a := a) (xs := l.map V.str) (BlI (fun _ => true) H1 D l) (blI0 hD) (fun i H' _ h => SqL.of (h.1 _ _ ha1)) (fun i x H' hx h => ?_) (fun H2 h => ?_)
      · obtain ⟨z, hz, rfl⟩ := str_at hx
        have zn := l0 z (List.mem_of_getElem? hz)
        refine ⟨rfl, _, rfl, _, .ty "str", _, _, true, rfl, .ty _, .base (.str z), kit_ty (by decide +kernel), true, rfl, iteT ⟨_, rfl, rfl, ?_⟩⟩
        rw [decide_eq_false fun q => zn (V.str.inj q)]
        exact blI_step hD hz h (Same.refl _) rfl (by omega)
      obtain ⟨e2, hl⟩ := blI_end (by rw [List.length_map]) h
      refine ⟨D, _, rfl, SqL.of hl, ?_⟩
      rw [all_tt]
      refine ⟨_, rfl, iteF ?_⟩
      have e12 := e1.trans e2
      have ha2 := e12 _ _ ha
      have hlen : (l.map V.str).length = l.length := List.length_map ..
      refine ⟨_, rfl, (by decide +kernel : ∀ v ∈ nMenu, scal v (V.str "*") = true) nv hn, _, rfl, ?_⟩
      refine ite2 (fun hc => ?_) (fun hc => ?_)
      · rw [if_pos (of_decide_eq_true hc)] at lw
        refine ⟨_, rfl, a, _, rfl, .inl (SqL.of ha2), (by show 2 ≤ sizeLine; decide), fun p hp => ⟨p, _, rfl, .inr (SqT.of upd_same), rfl, by decide +kernel, ?_⟩⟩
        rw [if_neg Bool.false_ne_true, hlen]
        have : inV (.int (l.length : Nat)) [.int 1, .int 2] = true := by
          rcases lw with h | h <;> (rw [h]; decide +kernel)
        rw [this]
        exact k _ (same_upd2 e12 hp)
      · rw [if_neg fun z => hc (decide_eq_true z)] at lw
        refine ⟨fun σ' H' => σ' = [some (.ref a), some nv, none, some (.int (l.length : Nat))] ∧ H2 = H', ?_, ?_⟩
        · simp only [nMenu, List.mem_cons, List.not_mem_nil, or_false] at hn
          rw [lw]
          rcases hn with rfl | rfl | rfl | rfl | rfl | rfl | rfl | rfl | rfl
          · exact ⟨_, rfl, _, "NoneType", false, false, rfl, .base .non, by decide +kernel, by decide +kernel, false, rfl, iteF ⟨_, rfl, rfl, false, rfl, iteF ⟨rfl, rfl⟩⟩⟩
          · exact ⟨_, rfl, _, "str", false, false, rfl, .base (.str _), by decide +kernel, by decide +kernel, false, rfl, iteF ⟨_, rfl, rfl, false, by decide +kernel, iteF ⟨rfl, rfl⟩⟩⟩
          · exact absurd (decide_eq_true rfl) hc
          · exact ⟨_, rfl, _, "str", false, false, rfl, .base (.str _), by decide +kernel, by decide +kernel, false, rfl, iteF ⟨_, rfl, rfl, true, by decide +kernel, iteT ⟨rfl, rfl⟩⟩⟩
          · exact ⟨_, rfl, _, "str", false, false, rfl, .base (.str _), by decide +kernel, by decide +kernel, false, rfl, iteF ⟨_, rfl, rfl, false, by decide +kernel, iteF ⟨rfl, rfl⟩⟩⟩
          · exact ⟨_, rfl, _, "int", true, false, rfl, .base (.int _), by decide +kernel, by decide +kernel, true, rfl, iteT ⟨_, rfl, rfl, rfl⟩⟩
          · exact ⟨_, rfl, _, "int", true, false, rfl, .base (.int _), by decide +kernel, by decide +kernel, true, rfl, iteT ⟨_, rfl, rfl, rfl⟩⟩
          · exact ⟨_, rfl, _, "int", true, false, rfl, .base (.int _), by decide +kernel, by decide +kernel, true, rfl, iteT ⟨_, rfl, rfl, rfl⟩⟩
          · exact ⟨_, rfl, _, "int", true, false, rfl, .base (.int _), by decide +kernel, by decide +kernel, true, rfl, iteT ⟨_, rfl, rfl, rfl⟩⟩
        rintro _ _ ⟨rfl, rfl⟩
        refine ⟨_, rfl, a, _, rfl, .inl (SqL.of ha2), _, rfl, rfl, ?_⟩
        rw [hlen, decide_eq_true rfl]
        exact k _ e12
    · obtain ⟨a, xs, rfl, ha, hds⟩ : ∃ a xs, mv = V.ref a ∧ H a = some (.tup xs) ∧ DtAll H xs (l.map PyData.str) := by
        cases hm with
        | tup h1 h2 => exact ⟨_, _, rfl, h1, h2⟩
      refine ⟨_, pss_mid (ps_if (PW.pt (pw_or (pt_cmp (pc_isN (pv 0))) (pw_or1 (pt_val (pe_callB call_isi (by rfl) T.isinstance (by decide +kernel) (pa_cons (pv 0) (pa_cons (pe_bltn (v := .ty "str") (by rfl) zStr (by decide +kernel) rfl) pa_nil))))))) (pss_one (ps_ret (pe_cmpR op_ne (pv 0) pe_str (nomark _)))) pss_nil)
        (pss_cons (ps_if (PW.pt (pw_or (pt_not (pt_val (pe_call R.ok r1 rfl R.m R.k R.b .nil pass0 (pa_cons (pv 0) pa_nil)))) (pw_or1 (pt_not (pt_val (pe_callB (cr_all rfl) (by rfl) T.all (by decide +kernel) (pa_cons (pe_lc (own := [("part", 2)]) (g := gName 2) (tt := tYes) (te := tAndV (tCB (rIsi K) (tCons (tVar 2) (tCons (tC (.ty "str")) tNil))) (tOp rNe (tVar 2) (tC (.str "")))) rfl scFits.nd (pi_tup (pv 0)) (blkOk_by (N := nFits) (sc := defScope sFits) (by decide +kernel)) (fun _ _ _ _ _ => pg_name (i := 2) scFits.nd rfl (Or.inl rfl)) (fun _ _ _ _ _ => pts_nil)
          (fun _ _ _ _ _ => by exact pe_and (pe_callB call_isi (by rfl) T.isinstance (by decide +kernel) (pa_cons (pv 2) (pa_cons (pe_bltn (v := .ty "str") (by rfl) zStr (by decide +kernel) rfl) pa_nil))) (pe_one (pe_cmpR op_ne (pv 2) pe_str (nomark _))))) pa_nil))))))) pss_never pss_nil)
        (pss_cons (ps_if (pt_cmpR op_eq (pv 1) pe_str (nomark _)) (pss_one (ps_ret (pe_cmpR op_in_seq (pe_callB call_len_seq (by rfl) T.len PySem.boot_len (pa_cons (pv 0) pa_nil)) (pe_tup (pa_cons pe_int (pa_cons pe_int pa_nil))) (by rfl)))) pss_nil)
        (pss_mid (ps_set (i := 3) scFits.nd rfl (Or.inl rfl) (pe_ifExp (pt_val (pe_call I.ok r1 rfl I.m I.k I.b .nil pass0 (pa_cons (pv 1) pa_nil))) (pv 1) (pe_ifExp (pt_cmpR op_eq (pv 1) pe_str (nomark _)) pe_int pe_int)))
        (pss_one (ps_ret (pe_cmpR op_eq (pe_callB call_len_seq (by rfl) T.len PySem.boot_len (pa_cons (pv 0) pa_nil)) (pv 3) (nomark _))))))), ?_⟩
      obtain rfl := dts_lst hds
      refine ⟨fun σ' H' => σ' = [some (.ref a), some nv, none, none] ∧ H = H', ⟨_, rfl, false, rfl, iteF ⟨_, rfl, _, .ty "str", _, _, false, rfl, .ty _, .base (.tup ha), kit_ty (by decide +kernel), _, rfl, iteF ⟨rfl, rfl⟩⟩⟩, ?_⟩
      rintro _ _ ⟨rfl, rfl⟩
      refine ⟨_, rfl, _, "tuple", true, rfl, .base (.tup ha), by decide +kernel, fun H1 e1 => ⟨_, rfl, iteF ?_⟩⟩
      have ha1 := e1 _ _ ha
      refine ⟨_, rfl, a, rfl, ⟨_, SqT.of ha1⟩, fun D hD => ?_⟩
      refine lc_tup (K := K) (a := a) (xs := l.map V.str) (BlI (fun _ => true) H1 D l) (blI0 hD) (fun i H' _ h => SqT.of (h.1 _ _ ha1)) (fun i x H' hx h => ?_) (fun H2 h => ?_)
      · obtain ⟨z, hz, rfl⟩ := str_at hx
        have zn := l0 z (List.mem_of_getElem? hz)
        refine ⟨rfl, _, rfl, _, .ty "str", _, _, true, rfl, .ty _, .base (.str z), kit_ty (by decide +kernel), true, rfl, iteT ⟨_, rfl, rfl, ?_⟩⟩
        rw [decide_eq_false fun q => zn (V.str.inj q)]
        exact blI_step hD hz h (Same.refl _) rfl (by omega)
      obtain ⟨e2, hl⟩ := blI_end (by rw [List.length_map]) h
      refine ⟨D, _, rfl, SqL.of hl, ?_⟩
      rw [all_tt]
      refine ⟨_, rfl, iteF ?_⟩
      have e12 := e1.trans e2
      have ha2 := e12 _ _ ha
      have hlen : (l.map V.str).length = l.length := List.length_map ..
      refine ⟨_, rfl, (by decide +kernel : ∀ v ∈ nMenu, scal v (V.str "*") = true) nv hn, _, rfl, ?_⟩
      refine ite2 (fun hc => ?_) (fun hc => ?_)
      · rw [if_pos (of_decide_eq_true hc)] at lw
        refine ⟨_, rfl, a, _, rfl, .inr (SqT.of ha2), (by show 2 ≤ sizeLine; decide), fun p hp => ⟨p, _, rfl, .inr (SqT.of upd_same), rfl, by decide +kernel, ?_⟩⟩
        rw [if_neg Bool.false_ne_true, hlen]
        have : inV (.int (l.length : Nat)) [.int 1, .int 2] = true := by
          rcases lw with h | h <;> (rw [h]; decide +kernel)
        rw [this]
        exact k _ (same_upd2 e12 hp)
      · rw [if_neg fun z => hc (decide_eq_true z)] at lw
        refine ⟨fun σ' H' => σ' = [some (.ref a), some nv, none, some (.int (l.length : Nat))] ∧ H2 = H', ?_, ?_⟩
        · simp only [nMenu, List.mem_cons, List.not_mem_nil, or_false] at hn
          rw [lw]
          rcases hn with rfl | rfl | rfl | rfl | rfl | rfl | rfl | rfl | rfl
          · exact ⟨_, rfl, _, "NoneType", false, false, rfl, .base .non, by decide +kernel, by decide +kernel, false, rfl, iteF ⟨_, rfl, rfl, false, rfl, iteF ⟨rfl, rfl⟩⟩⟩
          · exact ⟨_, rfl, _, "str", false, false, rfl, .base (.str _), by decide +kernel, by decide +kernel, false, rfl, iteF ⟨_, rfl, rfl, false, by decide +kernel, iteF ⟨rfl, rfl⟩⟩⟩
          · exact absurd (decide_eq_true rfl) hc
          · exact ⟨_, rfl, _, "str", false, false, rfl, .base (.str _), by decide +kernel, by decide +kernel, false, rfl, iteF ⟨_, rfl, rfl, true, by decide +kernel, iteT ⟨rfl, rfl⟩⟩⟩
          · exact ⟨_, rfl, _, "str", false, false, rfl, .base (.str _), by decide +kernel, by decide +kernel, false, rfl, iteF ⟨_, rfl, rfl, false, by decide +kernel, iteF ⟨rfl, rfl⟩⟩⟩
          · exact ⟨_, rfl, _, "int", true, false, rfl, .base (.int _), by decide +kernel, by decide +kernel, true, rfl, iteT ⟨_, rfl, rfl, rfl⟩⟩
          · exact ⟨_, rfl, _, "int", true, false, rfl, .base (.int _), by decide +kernel, by decide +kernel, true, rfl, iteT ⟨_, rfl, rfl, rfl⟩⟩
          · exact ⟨_, rfl, _, "int", true, false, rfl, .base (.int _), by decide +kernel, by decide +kernel, true, rfl, iteT ⟨_, rfl, rfl, rfl⟩⟩
          · exact ⟨_, rfl, _, "int", true, false, rfl, .base (.int _), by decide +kernel, by decide +kernel, true, rfl, iteT ⟨_, rfl, rfl, rfl⟩⟩
        rintro _ _ ⟨rfl, rfl⟩
        refine ⟨_, rfl, a, _, rfl, .inr (SqT.of ha2), _, rfl, rfl, ?_⟩
        rw [hlen, decide_eq_true rfl]
        exact k _ e12
end
end K67

/-! x in t, t a tuple: items are data of any depth -/
namespace L2
open PySem PySem.Spec PyProof.Rows
section
variable {X : Cx}
def rInDT (K : PySem.W.Frag) (neg : Bool) : R2 := fun x y H Q => ∃ d ds, Dp K H x d ∧ Dp K H y (.tuple ds) ∧ SeqAt.shaped d = true ∧ SeqAt.shaped (.tuple ds) = true ∧ Q (.bl (if neg then !(ds.any fun z => PyData.eqv z d) else ds.any fun z => PyData.eqv z d)) H
theorem shaped_lt {ds : List PyData} (h : SeqAt.shaped (.tuple ds) = true) : SeqAt.shaped (.list ds) = true := h
theorem op_inDT (hu : X.A.units + 65 < cLine) : OpR X (compareOp .In) (rInDT X.K false) := by
  intro pins s σ H x y v u Q I rx ry h
  obtain ⟨d, ds, hd, he, sd, se, q⟩ := h
  obtain ⟨as, r1⟩ := Dp.reads I d x v hd rx
  obtain ⟨bs, r2⟩ := Dp.reads I (.tuple ds) y u he ry
  exact SeqAt.in_tuple_reads r2 r1 (SeqAt.canLay_of_shaped (shaped_lt se)) (SeqAt.canLay_of_shaped sd) (room_in_shaped sd hu) ⟨.bl _, H, I, rfl, q⟩
theorem op_notInDT (hu : X.A.units + 65 < cLine) : OpR X (compareOp .NotIn) (rInDT X.K true) := by
  intro pins s σ H x y v u Q I rx ry h
  obtain ⟨d, ds, hd, he, sd, se, q⟩ := h
  obtain ⟨as, r1⟩ := Dp.reads I d x v hd rx
  obtain ⟨bs, r2⟩ := Dp.reads I (.tuple ds) y u he ry
  exact SeqAt.notIn_tuple_reads r2 r1 (SeqAt.canLay_of_shaped (shaped_lt se)) (SeqAt.canLay_of_shaped sd) (room_in_shaped sd hu) ⟨.bl _, H, I, rfl, q⟩
end
end L2

namespace K67
open PySem L2 PyProof.Rows
/-! ### options that are right -/
def SUP : Str := "==SUPPRESS=="
def scD : V → PyData
  | .bl b => .bool b
  | .int i => .int i
  | .str x => .str x
  | _ => .none
theorem dt_n {H : Hp} {v nv : V} (hn : nv ∈ nMenu) (h : Dt H v (scD nv)) : v = nv := by
  simp only [nMenu, List.mem_cons, List.not_mem_nil, or_false] at hn
  rcases hn with rfl | rfl | rfl | rfl | rfl | rfl | rfl | rfl | rfl <;> (cases h; rfl)
theorem dt_k {H : Hp} {v nv : V} (hn : nv ∈ kindsV) (h : Dt H v (scD nv)) : v = nv := by
  simp only [kindsV, List.mem_cons, List.not_mem_nil, or_false] at hn
  rcases hn with rfl | rfl | rfl <;> (cases h; rfl)
structure OkO (io : Bool) (act : Str) (ld : DD) : Prop where
  al : (lookD ld "action").getD (.str "store") = .str act
  am : act ∈ acts12
  ap : io = false → act ∈ WWs
  ks : ∀ k ∈ keysD ld, k ∈ keysS act
  rq : ∀ d, lookD ld "required" = some d → io = true ∧ ∃ b, d = .bool b
  ve : act = "version" → ∃ z, lookD ld "version" = some (.str z)
  na : act ∈ WWs → ∃ nv ∈ nMenu, gD ld "nargs" = scD nv ∧ (act = "extend" → nv ≠ .non ∧ nv ≠ .str "?") ∧ ((lookD ld "const").isSome = true → nv = .str "?") ∧ FitsM (gD ld "metavar") nv
  ki : act ∈ WWs → ∃ kv ∈ kindsV, gD ld "kind" = scD kv
  ch : gD ld "choices" = .none ∨ (∃ l, gD ld "choices" = .list l) ∨ ∃ l, gD ld "choices" = .tuple l
  de : act ∈ LLs → gD ld "default" = .none ∨ gD ld "default" = .str SUP ∨ ∃ l, gD ld "default" = .list l
  he : gD ld "help" = .none ∨ ∃ z, gD ld "help" = .str z
  sm : ∀ p ∈ ld, PyData.depth p.2 ≤ 2 ∧ small p.2 = true ∧ SeqAt.shaped p.2 = true
  n : ld.length ≤ 20
theorem OkO.get {io : Bool} {act : Str} {ld : DD} (h : OkO io act ld) (k : Str) : PyData.depth (gD ld k) ≤ 2 ∧ small (gD ld k) = true ∧ SeqAt.shaped (gD ld k) = true := by
  unfold gD
  cases e : lookD ld k with
  | none => exact ⟨by decide, by decide, by decide⟩
  | some d => exact h.sm _ (look_mem e)
theorem OkO.no {io : Bool} {act : Str} {ld : DD} (h : OkO io act ld) {k : Str} (hk : k ∉ keysS act) : lookD ld k = none := by
  cases e : lookD ld k with
  | none => rfl
  | some d => exact absurd (h.ks k (List.mem_map.mpr ⟨_, look_mem e, rfl⟩)) hk
def spWords : Sp := fun vs H Q _ => ∃ (o : Addr) (s : Str) (io : Bool) (kvs : List (Key × V)) (ld : DD), vs = [.str s, .ref o] ∧ OpH H o kvs ld ∧ OkO io s ld ∧ s ∈ WWs ∧ ∀ H', Same H H' → Q .non H'
def spChkO : Sp := fun vs H Q _ => ∃ (o : Addr) (s : Str) (io : Bool) (kvs : List (Key × V)) (ld : DD), vs = [.str s, .ref o, .bl (!io)] ∧ OpH H o kvs ld ∧ OkO io s ld ∧ ∀ H', Same H H' → Q .non H'
section
variable {P : Program} {w : World} {K : PySem.W.Frag} {mg : Str → Option Value} {base : Heap}
abbrev nWords : List Str := ["action", "options", "nargs", "fits", "choices"]
theorem scWords : FnScope nWords ["action", "options"] (defScope sChkWords) := ⟨rfl, rfl, rfl, by decide +kernel, rfl, by decide +kernel, by decide +kernel⟩
theorem ok_words {f fI fK fM fR fV aW aC aO aN aL aA : Addr} {fd fdI fdK fdM fdR fdV : FuncData} (F : Fun K "check_words" "check_words" sChkWords f fd) (T : TxtB mg) (Z : TxtK K mg aW aC aO aN aL aA) (I : At P w K mg base "is_integer" 1 ["thing"] (spIsInt K) fI fdI) (G : At P w K mg base "is_kind" 1 ["thing"] spIsKind fK fdK) (M : At P w K mg base "fits_metavar" 2 ["metavar", "nargs"] spFits fM fdM)
    (R : At P w K mg base "is_row" 1 ["thing"] (spIsRow K) fR fdR) (Iv : At P w K mg base "is_value" 4 ["thing"] (spIsVal 3) fV fdV) :
    FnOk P w K mg base CX0 5 f fd ["action", "options"] spWords := by
  refine F.ok scWords (fun vs H Q E h => ?_) (fun cdv A outer s H vs Q E hr h => ?_)
  · obtain ⟨o, z, io, kvs, ld, rfl, _⟩ := h
    rfl
  · obtain ⟨o, z, io, kvs, ld, rfl, hO, hK, hz, k⟩ := h
    have hu1 := hu_of hr
    have r1 : Room 1 (A.deeper (PyProof.Rows.envOfC "check_words" (defScope sChkWords) s.heap.objs.size f cdv)) := hr.mono (by decide)
    have r2 : Room 2 (A.deeper (PyProof.Rows.envOfC "check_words" (defScope sChkWords) s.heap.objs.size f cdv)) := hr.mono (by decide)
    refine ⟨_, pss_mid (ps_set (i := 2) scWords.nd rfl (Or.inl rfl) (pe_dget1 hu1 (pv 1) pe_str ⟨rfl, rfl, rfl, rfl⟩))
      (pss_mid (ps_set (i := 3) scWords.nd rfl (Or.inl rfl) (pe_or (pe_cmp (pc_isN (pv 2)) rfl) (pe_or (pe_and (pe_call I.ok r1 rfl I.m I.k I.b .nil pass0 (pa_cons (pv 2) pa_nil)) (pe_one (pe_cmpR op_gt (pv 2) pe_int (nomark _)))) (pe_one (pe_and (pe_callB call_isi (by rfl) T.isinstance (by decide +kernel) (pa_cons (pv 2) (pa_cons (pe_bltn (v := .ty "str") (by rfl) Z.str (by decide +kernel) rfl) pa_nil))) (pe_one (pe_cmpR op_in_seq (pv 2) (pe_glob (v := .ref aN) rfl Z.N.m rfl) (by rfl))))))))
      (pss_mid (ps_if (PW.pt (pw_or (pt_not (pt_val (pv 3))) (pw_or1 (PW.pt (pw_and (pt_cmpR op_eq (pv 0) pe_str (nomark _)) (pw_and1 (pt_cmpR op_in_seq (pv 2) (pe_tup (pa_cons pe_non (pa_cons pe_str pa_nil))) (by rfl)))))))) pss_never pss_nil)
      (pss_mid (ps_if (PW.pt (pw_and (pt_cmp (pc_din hu1 pe_str (pv 1))) (pw_and1 (pt_cmpR op_ne (pv 2) pe_str (nomark _))))) pss_never pss_nil)
      (pss_mid (ps_if (pt_not (pt_val (pe_call G.ok r1 rfl G.m G.k G.b .nil pass0 (pa_cons (pe_dget1 hu1 (pv 1) pe_str ⟨rfl, rfl, rfl, rfl⟩) pa_nil)))) pss_never pss_nil)
      (pss_mid (ps_set (i := 4) scWords.nd rfl (Or.inl rfl) (pe_dget1 hu1 (pv 1) pe_str ⟨rfl, rfl, rfl, rfl⟩))
      (pss_mid (ps_if (PW.pt (pw_and (pt_cmp (pc_notN (pv 4))) (pw_and1 (pt_not (PW.pt (pw_and (pt_val (pe_call R.ok r1 rfl R.m R.k R.b .nil pass0 (pa_cons (pv 4) pa_nil))) (pw_and1 (pt_val (pe_call Iv.ok hr rfl Iv.m Iv.k Iv.b .nil pass0 (pa_cons (pv 4) pa_nil)))))))))) pss_never pss_nil)
      (pss_one (ps_if (pt_not (pt_val (pe_call M.ok r2 rfl M.m M.k M.b .nil pass0 (pa_cons (pe_dget1 hu1 (pv 1) pe_str ⟨rfl, rfl, rfl, rfl⟩) (pa_cons (pv 2) pa_nil))))) pss_never pss_nil)))))))), ?_⟩
    obtain ⟨nv, hnv, hn1, hn2, hn3, hn4⟩ := hK.na hz
    obtain ⟨kv, hkv, hk1⟩ := hK.ki hz
    -- nargs
    refine ⟨fun σ' H' => σ' = [some (.str z), some (.ref o), some nv, none, none] ∧ H = H', ?_, ?_⟩
    · obtain ⟨ov, g1, g2⟩ := hO.getN "nargs"
      rw [hn1] at g2
      have := dt_n hnv g2
      rw [← this]
      exact ⟨_, rfl, o, rfl, hO.iD, ov, g1, rfl, rfl⟩
    rintro _ _ ⟨rfl, rfl⟩
    refine ⟨fun σ' H' => σ' = [some (.str z), some (.ref o), some nv, some (.bl true), none] ∧ H = H', ?_, ?_⟩
    · have nn := hnv
      simp only [nMenu, List.mem_cons, List.not_mem_nil, or_false] at nn
      rcases nn with rfl | rfl | rfl | rfl | rfl | rfl | rfl | rfl | rfl
      · exact ⟨_, rfl, true, rfl, iteT ⟨rfl, rfl⟩⟩
      · exact ⟨_, rfl, false, rfl, iteF ⟨_, rfl, _, "str", false, false, rfl, .base (.str _), by decide +kernel, by decide +kernel, false, rfl, iteF ⟨false, rfl, iteF ⟨_, rfl, _, .ty "str", _, _, true, rfl, .ty _, .base (.str _), kit_ty (by decide +kernel), true, rfl, iteT ⟨_, rfl, aN, wN, rfl, .inr (Z.N.q _), rfl, by decide +kernel, rfl, rfl⟩⟩⟩⟩⟩
      · exact ⟨_, rfl, false, rfl, iteF ⟨_, rfl, _, "str", false, false, rfl, .base (.str _), by decide +kernel, by decide +kernel, false, rfl, iteF ⟨false, rfl, iteF ⟨_, rfl, _, .ty "str", _, _, true, rfl, .ty _, .base (.str _), kit_ty (by decide +kernel), true, rfl, iteT ⟨_, rfl, aN, wN, rfl, .inr (Z.N.q _), rfl, by decide +kernel, rfl, rfl⟩⟩⟩⟩⟩
      · exact ⟨_, rfl, false, rfl, iteF ⟨_, rfl, _, "str", false, false, rfl, .base (.str _), by decide +kernel, by decide +kernel, false, rfl, iteF ⟨false, rfl, iteF ⟨_, rfl, _, .ty "str", _, _, true, rfl, .ty _, .base (.str _), kit_ty (by decide +kernel), true, rfl, iteT ⟨_, rfl, aN, wN, rfl, .inr (Z.N.q _), rfl, by decide +kernel, rfl, rfl⟩⟩⟩⟩⟩
      · exact ⟨_, rfl, false, rfl, iteF ⟨_, rfl, _, "str", false, false, rfl, .base (.str _), by decide +kernel, by decide +kernel, false, rfl, iteF ⟨false, rfl, iteF ⟨_, rfl, _, .ty "str", _, _, true, rfl, .ty _, .base (.str _), kit_ty (by decide +kernel), true, rfl, iteT ⟨_, rfl, aN, wN, rfl, .inr (Z.N.q _), rfl, by decide +kernel, rfl, rfl⟩⟩⟩⟩⟩
      · exact ⟨_, rfl, false, rfl, iteF ⟨_, rfl, _, "int", true, false, rfl, .base (.int _), by decide +kernel, by decide +kernel, true, rfl, iteT ⟨_, rfl, _, _, rfl, rfl, true, rfl, iteT ⟨rfl, rfl⟩⟩⟩⟩
      · exact ⟨_, rfl, false, rfl, iteF ⟨_, rfl, _, "int", true, false, rfl, .base (.int _), by decide +kernel, by decide +kernel, true, rfl, iteT ⟨_, rfl, _, _, rfl, rfl, true, rfl, iteT ⟨rfl, rfl⟩⟩⟩⟩
      · exact ⟨_, rfl, false, rfl, iteF ⟨_, rfl, _, "int", true, false, rfl, .base (.int _), by decide +kernel, by decide +kernel, true, rfl, iteT ⟨_, rfl, _, _, rfl, rfl, true, rfl, iteT ⟨rfl, rfl⟩⟩⟩⟩
      · exact ⟨_, rfl, false, rfl, iteF ⟨_, rfl, _, "int", true, false, rfl, .base (.int _), by decide +kernel, by decide +kernel, true, rfl, iteT ⟨_, rfl, _, _, rfl, rfl, true, rfl, iteT ⟨rfl, rfl⟩⟩⟩⟩
    rintro _ _ ⟨rfl, rfl⟩
    have nflat : flatV nv = true := (by decide +kernel : ∀ v ∈ nMenu, flatV v = true) nv hnv
    -- extend
    refine ⟨fun σ' H' => σ' = [some (.str z), some (.ref o), some nv, some (.bl true), none] ∧ Same H H', ?_, ?_⟩
    · refine ⟨_, rfl, true, rfl, iteF ⟨_, rfl, rfl, _, rfl, ?_⟩⟩
      refine ite2 (fun hc => ?_) (fun hc => iteF ⟨rfl, Same.refl _⟩)
      obtain ⟨x1, x2⟩ := hn2 (V.str.inj (of_decide_eq_true hc))
      refine ⟨_, rfl, (by show 2 ≤ sizeLine; decide), fun p hp => ⟨p, _, rfl, .inr (SqT.of upd_same), nflat, by decide +kernel, false, ?_, iteF ⟨rfl, same_upd hp⟩⟩⟩
      rw [if_neg Bool.false_ne_true]
      exact congrArg V.bl ((by decide +kernel : ∀ v ∈ nMenu, v ≠ .non → v ≠ .str "?" → inV v [V.non, V.str "?"] = false) nv hnv x1 x2)
    rintro _ H1 ⟨rfl, e1⟩
    have hO1 := hO.keep e1
    -- const
    refine ⟨fun σ' H' => σ' = [some (.str z), some (.ref o), some nv, some (.bl true), none] ∧ H1 = H', ?_, ?_⟩
    · obtain ⟨ov, g1, g2⟩ := hO1.get "const"
      refine ⟨_, rfl, o, _, rfl, g1, _, rfl, ?_⟩
      refine ite2 (fun hc => ?_) (fun hc => iteF ⟨rfl, rfl⟩)
      have hcs : (lookD ld "const").isSome = true := by
        rcases g2 with ⟨q1, rfl⟩ | ⟨d, v, q1, rfl, _⟩
        · cases hc
        · rw [q1]
          rfl
      obtain rfl := hn3 hcs
      exact ⟨_, rfl, rfl, false, by decide +kernel, iteF ⟨rfl, rfl⟩⟩
    rintro _ _ ⟨rfl, rfl⟩
    -- kind
    refine ⟨fun σ' H' => σ' = [some (.str z), some (.ref o), some nv, some (.bl true), none] ∧ Same H H', ?_, ?_⟩
    · obtain ⟨ov, g1, g2⟩ := hO1.getN "kind"
      rw [hk1] at g2
      exact ⟨_, rfl, o, rfl, hO1.iD, ov, g1, kv, by rw [dt_k hkv g2]; rfl, hkv, fun H' e => ⟨true, rfl, iteF ⟨rfl, e1.trans e⟩⟩⟩
    rintro _ H2 ⟨rfl, e2⟩
    have hO2 := hO.keep e2
    -- choices
    obtain ⟨ov, g1, g2⟩ := hO2.getN "choices"
    refine ⟨fun σ' H' => σ' = [some (.str z), some (.ref o), some nv, some (.bl true), some (ov.getD .non)] ∧ H2 = H', ⟨_, rfl, o, rfl, hO2.iD, ov, g1, rfl, rfl⟩, ?_⟩
    rintro _ _ ⟨rfl, rfl⟩
    obtain ⟨c1, c2, _⟩ := hK.get "choices"
    have hch := hK.ch
    generalize ov.getD .non = cv at g2
    generalize gD ld "choices" = cd at g2 c1 c2 hch
    refine ⟨fun σ' H' => σ' = [some (.str z), some (.ref o), some nv, some (.bl true), some cv] ∧ Same H H', ?_, ?_⟩
    · rcases hch with rfl | ⟨l, rfl⟩ | ⟨l, rfl⟩
      · cases g2
        exact ⟨_, rfl, false, rfl, iteF (iteF ⟨rfl, e2⟩)⟩
      · have g2' := g2
        cases g2 with
        | lst h1 h2 =>
          exact ⟨_, rfl, true, rfl, iteT ⟨_, rfl, _, "list", true, rfl, .base (.lst h1), by decide +kernel, fun H' e => ⟨_, rfl, iteT ⟨_, rfl, _, _, rfl, Dt.mono e _ _ g2', c1, c2, fun H3 e3 => ⟨_, rfl, iteF ⟨rfl, e2.trans (e.trans e3)⟩⟩⟩⟩⟩⟩
      · have g2' := g2
        cases g2 with
        | tup h1 h2 =>
          exact ⟨_, rfl, true, rfl, iteT ⟨_, rfl, _, "tuple", true, rfl, .base (.tup h1), by decide +kernel, fun H' e => ⟨_, rfl, iteT ⟨_, rfl, _, _, rfl, Dt.mono e _ _ g2', c1, c2, fun H3 e3 => ⟨_, rfl, iteF ⟨rfl, e2.trans (e.trans e3)⟩⟩⟩⟩⟩⟩
    rintro _ H3 ⟨rfl, e3⟩
    have hO3 := hO.keep e3
    obtain ⟨ov3, g3, g4⟩ := hO3.getN "metavar"
    exact ⟨_, rfl, o, rfl, hO3.iD, ov3, g3, _, rfl, _, _, _, rfl, g4, hnv, hn4, fun H' e => ⟨_, rfl, iteF (k _ (e3.trans e))⟩⟩
end
end K67

namespace K67
open PySem L2 PyProof.Rows
/-! ### check_options, default_of -/
def hvV (s : Str) : Bool := inV (.str s) [.str "help", .str "version"]
def deD (act : Str) (ld : DD) : PyData := match lookD ld "default" with
  | some d => d
  | none => if act = "help" ∨ act = "version" then .str SUP else if act = "store_true" ∨ act = "store_false" then .bool (decide (act = "store_false")) else .none
def spDflt : Sp := fun vs H Q _ => ∃ (s d : Str) (o dd : Addr) (io : Bool) (kvs : List (Key × V)) (ld : DD), vs = [.str s, .str d, .ref o, .ref dd, .non] ∧ OpH H o kvs ld ∧ OkO io s ld ∧ H dd = some (.dK []) ∧ ∀ (v' : V) (N H' : Hp), Same H H' → Fresh H H' N → Dt N v' (deD s ld) → Q v' H'
section
variable {P : Program} {w : World} {K : PySem.W.Frag} {mg : Str → Option Value} {base : Heap}
abbrev nChkO : List Str := ["action", "options", "is_positional", "default", "key"]
theorem scChkO : FnScope nChkO ["action", "options", "is_positional"] (defScope sChkOpts) := ⟨rfl, rfl, rfl, by decide +kernel, rfl, by decide +kernel, by decide +kernel⟩
theorem ok_chkO {f fY fW aW aC aO aN aL aA : Addr} {fd fdY fdW : FuncData} (F : Fun K "check_options" "check_options" sChkOpts f fd) (T : TxtB mg) (Z : TxtK K mg aW aC aO aN aL aA) (Y : At P w K mg base "keys_of" 1 ["action"] (spKeysT K) fY fdY) (W : At P w K mg base "check_words" 5 ["action", "options"] spWords fW fdW) :
    FnOk P w K mg base CX0 6 f fd ["action", "options", "is_positional"] spChkO := by
  refine F.ok scChkO (fun vs H Q E h => ?_) (fun cdv A outer s H vs Q E hr h => ?_)
  · obtain ⟨o, z, io, kvs, ld, rfl, _⟩ := h
    rfl
  · obtain ⟨o, z, io, kvs, ld, rfl, hO, hK, k⟩ := h
    have hu1 := hu_of hr
    have hu65 : (A.deeper (PyProof.Rows.envOfC "check_options" (defScope sChkOpts) s.heap.objs.size f cdv)).units + 65 < cLine := by have := hr.un; omega
    have r1 : Room 1 (A.deeper (PyProof.Rows.envOfC "check_options" (defScope sChkOpts) s.heap.objs.size f cdv)) := hr.mono (by decide)
    obtain ⟨ts, hsup⟩ := Z.sup
    refine ⟨_, pss_cons (ps_if (PW.pt (pw_or (pt_not (pt_val (pe_callB call_isi (by rfl) T.isinstance (by decide +kernel) (pa_cons (pv 0) (pa_cons (pe_bltn (v := .ty "str") (by rfl) Z.str (by decide +kernel) rfl) pa_nil))))) (pw_or1 (pt_cmpR op_notIn_seq (pv 0) (pe_op op_catT (pe_op op_catT (pe_op op_catT (pe_glob (v := .ref aW) rfl Z.W.m rfl) (pe_glob (v := .ref aC) rfl Z.C.m rfl)) (pe_glob (v := .ref aO) rfl Z.O.m rfl)) (pe_tup (pa_cons pe_str (pa_cons pe_str pa_nil)))) (by rfl))))) pss_never pss_nil)
      (pss_mid (ps_if (PW.pt (pw_and (pt_val (pv 2)) (pw_and1 (pt_cmpR op_notIn_seq (pv 0) (pe_glob (v := .ref aW) rfl Z.W.m rfl) (by rfl))))) pss_never pss_nil)
      (pss_mid (ps_if (pt_not (pt_val (pe_callB (cr_all rfl) (by rfl) T.all (by decide +kernel) (pa_cons (pe_lock (pe_lc (own := [("key", 4)]) (g := gName 4) (tt := tYes) (te := tOp (rIn K false) (tVar 4) (tCall (spKeysT K) [] E0 (tCons (tVar 0) tNil))) rfl scChkO.nd (pi_keys (pv 1)) (blkOk_by (N := nChkO) (sc := defScope sChkOpts) (by decide +kernel)) (fun _ _ _ _ _ => pg_name (i := 4) scChkO.nd rfl (Or.inl rfl)) (fun _ _ _ _ _ => pts_nil)
        (fun _ _ _ _ _ => by exact pe_cmpR op_in_seq (pv 4) (by exact pe_call Y.ok (by exact r1) rfl Y.m Y.k Y.b .nil pass0 (pa_cons (pv 0) pa_nil)) (by rfl)))) pa_nil)))) pss_never pss_nil)
      (pss_mid (ps_if (PW.pt (pw_and (pt_cmp (pc_din hu1 pe_str (pv 1))) (pw_and1 (PW.pt (pw_or (pt_val (pv 2)) (pw_or1 (pt_not (pt_val (pe_callB call_isi (by rfl) T.isinstance (by decide +kernel) (pa_cons (pe_dget hu1 (pv 1) pe_str (fun _ _ => rfl)) (pa_cons (pe_bltn (v := .ty "bool") (by rfl) T.bool (by decide +kernel) rfl) pa_nil))))))))))) pss_never pss_nil)
      (pss_mid (ps_if (PW.pt (pw_and (pt_cmpR op_eq (pv 0) pe_str (nomark _)) (pw_and1 (pt_not (pt_val (pe_callB call_isi (by rfl) T.isinstance (by decide +kernel) (pa_cons (pe_dget1 hu1 (pv 1) pe_str ⟨rfl, rfl, rfl, rfl⟩) (pa_cons (pe_bltn (v := .ty "str") (by rfl) Z.str (by decide +kernel) rfl) pa_nil)))))))) pss_never pss_nil)
      (pss_mid (ps_if (pt_cmpR op_in_seq (pv 0) (pe_glob (v := .ref aW) rfl Z.W.m rfl) (by rfl)) (pss_one (ps_expr (pe_call W.ok hr rfl W.m W.k W.b .nil pass0 (pa_cons (pv 0) (pa_cons (pv 1) pa_nil))))) pss_nil)
      (pss_mid (ps_set (i := 3) scChkO.nd rfl (Or.inl rfl) (pe_dget1 hu1 (pv 1) pe_str ⟨rfl, rfl, rfl, rfl⟩))
      (pss_mid (ps_if (PW.pt (pw_and (pt_cmpR op_in_seq (pv 0) (pe_glob (v := .ref aL) rfl Z.L.m rfl) (by rfl)) (pw_and (pt_cmpR (op_notInDT hu65) (pv 3) (pe_tup (pa_cons pe_non (pa_cons (pe_glob (v := .str "==SUPPRESS==") rfl hsup ⟨ts, rfl⟩) pa_nil))) (by rfl)) (pw_and1 (pt_not (pt_val (pe_callB call_isi (by rfl) T.isinstance (by decide +kernel) (pa_cons (pv 3) (pa_cons (pe_bltn (v := .ty "list") (by rfl) T.list (by decide +kernel) rfl) pa_nil))))))))) pss_never pss_nil)
      (pss_one (ps_if (PW.pt (pw_and (pt_cmp (pc_notN (pe_dget1 hu1 (pv 1) pe_str ⟨rfl, rfl, rfl, rfl⟩))) (pw_and1 (pt_not (pt_val (pe_callB call_isi (by rfl) T.isinstance (by decide +kernel) (pa_cons (pe_dget hu1 (pv 1) pe_str (fun _ _ => rfl)) (pa_cons (pe_bltn (v := .ty "str") (by rfl) Z.str (by decide +kernel) rfl) pa_nil)))))))) pss_never pss_nil))))))))), ?_⟩
    have hA := hK.am
    have m1 : ∀ s ∈ acts12, inV (.str s) (((wW ++ wC) ++ wO) ++ [.str "help", .str "version"]) = true := by decide +kernel
    have i1 : inV (.str z) wW = decide (z ∈ WWs) := inV_strs z WWs
    have i3 : inV (.str z) wL = decide (z ∈ LLs) := inV_strs z LLs
    refine ⟨_, rfl, _, .ty "str", _, _, true, rfl, .ty _, .base (.str z), kit_ty (by decide +kernel), _, rfl, iteF ?_⟩
    refine ⟨_, rfl, aW, aC, wW, wC, rfl, rfl, Z.W.q _, Z.C.q _, (fun z => nomatch z), (by show 3 + 2 ≤ sizeLine; decide), (fun z => nomatch z), fun _ p1 h1 => ⟨p1, aO, _, wO, rfl, rfl, SqT.of upd_same, Z.O.q _, (fun z => nomatch z), (by show 5 + 4 ≤ sizeLine; decide), (fun z => nomatch z), fun _ p2 h2 => ⟨(by show 2 ≤ sizeLine; decide), fun p3 h3 => ⟨p2, p3, _, _, rfl, rfl, SqT.of (same_upd h3 _ _ upd_same), SqT.of upd_same, (fun z => nomatch z), (by show 9 + 2 ≤ sizeLine; decide), (fun z => nomatch z), fun _ p4 h4 => ?_⟩⟩⟩⟩
    have e1 := same_upd2 (o := .tup (((wW ++ wC) ++ wO) ++ [.str "help", .str "version"])) (same_upd2 (o := .tup [.str "help", .str "version"]) (same_upd2 (o := .tup ((wW ++ wC) ++ wO)) (same_upd (o := .tup (wW ++ wC)) h1) h2) h3) h4
    refine ⟨p4, _, rfl, .inr (SqT.of upd_same), rfl, by decide +kernel, _, rfl, ?_⟩
    rw [if_pos rfl, m1 z hA]
    generalize upd (upd (upd (upd H p1 (.tup (wW ++ wC))) p2 (.tup ((wW ++ wC) ++ wO))) p3 (.tup [.str "help", .str "version"])) p4 (.tup (((wW ++ wC) ++ wO) ++ [.str "help", .str "version"])) = H1 at e1 ⊢
    refine iteF ?_
    refine ⟨fun σ' H' => σ' = [some (.str z), some (.ref o), some (.bl (!io)), none, none] ∧ H1 = H', ?_, ?_⟩
    · refine ⟨_, rfl, _, rfl, ?_⟩
      refine ite2 (fun hb => ?_) (fun _ => iteF ⟨rfl, rfl⟩)
      have hio : io = false := by
        cases io with
        | true => cases hb
        | false => rfl
      refine ⟨_, rfl, aW, wW, rfl, .inr (Z.W.q _), rfl, by decide +kernel, false, ?_, iteF ⟨rfl, rfl⟩⟩
      rw [if_pos rfl, i1, decide_eq_true (hK.ap hio)]
      rfl
    rintro _ _ ⟨rfl, rfl⟩
    -- the keys
    have hkl : kvs.length = ld.length := held_len hO.he
    have hkeys := held_keys hO.he
    have hnl := hK.n
    refine ⟨fun σ' H' => σ' = [some (.str z), some (.ref o), some (.bl (!io)), none, none] ∧ Same H H', ?_, ?_⟩
    · refine ⟨o, .dK kvs, e1 _ _ hO.at_, trivial, fun od => ?_⟩
      have fz : (upd H1 o (.frz od (.dK kvs))) o = some (.frz od (.dK kvs)) := upd_same
      have fr : ∀ b u, H b = some u → b ≠ o → (upd H1 o (.frz od (.dK kvs))) b = some u := fun b u e nb => by rw [upd_ne nb]; exact e1 _ _ e
      generalize upd H1 o (.frz od (.dK kvs)) = G at fz fr
      refine ⟨_, rfl, o, od, rfl, .inl ⟨_, fz, fun D hD => ?_⟩⟩
      refine lc_it walk_keys (BlI (fun _ => true) G D kvs) (blI0 hD) (fun i H' _ h => h.1 _ _ fz) (fun i v H' H'' hi h y => ?_) (fun H' h => ?_)
      · obtain ⟨rfl, kk, vv, hk, rfl⟩ := y
        obtain ⟨s0, hs0, rfl⟩ : ∃ s0 ∈ keysD ld, kk = Sum.inr s0 := by
          have : kk ∈ kvs.map (·.1) := List.mem_map.mpr ⟨_, List.mem_of_getElem? hk, rfl⟩
          rw [hkeys] at this
          obtain ⟨s0, h1, h2⟩ := List.mem_map.mp this
          exact ⟨s0, h1, h2.symm⟩
        refine ⟨rfl, _, rfl, _, rfl, z, rfl, hA, fun U H2 e2 hU => ?_⟩
        refine ⟨U, (keysS z).map V.str, rfl, .inr hU, rfl, flat_strs _, ?_⟩
        have : inV (kV (Sum.inr s0)) ((keysS z).map V.str) = true := by
          show inV (.str s0) _ = true
          rw [inV_strs]
          exact decide_eq_true (hK.ks s0 hs0)
        rw [if_neg Bool.false_ne_true, this]
        exact blI_step hD hk h e2 rfl (by omega)
      · obtain ⟨e2, hD2⟩ := blI_end rfl h
        refine ⟨e2 _ _ fz, ?_⟩
        have nDo : D ≠ o := (ne_of_none fz hD).symm
        have e3 : Same H (upd H' o (.dK kvs)) := fun b u e => by
          by_cases hb : b = o
          · subst hb
            rw [upd_same, ← e]
            exact hO.at_.symm
          · rw [upd_ne hb]
            exact e2 _ _ (fr _ _ e hb)
        refine ⟨D, _, rfl, SqL.of (by rw [upd_ne nDo]; exact hD2), ?_⟩
        rw [all_tt]
        exact ⟨_, rfl, iteF ⟨rfl, e3⟩⟩
    rintro _ H2 ⟨rfl, e2⟩
    have hO2 := hO.keep e2
    -- required
    refine ⟨fun σ' H' => σ' = [some (.str z), some (.ref o), some (.bl (!io)), none, none] ∧ H2 = H', ?_, ?_⟩
    · obtain ⟨ov, g1, g2⟩ := hO2.get "required"
      refine ⟨_, rfl, o, _, rfl, g1, _, rfl, ?_⟩
      rcases g2 with ⟨q1, rfl⟩ | ⟨d, v, q1, rfl, q3⟩
      · exact iteF (iteF ⟨rfl, rfl⟩)
      · obtain ⟨rfl, b, rfl⟩ := hK.rq d q1
        cases q3
        exact iteT ⟨_, rfl, false, rfl, iteF ⟨_, rfl, o, _, rfl, g1, _, .ty "bool", _, _, true, rfl, .ty _, .base (.bl b), kit_ty (by decide +kernel), _, rfl, iteF ⟨rfl, rfl⟩⟩⟩
    rintro _ _ ⟨rfl, rfl⟩
    -- version
    refine ⟨fun σ' H' => σ' = [some (.str z), some (.ref o), some (.bl (!io)), none, none] ∧ H2 = H', ?_, ?_⟩
    · refine ⟨_, rfl, rfl, _, rfl, ?_⟩
      refine ite2 (fun hc => ?_) (fun hc => iteF ⟨rfl, rfl⟩)
      obtain ⟨y, hy⟩ := hK.ve (V.str.inj (of_decide_eq_true hc))
      obtain ⟨ov, g1, g2⟩ := hO2.getN "version"
      unfold gD at g2
      rw [hy] at g2
      have g3 : Dt H2 (ov.getD .non) (.str y) := g2
      have : ov.getD .non = .str y := by
        generalize ov.getD .non = v at g3
        cases g3
        rfl
      refine ⟨_, rfl, o, rfl, hO2.iD, ov, g1, _, .ty "str", _, _, true, rfl, .ty _, (by rw [this]; exact .base (.str y) : TyX K H2 (ov.getD .non) (.type "str")), kit_ty (by decide +kernel), _, rfl, iteF ⟨rfl, rfl⟩⟩
    rintro _ _ ⟨rfl, rfl⟩
    -- words
    refine ⟨fun σ' H' => σ' = [some (.str z), some (.ref o), some (.bl (!io)), none, none] ∧ Same H H', ?_, ?_⟩
    · refine ⟨_, rfl, aW, wW, rfl, .inr (Z.W.q _), rfl, by decide +kernel, _, rfl, ?_⟩
      rw [if_neg Bool.false_ne_true, i1]
      refine ite2 (fun hc => ?_) (fun _ => ⟨rfl, e2⟩)
      exact ⟨_, rfl, _, rfl, o, z, io, kvs, ld, rfl, hO2, hK, of_decide_eq_true hc, fun H' e => ⟨rfl, e2.trans e⟩⟩
    rintro _ H3 ⟨rfl, e3⟩
    have hO3 := hO.keep e3
    obtain ⟨ov, g1, g2⟩ := hO3.getN "default"
    have hdf := hK.get "default"
    refine ⟨fun σ' H' => σ' = [some (.str z), some (.ref o), some (.bl (!io)), some (ov.getD .non), none] ∧ H3 = H', ⟨_, rfl, o, rfl, hO3.iD, ov, g1, rfl, rfl⟩, ?_⟩
    rintro _ _ ⟨rfl, rfl⟩
    generalize ov.getD .non = dv at g2
    refine ⟨fun σ' H' => σ' = [some (.str z), some (.ref o), some (.bl (!io)), some dv, none] ∧ Same H H', ?_, ?_⟩
    · refine ⟨_, rfl, aL, wL, rfl, .inr (Z.L.q _), rfl, by decide +kernel, _, rfl, ?_⟩
      rw [if_neg Bool.false_ne_true, i3]
      refine ite2 (fun hc => ?_) (fun _ => iteF ⟨rfl, e3⟩)
      have hde := hK.de (of_decide_eq_true hc)
      refine ⟨_, rfl, (by show 2 ≤ sizeLine; decide), fun p hp => ?_⟩
      have e4 := same_upd (o := .tup [.non, .str "==SUPPRESS=="]) hp
      have g4 := Dt.mono e4 _ _ g2
      have hp4 : (upd H3 p (.tup [.non, .str "==SUPPRESS=="])) p = some (.tup [.non, .str "==SUPPRESS=="]) := upd_same
      generalize upd H3 p (.tup [.non, .str "==SUPPRESS=="]) = H4 at e4 g4 hp4
      refine ⟨gD ld "default", [.none, .str SUP], Dt.dp _ _ g4, .tup (SqT.of hp4) (.cons .non (.cons (.str _) .nil)), hdf.2.2, by decide +kernel, _, rfl, ?_⟩
      rw [if_pos rfl]
      rcases hde with q | q | ⟨l, q⟩
      · rw [q]
        exact iteF (iteF ⟨rfl, e3.trans e4⟩)
      · rw [q]
        have : ([PyData.none, .str SUP].any fun z => PyData.eqv z (.str SUP)) = true := by decide +kernel
        rw [this]
        exact iteF (iteF ⟨rfl, e3.trans e4⟩)
      · rw [q] at g4 ⊢
        have : ([PyData.none, .str SUP].any fun z => PyData.eqv z (.list l)) = false := rfl
        rw [this]
        cases g4 with
        | lst h1 h2 => exact iteT ⟨_, rfl, _, .ty "list", _, _, true, rfl, .ty _, .base (.lst h1), kit_ty (by decide +kernel), _, rfl, iteF ⟨rfl, e3.trans e4⟩⟩
    rintro _ H4 ⟨rfl, e4⟩
    have hO4 := hO.keep e4
    obtain ⟨oh, g3, g4⟩ := hO4.getN "help"
    obtain ⟨oh', g5, g6⟩ := hO4.get "help"
    have hoh : ∀ v, oh = some v → DGet H4 o (.str "help") (some v) := fun v e => by rw [← e]; exact g3
    refine ⟨_, rfl, o, rfl, hO4.iD, oh, g3, ?_⟩
    rcases hK.he with q | ⟨y, q⟩
    · rw [q] at g4
      have : oh.getD .non = .non := by
        generalize oh.getD .non = v at g4
        cases g4
        rfl
      rw [this]
      exact ⟨false, rfl, iteF (iteF (k _ e4))⟩
    · rw [q] at g4
      have h1 : oh.getD .non = .str y := by
        generalize oh.getD .non = v at g4
        cases g4
        rfl
      have h2 : oh = some (.str y) := by
        cases oh with
        | none => cases h1
        | some v => exact congrArg some h1
      rw [h1]
      exact ⟨true, rfl, iteT ⟨_, rfl, o, _, rfl, hoh _ h2, _, .ty "str", _, _, true, rfl, .ty _, .base (.str y), kit_ty (by decide +kernel), _, rfl, iteF (k _ e4)⟩⟩
abbrev nDflt : List Str := ["action", "dest", "options", "defaults", "argument_default"]
theorem scDflt : FnScope nDflt nDflt (defScope sDflt) := ⟨rfl, rfl, rfl, by decide +kernel, rfl, by decide +kernel, by decide +kernel⟩
theorem ok_dflt {f fCp aW aC aO aN aL aA : Addr} {fd fdCp : FuncData} (F : Fun K "default_of" "default_of" sDflt f fd) (Z : TxtK K mg aW aC aO aN aL aA) (Cp : At P w K mg base "copied" 4 ["value"] (spCop 3) fCp fdCp) : FnOk P w K mg base CX0 5 f fd nDflt spDflt := by
  refine F.ok scDflt (fun vs H Q E h => ?_) (fun cdv A outer s H vs Q E hr h => ?_)
  · obtain ⟨z, d, o, dd, io, kvs, ld, rfl, _⟩ := h
    rfl
  · obtain ⟨z, d, o, dd, io, kvs, ld, rfl, hO, hK, hD, k⟩ := h
    have hu1 := hu_of hr
    obtain ⟨ts, hsup⟩ := Z.sup
    refine ⟨_, pss_cons (ps_if (pt_cmp (pc_din hu1 pe_str (pv 2))) (pss_one (ps_ret (pe_call Cp.ok hr rfl Cp.m Cp.k Cp.b .nil pass0 (pa_cons (pe_dget hu1 (pv 2) pe_str (fun _ _ => rfl)) pa_nil)))) pss_nil)
      (pss_cons (ps_if (pt_cmpR op_in_seq (pv 0) (pe_tup (pa_cons pe_str (pa_cons pe_str pa_nil))) (by rfl)) (pss_one (ps_ret (pe_glob (v := .str "==SUPPRESS==") rfl hsup ⟨ts, rfl⟩))) pss_nil)
      (pss_cons (ps_if (pt_cmp (pc_din hu1 (pv 1) (pv 3))) pss_never pss_nil)
      (pss_cons (ps_if (pt_cmp (pc_notN (pv 4))) pss_never pss_nil)
      (pss_one (ps_ret (pe_ifExp (pt_cmpR op_in_seq (pv 0) (pe_tup (pa_cons pe_str (pa_cons pe_str pa_nil))) (by rfl)) (pe_cmpR op_eq (pv 0) pe_str (nomark _)) pe_non)))))), ?_⟩
    obtain ⟨ov, g1, g2⟩ := hO.get "default"
    have hdf := hK.get "default"
    refine ⟨_, rfl, o, _, rfl, g1, _, rfl, ?_⟩
    rcases g2 with ⟨q1, rfl⟩ | ⟨dv, v, q1, rfl, q3⟩
    rotate_left
    · have e : gD ld "default" = dv := by
        unfold gD
        rw [q1]
        rfl
      rw [e] at hdf
      refine iteT ⟨_, rfl, o, _, rfl, g1, v, dv, rfl, q3, by have := hdf.1; omega, hdf.2.1, fun v' N H' e' F t => k v' N H' e' F ?_⟩
      unfold deD
      rw [q1]
      exact t
    refine iteF ⟨_, rfl, (by show 2 ≤ sizeLine; decide), fun p hp => ?_⟩
    have e1 := same_upd (o := .tup [.str "help", .str "version"]) hp
    have hp1 : (upd H p (.tup [.str "help", .str "version"])) p = some (.tup ((["help", "version"] : List Str).map V.str)) := upd_same
    generalize upd H p (.tup [.str "help", .str "version"]) = H1 at e1 hp1
    refine ⟨p, _, rfl, .inr (SqT.of hp1), rfl, flat_strs _, _, rfl, ?_⟩
    rw [if_neg Bool.false_ne_true, inV_strs]
    refine ite2 (fun hc => ?_) (fun hc => ?_)
    · have hc' : z = "help" ∨ z = "version" := by
        have := of_decide_eq_true hc
        simpa using this
      refine k _ emp H1 e1 fresh_emp ?_
      unfold deD
      rw [q1]
      show Dt emp _ (if z = "help" ∨ z = "version" then .str SUP else _)
      rw [if_pos hc']
      exact .str _
    have hc' : ¬ (z = "help" ∨ z = "version") := fun q => hc (decide_eq_true (by simpa using q))
    refine ⟨_, rfl, _, rfl, dd, _, rfl, DGet.k (k := (Sum.inr d : Key)) (e1 _ _ hD), _, rfl, iteF ?_⟩
    refine ⟨_, rfl, false, rfl, iteF ?_⟩
    refine ⟨_, rfl, (by show 2 ≤ sizeLine; decide), fun q hq => ?_⟩
    have e2 := same_upd (o := .tup [.str "store_true", .str "store_false"]) hq
    have hq1 : (upd H1 q (.tup [.str "store_true", .str "store_false"])) q = some (.tup ((["store_true", "store_false"] : List Str).map V.str)) := upd_same
    generalize upd H1 q (.tup [.str "store_true", .str "store_false"]) = H2 at e2 hq1
    refine ⟨q, _, rfl, .inr (SqT.of hq1), rfl, flat_strs _, _, rfl, ?_⟩
    rw [if_neg Bool.false_ne_true, inV_strs]
    have ee : deD z ld = if z = "store_true" ∨ z = "store_false" then .bool (decide (z = "store_false")) else .none := by
      unfold deD
      rw [q1]
      show (if z = "help" ∨ z = "version" then PyData.str SUP else _) = _
      rw [if_neg hc']
    refine ite2 (fun h => ?_) (fun h => ?_)
    · have h' : z = "store_true" ∨ z = "store_false" := by
        have := of_decide_eq_true h
        simpa using this
      refine ⟨_, rfl, rfl, k _ emp H2 (e1.trans e2) fresh_emp ?_⟩
      rw [ee, if_pos h']
      have : decide (V.str z = V.str "store_false") = decide (z = "store_false") := decide_eq_decide.mpr ⟨fun x => V.str.inj x, fun x => congrArg V.str x⟩
      rw [this]
      exact .bl _
    · have h' : ¬ (z = "store_true" ∨ z = "store_false") := fun q => h (decide_eq_true (by simpa using q))
      refine k _ emp H2 (e1.trans e2) fresh_emp ?_
      rw [ee, if_neg h']
      exact .non
end
end K67

namespace K67
open PySem L2 PyProof.Rows
/-! ### an argument made -/
def flt (N : Hp) : Hp := fun b => match N b with
  | some (.lst xs) => some (.lst xs)
  | some (.tup xs) => some (.tup xs)
  | _ => none
theorem flt_sub (N : Hp) : Same (flt N) N := fun b o h => by
  unfold flt at h
  cases e : N b with
  | none =>
    rw [e] at h
    cases h
  | some u =>
    rw [e] at h
    cases u <;> first | exact h | cases h
theorem flt_is {N : Hp} {b : Addr} {o : HO} (h : flt N b = some o) : (∃ xs, o = .lst xs) ∨ ∃ xs, o = .tup xs := by
  unfold flt at h
  cases e : N b with
  | none =>
    rw [e] at h
    cases h
  | some u =>
    rw [e] at h
    cases u <;> first | (cases h; exact .inl ⟨_, rfl⟩) | (cases h; exact .inr ⟨_, rfl⟩) | cases h
mutual
theorem Dt.flt {N : Hp} : ∀ (d : PyData) (v : V), Dt N v d → Dt (flt N) v d
  | .none, _, h => by cases h; exact .non
  | .bool b, _, h => by cases h; exact .bl b
  | .int i, _, h => by cases h; exact .int i
  | .str x, _, h => by cases h; exact .str x
  | .list ds, _, h => by
    cases h with
    | lst ha hs =>
      refine .lst ?_ (DtAll.flt ds _ hs)
      unfold K67.flt
      rw [ha]
  | .tuple ds, _, h => by
    cases h with
    | tup ha hs =>
      refine .tup ?_ (DtAll.flt ds _ hs)
      unfold K67.flt
      rw [ha]
  | .dict _, _, h => by cases h
theorem DtAll.flt {N : Hp} : ∀ (ds : List PyData) (vs : List V), DtAll N vs ds → DtAll (flt N) vs ds
  | [], _, h => by cases h; exact .nil
  | d :: ds, _, h => by
    cases h with
    | cons a b => exact .cons (Dt.flt d _ a) (DtAll.flt ds _ b)
end
def argF : List Str := ["flags", "dest", "action", "is_option", "nargs", "const", "default", "kind", "choices", "required", "help", "metavar", "version", "commands", "fellows"]
/-- an argument's fields -/
def aFs (fl d s io nn co de ki ch re he me ve cm fe : V) : List (Str × V) := [("flags", fl), ("dest", d), ("action", s), ("is_option", io), ("nargs", nn), ("const", co), ("default", de), ("kind", ki), ("choices", ch), ("required", re), ("help", he), ("metavar", me), ("version", ve), ("commands", cm), ("fellows", fe)]
def spArgI (C : Addr) : Sp := fun vs H Q _ => ∃ (x dx T : Addr) (fl : List Str) (d s : Str), vs = [.ref x, .ref T, .str d, .str s] ∧ H x = some (.ins C dx []) ∧ H T = some (.tup (fl.map V.str)) ∧ (∀ x ∈ fl, PyData.strOk x = true) ∧
  ∀ H', (∀ b o, H b = some o → b ≠ x → H' b = some o) → H' x = some (.ins C dx (aFs (.ref T) (.str d) (.str s) (.bl (!fl.isEmpty)) .non .non .non .non .non (.bl false) .non .non .non .non (.bl false))) → Q .non H'

section
variable {P : Program} {w : World} {K : PySem.W.Frag} {mg : Str → Option Value} {base : Heap}
theorem scArgI : FnScope ["self", "flags", "dest", "action"] ["self", "flags", "dest", "action"] (defScope sArgI) := ⟨rfl, rfl, rfl, by decide +kernel, rfl, by decide +kernel, by decide +kernel⟩
theorem ok_argI {f C : Addr} {fd : FuncData} (F : Fun K "__init__" "Argument.__init__" sArgI f fd) (c : ClsN K C argF) : FnOk P w K mg base CX0 1 f fd ["self", "flags", "dest", "action"] (spArgI C) := by
  refine F.ok scArgI (fun vs H Q E h => ?_) (fun cdv A outer s H vs Q E hr h => ?_)
  · obtain ⟨x, dx, T, fl, d, z, rfl, _⟩ := h
    rfl
  · obtain ⟨x, dx, T, fl, d, z, rfl, hx, hT, fA, k⟩ := h
    have hu : (A.deeper (PyProof.Rows.envOfC "Argument.__init__" (defScope sArgI) s.heap.objs.size f cdv)).units + 64 < cLine := hr.units
    refine ⟨_, pss_cons (ps_fld (pv 0) (pv 1) rfl) (pss_cons (ps_fld (pv 0) (pv 2) rfl) (pss_cons (ps_fld (pv 0) (pv 3) rfl) (pss_mid (ps_fld (pv 0) (pe_cmpR (op_neD hu) (pv 1) (pe_tup pa_nil) (nomark _)) rfl) (pss_cons (ps_fld (pv 0) pe_non rfl) (pss_cons (ps_fld (pv 0) pe_non rfl) (pss_cons (ps_fld (pv 0) pe_non rfl) (pss_cons (ps_fld (pv 0) pe_non rfl) (pss_cons (ps_fld (pv 0) pe_non rfl) (pss_cons (ps_fld (pv 0) pe_bl rfl) (pss_cons (ps_fld (pv 0) pe_non rfl) (pss_cons (ps_fld (pv 0) pe_non rfl) (pss_cons (ps_fld (pv 0) pe_non rfl) (pss_cons (ps_fld (pv 0) pe_non rfl) (pss_one (ps_fld (pv 0) pe_bl rfl))))))))))))))), ?_⟩
    have m : ∀ f ∈ argF, NoAttr K C f := c.no
    have nTx : T ≠ x := ne_of hT hx (by intro z; cases z)
    refine ⟨_, rfl, _, rfl, x, C, dx, _, rfl, hx, c.cl, m _ (by decide +kernel), (by show 0 < 1000; decide), ?_⟩
    refine ⟨_, rfl, _, rfl, x, C, dx, _, rfl, upd_same, c.cl, m _ (by decide +kernel), (by show 1 < 1000; decide), ?_⟩
    refine ⟨_, rfl, _, rfl, x, C, dx, _, rfl, upd_same, c.cl, m _ (by decide +kernel), (by show 2 < 1000; decide), ?_⟩
    refine ⟨fun σ' H' => σ' = [some (.ref x), some (.ref T), some (.str d), some (.str z)] ∧ (∀ b o, H b = some o → b ≠ x → H' b = some o) ∧ H' x = some (.ins C dx [("flags", .ref T), ("dest", .str d), ("action", .str z), ("is_option", .bl (!fl.isEmpty))]), ?_, ?_⟩
    · refine ⟨_, rfl, (by show 0 ≤ sizeLine; decide), fun p hp => ?_⟩
      have e1 := same_upd (o := .tup []) hp
      refine ⟨.tuple (fl.map PyData.str), .tuple [], .tup (SqT.of (e1 _ _ (by rw [upd_ne nTx, upd_ne nTx, upd_ne nTx]; exact hT))) (dpAll_strs fl), .tup (SqT.of upd_same) .nil, strs_shaped fA, by decide, ?_⟩
      refine ⟨_, rfl, x, C, dx, _, rfl, e1 _ _ upd_same, c.cl, m _ (by decide +kernel), (by show 3 < 1000; decide), rfl, fun b o e nb => ?_, ?_⟩
      · rw [upd_ne nb]
        refine e1 _ _ ?_
        rw [upd_ne nb, upd_ne nb, upd_ne nb]
        exact e
      · have hb : (!PyData.eqv (.tuple (fl.map PyData.str)) (.tuple [])) = !fl.isEmpty := by
          cases fl with
          | nil => rfl
          | cons y ys => rfl
        rw [upd_same, hb]
        rfl
    rintro _ G ⟨rfl, kp, g⟩
    refine ⟨_, rfl, x, C, dx, _, rfl, g, c.cl, m _ (by decide +kernel), (by show 4 < 1000; decide), ?_⟩
    refine ⟨_, rfl, x, C, dx, _, rfl, upd_same, c.cl, m _ (by decide +kernel), (by show 5 < 1000; decide), ?_⟩
    refine ⟨_, rfl, x, C, dx, _, rfl, upd_same, c.cl, m _ (by decide +kernel), (by show 6 < 1000; decide), ?_⟩
    refine ⟨_, rfl, x, C, dx, _, rfl, upd_same, c.cl, m _ (by decide +kernel), (by show 7 < 1000; decide), ?_⟩
    refine ⟨_, rfl, x, C, dx, _, rfl, upd_same, c.cl, m _ (by decide +kernel), (by show 8 < 1000; decide), ?_⟩
    refine ⟨_, rfl, x, C, dx, _, rfl, upd_same, c.cl, m _ (by decide +kernel), (by show 9 < 1000; decide), ?_⟩
    refine ⟨_, rfl, x, C, dx, _, rfl, upd_same, c.cl, m _ (by decide +kernel), (by show 10 < 1000; decide), ?_⟩
    refine ⟨_, rfl, x, C, dx, _, rfl, upd_same, c.cl, m _ (by decide +kernel), (by show 11 < 1000; decide), ?_⟩
    refine ⟨_, rfl, x, C, dx, _, rfl, upd_same, c.cl, m _ (by decide +kernel), (by show 12 < 1000; decide), ?_⟩
    refine ⟨_, rfl, x, C, dx, _, rfl, upd_same, c.cl, m _ (by decide +kernel), (by show 13 < 1000; decide), ?_⟩
    refine ⟨_, rfl, x, C, dx, _, rfl, upd_same, c.cl, m _ (by decide +kernel), (by show 14 < 1000; decide), ?_⟩
    refine k _ (fun b o e nb => ?_) ?_
    · iterate 11 rw [upd_ne nb]
      exact kp _ _ e nb
    · rw [upd_same]
      rfl
end
end K67

namespace K67
open PySem L2 PyProof.Rows
/-! ### made_argument -/
def parF : List Str := ["prog", "usage", "description", "epilog", "layout", "width", "prefix_chars", "file_signs", "files", "argument_default", "conflict_handler", "allow_abbrev", "exit_on_error", "arguments", "flags", "exclusives", "defaults", "commands_argument", "sections"]
/-- what made_argument reads of the parser -/
structure PaAt (CP : Addr) (H : Hp) (p dd : Addr) (pf : Str) : Prop where
  ex : ∃ dx fs, H p = some (.ins CP dx fs) ∧ fs.lookup ("prefix_chars" : Str) = some (V.str pf) ∧ fs.lookup ("defaults" : Str) = some (V.ref dd) ∧ fs.lookup ("argument_default" : Str) = some V.non
  d : H dd = some (.dK [])
theorem PaAt.keep {CP : Addr} {H H' : Hp} {p dd : Addr} {pf : Str} (h : PaAt CP H p dd pf) (e : Same H H') : PaAt CP H' p dd pf := by
  obtain ⟨dx, fs, h1, h2⟩ := h.ex
  exact ⟨⟨dx, fs, e _ _ h1, h2⟩, e _ _ h.d⟩
/-- data whose lists and tuples are new beside H -/
def DtR (H H' : Hp) (v : V) (d : PyData) : Prop := ∃ N, Dt N v d ∧ Same N H' ∧ (∀ b o, N b = some o → H b = none) ∧ ∀ b C dx fs, N b ≠ some (.ins C dx fs)
theorem DtR.of {H Hi H' N : Hp} {v : V} {d : PyData} (e : Same H Hi) (F : Fresh Hi H' N) (h : Dt N v d) : DtR H H' v d :=
  ⟨flt N, Dt.flt _ _ h, (flt_sub N).trans F.sub, fun b o q => Same.free e (F.new b o (flt_sub N _ _ q)), fun b C dx fs q => by rcases flt_is q with ⟨xs, z⟩ | ⟨xs, z⟩ <;> cases z⟩
theorem DtR.keep {H H' H2 : Hp} {v : V} {d : PyData} (h : DtR H H' v d) (e : Same H' H2) : DtR H H2 v d := by
  obtain ⟨N, h1, h2, h3, h4⟩ := h
  exact ⟨N, h1, h2.trans e, h3, h4⟩
theorem DtR.kp {H H' H2 : Hp} {v : V} {d : PyData} {A C dx : Addr} {fs : List (Str × V)} (h : DtR H H' v d) (hA : H' A = some (.ins C dx fs)) (e : ∀ b o, H' b = some o → b ≠ A → H2 b = some o) : DtR H H2 v d := by
  obtain ⟨N, h1, h2, h3, h4⟩ := h
  exact ⟨N, h1, fun b o q => e b o (h2 b o q) fun z => by
    subst z
    have := h2 _ _ q
    rw [hA] at this
    exact h4 b C dx fs (by rw [q, ← this]), h3, h4⟩
theorem DtR.dt {H H' : Hp} {v : V} {d : PyData} (h : DtR H H' v d) : Dt H' v d := by
  obtain ⟨N, h1, h2, _⟩ := h
  exact Dt.mono h2 _ _ h1
theorem dt_emp {H : Hp} {v : V} {d : PyData} (h : Dt H v d) (hd : d = .none ∨ (∃ b, d = .bool b) ∨ (∃ i, d = .int i) ∨ ∃ x, d = .str x) : Dt emp v d := by
  rcases hd with rfl | ⟨b, rfl⟩ | ⟨b, rfl⟩ | ⟨b, rfl⟩ <;> cases h
  · exact .non
  · exact .bl b
  · exact .int b
  · exact .str b
theorem dt_flat {v : V} {d : PyData} (h : Dt emp v d) : flatV v = true := by
  cases h with
  | lst h1 _ => cases h1
  | tup h1 _ => cases h1
  | _ => rfl
/-- an argument in the making: its fields are af -/
structure Msd (H H' : Hp) (CA A dx U : Addr) (fl : List Str) (af : List (Str × V)) : Prop where
  same : Same H H'
  tt : H' U = some (.tup (fl.map V.str))
  ex : H' A = some (.ins CA dx af)
theorem Msd.keep {H H' H2 : Hp} {CA A dx T : Addr} {fl : List Str} {af : List (Str × V)} (m : Msd H H' CA A dx T fl af) (e : Same H' H2) : Msd H H2 CA A dx T fl af := ⟨m.same.trans e, e _ _ m.tt, e _ _ m.ex⟩
def putS : List Str := ["fellows", "nargs", "const", "default", "kind", "choices", "required", "help", "version", "metavar"]
theorem Msd.put {K : PySem.W.Frag} {Y : Hp → Prop} {H H' : Hp} {CA A dx T : Addr} {fl : List Str} {af : List (Str × V)} {f : Str} {v : V} (m : Msd H H' CA A dx T fl af) (c : ClsN K CA argF) (nA : H A = none) (hf : f ∈ putS) (k : ∀ H2, Msd H H2 CA A dx T fl (putF f v af) → (∀ b o, H' b = some o → b ≠ A → H2 b = some o) → Y H2) (hl : af.length < 1000 := by (show 15 < 1000; decide)) :
    ∃ a C dx fs, V.ref A = .ref a ∧ H' a = some (.ins C dx fs) ∧ Cls K C ∧ NoAttr K C f ∧ fs.length < 1000 ∧ Y (upd H' a (.ins C dx (putF f v fs))) := by
  have h := m.ex
  refine ⟨A, CA, dx, _, rfl, h, c.cl, c.no _ ?_, hl, k _ ⟨same_mut m.same nA, ?_, upd_same⟩ fun b o e nb => by rw [upd_ne nb]; exact e⟩
  · exact (by decide +kernel : ∀ f ∈ putS, f ∈ argF) f hf
  · rw [upd_ne (ne_of m.tt h (by intro z; cases z))]
    exact m.tt
theorem Msd.putG {K : PySem.W.Frag} {Q : L2.St → Hp → Prop} {σ : L2.St} {H H' : Hp} {CA A dx T : Addr} {fl : List Str} {af : List (Str × V)} {f : Str} {v : V} (m : Msd H H' CA A dx T fl af) (c : ClsN K CA argF) (nA : H A = none) (hf : f ∈ putS) (h9 : σ[9]? = some (some (.ref A))) (k : ∀ H2, Msd H H2 CA A dx T fl (putF f v af) → (∀ b o, H' b = some o → b ≠ A → H2 b = some o) → Q σ H2) (hl : af.length < 1000 := by (show 15 < 1000; decide)) :
    gFld K (tVar 9) f v σ H' Q := ⟨_, h9, m.put (Y := fun H2 => Q σ H2) c nA hf k hl⟩
/-! what the fields are -/
def dedup (fl : List Str) : List Str := fl.foldl (fun f x => f ++ [x].filter fun y => decide (y ∉ f)) []
def flD (pf : Str) (gs : List Str) (io : Bool) (act : Str) : List Str := if act = "yes_no" then fellows pf (flOf gs io) else dedup (flOf gs io)
def nnD (act : Str) (ld : DD) : PyData := if act ∈ WWs then gD ld "nargs" else .int 0
def coD (act : Str) (ld : DD) : PyData := if act = "store_true" ∨ act = "store_false" then .bool (decide (act = "store_true")) else gD ld "const"
def needD : PyData → Bool
  | .str x => !(decide (x = "?" ∨ x = "*" ∨ x = "..."))
  | _ => true
def reD (io : Bool) (act : Str) (ld : DD) : PyData := if io then (lookD ld "required").getD (.bool false) else .bool (needD (nnD act ld))
def heD (act : Str) (ld : DD) : PyData := match gD ld "help" with
  | .none => if act = "version" then .str VH else .none
  | d => d
def meD (ld : DD) : PyData := match gD ld "metavar" with
  | .list l => .tuple l
  | d => d
structure AV where
  (nn co de ki ch re he me ve fe : V)
def AV.fs (U : Addr) (r act : Str) (b : Bool) (v : AV) : List (Str × V) := aFs (.ref U) (.str r) (.str act) (.bl b) v.nn v.co v.de v.ki v.ch v.re v.he v.me v.ve .non v.fe
structure AG (H H' : Hp) (io : Bool) (act : Str) (ld : DD) (hd : PyData) (v : AV) (n : Nat) : Prop where
  nn : 1 ≤ n → Dt emp v.nn (nnD act ld)
  co : 2 ≤ n → DtR H H' v.co (coD act ld)
  de : 3 ≤ n → DtR H H' v.de (deD act ld)
  ki : 4 ≤ n → DtR H H' v.ki (gD ld "kind")
  ch : 4 ≤ n → DtR H H' v.ch (gD ld "choices")
  re : 5 ≤ n → Dt emp v.re (reD io act ld)
  he : 6 ≤ n → Dt emp v.he hd
  ve : 6 ≤ n → Dt emp v.ve (gD ld "version")
theorem AG.keep {H H' H2 : Hp} {io : Bool} {act : Str} {ld : DD} {hd : PyData} {v : AV} {n : Nat} (h : AG H H' io act ld hd v n) (e : Same H' H2) : AG H H2 io act ld hd v n :=
  ⟨h.nn, fun q => (h.co q).keep e, fun q => (h.de q).keep e, fun q => (h.ki q).keep e, fun q => (h.ch q).keep e, h.re, h.he, h.ve⟩
theorem AG.kp {H H' H2 : Hp} {io : Bool} {act : Str} {ld : DD} {hd : PyData} {v : AV} {n : Nat} {A C dx : Addr} {fs : List (Str × V)} (h : AG H H' io act ld hd v n) (hA : H' A = some (.ins C dx fs)) (e : ∀ b o, H' b = some o → b ≠ A → H2 b = some o) : AG H H2 io act ld hd v n :=
  ⟨h.nn, fun q => (h.co q).kp hA e, fun q => (h.de q).kp hA e, fun q => (h.ki q).kp hA e, fun q => (h.ch q).kp hA e, h.re, h.he, h.ve⟩
/-- a metavar as it is kept -/
def MeAt (H : Hp) (v : V) (d : PyData) : Prop := Dt emp v d ∨ ∃ (a : Addr) (l : List Str), v = .ref a ∧ d = .tuple (l.map PyData.str) ∧ H a = some (.tup (l.map V.str))
/-- an argument that is made -/
structure MadeA (CA : Addr) (H H' : Hp) (A : Addr) (pf : Str) (gs : List Str) (io : Bool) (act : Str) (ld : DD) : Prop where
  same : Same H H'
  nA : H A = none
  ex : ∃ (dx U : Addr) (v : AV), H U = none ∧ Msd H H' CA A dx U (flD pf gs io act) (v.fs U (destOf pf gs io ld) act io) ∧ AG H H' io act ld (heD act ld) v 6 ∧ MeAt H' v.me (meD ld)
theorem dedup_mem : ∀ {fl : List Str} {x : Str}, x ∈ dedup fl ↔ x ∈ fl := by
  have key : ∀ (fl f : List Str) (x : Str), x ∈ fl.foldl (fun f x => f ++ [x].filter fun y => decide (y ∉ f)) f ↔ x ∈ f ∨ x ∈ fl := by
    intro fl
    induction fl with
    | nil => intro f x; simp
    | cons y fl ih =>
      intro f x
      rw [List.foldl_cons, ih, List.mem_append, List.mem_cons]
      by_cases h : y ∈ f
      · simp [h]
        constructor
        · rintro (h1 | h1)
          · exact .inl h1
          · exact .inr (.inr h1)
        · rintro (h1 | rfl | h1)
          · exact .inl h1
          · exact .inl h
          · exact .inr h1
      · simp [h]
        constructor
        · rintro ((h1 | h1) | h1)
          · exact .inl h1
          · exact .inr (.inl h1)
          · exact .inr (.inr h1)
        · rintro (h1 | h1 | h1)
          · exact .inl (.inl h1)
          · exact .inl (.inr h1)
          · exact .inr h1
  intro fl x
  unfold dedup
  rw [key]
  simp
theorem dedup_more {fl : List Str} {i : Nat} {x : Str} (h : fl[i]? = some x) : dedup (fl.take (i + 1)) = dedup (fl.take i) ++ (if decide (x ∉ fl.take i) = true then [x] else []) := by
  have e : dedup (fl.take (i + 1)) = dedup (fl.take i) ++ [x].filter fun y => decide (y ∉ dedup (fl.take i)) := by
    unfold dedup
    rw [take_more' h, List.foldl_append]
    rfl
  rw [e]
  congr 1
  have : decide (x ∉ dedup (fl.take i)) = decide (x ∉ fl.take i) := decide_eq_decide.mpr (not_congr dedup_mem)
  rw [List.filter_cons, this]
  rfl
theorem dedup_len (fl : List Str) : (dedup fl).length ≤ fl.length := by
  have key : ∀ (fl f : List Str), (fl.foldl (fun f x => f ++ [x].filter fun y => decide (y ∉ f)) f).length ≤ f.length + fl.length := by
    intro fl
    induction fl with
    | nil => intro f; exact Nat.le_refl _
    | cons y fl ih =>
      intro f
      have h1 := ih (f ++ [y].filter fun z => decide (z ∉ f))
      have h2 := List.length_filter_le (fun z => decide (z ∉ f)) [y]
      rw [List.length_append] at h1
      rw [List.foldl_cons, List.length_cons]
      have h3 : ([y] : List Str).length = 1 := rfl
      omega
  have := key fl []
  unfold dedup
  simpa using this
theorem fellows_mem {pf : Str} : ∀ {fl : List Str} {y : Str}, y ∈ fellows pf fl → ∃ x ∈ fl, y = x ∨ y = noF x := by
  have key : ∀ (fl f : List Str) (y : Str), y ∈ fl.foldl (felStep pf) f → y ∈ f ∨ ∃ x ∈ fl, y = x ∨ y = noF x := by
    intro fl
    induction fl with
    | nil => intro f y h; exact .inl h
    | cons z fl ih =>
      intro f y h
      rw [List.foldl_cons] at h
      rcases ih _ _ h with h | ⟨x, hx, h⟩
      · unfold felStep at h
        rcases List.mem_append.mp h with h | h
        · exact .inl h
        · have := (List.mem_filter.mp h).1
          unfold fel1 at this
          split at this
          · rcases List.mem_cons.mp this with rfl | this
            · exact .inr ⟨_, List.mem_cons_self, .inl rfl⟩
            · exact .inr ⟨z, List.mem_cons_self, .inr (List.mem_singleton.mp this)⟩
          · exact .inr ⟨z, List.mem_cons_self, .inl (List.mem_singleton.mp this)⟩
      · exact .inr ⟨x, List.mem_cons_of_mem _ hx, h⟩
  intro fl y h
  rcases key fl [] y h with h | h
  · exact nomatch h
  · exact h
theorem fellows_head {pf : Str} {x : Str} {fl : List Str} : fellows pf (x :: fl) ≠ [] := by
  have key : ∀ (fl f : List Str), f ≠ [] → fl.foldl (felStep pf) f ≠ [] := by
    intro fl
    induction fl with
    | nil => intro f h; exact h
    | cons z fl ih =>
      intro f h
      rw [List.foldl_cons]
      refine ih _ ?_
      unfold felStep
      exact fun q => h (List.append_eq_nil_iff.mp q).1
  refine key fl (felStep pf [] x) ?_
  unfold felStep fel1
  split <;> simp
theorem flD_ne {pf : Str} {gs : List Str} {io : Bool} {act : Str} (h : Gv pf gs io) : (flD pf gs io act).isEmpty = !io := by
  unfold flD flOf
  cases io with
  | false => split <;> rfl
  | true =>
    obtain ⟨h0, _⟩ := h.op rfl
    cases gs with
    | nil => exact absurd rfl h0
    | cons x gs =>
      show (if act = "yes_no" then fellows pf (x :: gs) else dedup (x :: gs)).isEmpty = false
      split
      · cases e : fellows pf (x :: gs) with
        | nil => exact absurd e fellows_head
        | cons a b => rfl
      · cases e : dedup (x :: gs) with
        | nil =>
          have : x ∈ dedup (x :: gs) := dedup_mem.mpr List.mem_cons_self
          rw [e] at this
          exact nomatch this
        | cons a b => rfl
theorem flD_so {pf : Str} {gs : List Str} {io : Bool} {act : Str} (h : Gv pf gs io) : ∀ x ∈ flD pf gs io act, PyData.strOk x = true := fun x hx => by
  unfold flD at hx
  split at hx
  · obtain ⟨y, hy, e⟩ := fellows_mem hx
    cases io with
    | false => exact nomatch hy
    | true =>
      have := (h.op rfl).2 y hy
      rcases e with rfl | rfl
      · exact this.so
      · exact this.no
  · exact flOf_so h x (dedup_mem.mp hx)
theorem cut_take {xs : List V} {i : Nat} (h : i ≤ xs.length) : cutV xs none (some (i : Int)) = xs.take i := by
  unfold cutV
  rw [HT.sIx_nat, HT.sIx_none, Nat.min_eq_left h]
  simp
def spMade (CA CP : Addr) : Sp := fun vs H Q _ => ∃ (a p dd : Addr) (gv : V) (pf : Str) (gs : List Str) (io : Bool) (act : Str) (ld : DD), vs = [.ref a, gv, .ref p, .bl false] ∧ SeqF H a (gs.map V.str) ∧ Gv pf gs io ∧ ((gv = .non ∧ ld = []) ∨ ∃ (o : Addr) (kvs : List (Key × V)), gv = .ref o ∧ OpH H o kvs ld) ∧ Nmd gs io ld ∧ OkO io act ld ∧ PaAt CP H p dd pf ∧
  ∀ (A : Addr) (H' : Hp), MadeA CA H H' A pf gs io act ld → Q (.ref A) H'
end K67

namespace K67
open PySem L2 PyProof.Rows
section
variable {P : Program} {w : World} {K : PySem.W.Frag} {mg : Str → Option Value} {base : Heap}
abbrev nMade : List Str := ["flags", "given", "parser", "is_exclusive", "options", "made", "dest", "action", "unique", "argument", "metavar", "at", "flag"]
theorem scMade : FnScope nMade ["flags", "given", "parser", "is_exclusive"] (defScope sMadeArg) := ⟨rfl, rfl, rfl, by decide +kernel, rfl, by decide +kernel, by decide +kernel⟩
theorem ok_made {f fCh fNa fCo fDf fCp fR fAI fWf CA CP aW aC aO aN aL aA : Addr} {fd fdCh fdNa fdCo fdDf fdCp fdR fdAI fdWf : FuncData} (F : Fun K "made_argument" "made_argument" sMadeArg f fd) (T : TxtB mg) (Z : TxtK K mg aW aC aO aN aL aA) (cP : ClsN K CP parF) (cA : ClsN K CA argF)
    (Ch : At P w K mg base "checked_flags" 3 ["flags", "prefix_chars"] (spChk K) fCh fdCh) (Na : At P w K mg base "named" 1 ["flags", "made", "options", "prefix_chars"] spNamed fNa fdNa) (Co : At P w K mg base "check_options" 6 ["action", "options", "is_positional"] spChkO fCo fdCo) (Df : At P w K mg base "default_of" 5 nDflt spDflt fDf fdDf) (Cp : At P w K mg base "copied" 4 ["value"] (spCop 3) fCp fdCp) (R : At P w K mg base "is_row" 1 ["thing"] (spIsRow K) fR fdR)
    (Wf : At P w K mg base "with_fellows" 1 ["flags", "prefix_chars"] spWithF fWf fdWf)
    (mA : mg "Argument" = some (.ref CA)) (MA : Mk K CA fAI) (GA : FnOk P w K mg base CX0 1 fAI fdAI ["self", "flags", "dest", "action"] (spArgI CA)) (bA : Binds K fdAI ["self", "flags", "dest", "action"] []) :
    FnOk P w K mg base CX0 7 f fd ["flags", "given", "parser", "is_exclusive"] (spMade CA CP) := by
  refine F.ok scMade (fun vs H Q E h => ?_) (fun cdv A0 outer s H vs Q E hr h => ?_)
  · obtain ⟨a, p, dd, gv, pf, gs, io, act, ld, rfl, _⟩ := h
    rfl
  · obtain ⟨a, p, dd, gv, pf, gs, io, act, ld, rfl, ha, hG, hgv, hNm, hK, hP, k⟩ := h
    have hu : (A0.deeper (PyProof.Rows.envOfC "made_argument" (defScope sMadeArg) s.heap.objs.size f cdv)).units + 64 < cLine := hr.units
    have hu1 := hu_of hr
    have r1 : Room 1 (A0.deeper (PyProof.Rows.envOfC "made_argument" (defScope sMadeArg) s.heap.objs.size f cdv)) := hr.mono (by decide)
    have r2 : Room 2 (A0.deeper (PyProof.Rows.envOfC "made_argument" (defScope sMadeArg) s.heap.objs.size f cdv)) := hr.mono (by decide)
    have r3 : Room 3 (A0.deeper (PyProof.Rows.envOfC "made_argument" (defScope sMadeArg) s.heap.objs.size f cdv)) := hr.mono (by decide)
    have r4 : Room 4 (A0.deeper (PyProof.Rows.envOfC "made_argument" (defScope sMadeArg) s.heap.objs.size f cdv)) := hr.mono (by decide)
    have r5 : Room 5 (A0.deeper (PyProof.Rows.envOfC "made_argument" (defScope sMadeArg) s.heap.objs.size f cdv)) := hr.mono (by decide)
    obtain ⟨tvh, hvh⟩ := Z.vh
    refine ⟨_, (pss_mid (ps_set (i := 4) scMade.nd rfl (Or.inl rfl) (pe_ifExp (pt_cmp (pc_isN (pv 1))) pe_dnewK (pv 1)))
      (pss_mid (ps_set (i := 5) scMade.nd rfl (Or.inr rfl) (pe_call Ch.ok r3 rfl Ch.m Ch.k Ch.b .nil pass0 (pa_cons (pv 0) (pa_cons (pe_fld (pv 2) rfl) pa_nil))))
      (pss_mid (ps_set (i := 6) scMade.nd rfl (Or.inl rfl) (pe_call Na.ok r1 rfl Na.m Na.k Na.b .nil pass0 (pa_cons (pv 0) (pa_cons (pv 5) (pa_cons (pv 4) (pa_cons (pe_fld (pv 2) rfl) pa_nil))))))
      (pss_mid (ps_set (i := 7) scMade.nd rfl (Or.inl rfl) (pe_dget2 hu1 (pv 4) pe_str pe_str ⟨rfl, rfl, rfl, rfl⟩))
      (pss_mid (ps_expr (pe_call Co.ok hr rfl Co.m Co.k Co.b .nil pass0 (pa_cons (pv 7) (pa_cons (pv 4) (pa_cons (pe_cmpR (op_eqD hu) (pv 5) (pe_tup pa_nil) (nomark _)) pa_nil)))))
      (pss_mid (ps_set (i := 8) scMade.nd rfl (Or.inl rfl) (pe_callTy call_tuple_of (by rfl) T.tuple (by decide +kernel) (pa_cons (pe_lc (own := [("at", 11), ("flag", 12)]) (g := gTup K 2 (gCons (gName 11) (gCons (gName 12) gNil))) (tt := tTest (tOp (rIn K true) (tVar 12) (tSl (rSlT K) (tVar 5) tNoPart (tPart (tVar 11))))) (te := tVar 12) rfl scMade.nd (pi_enumT rfl Z.enum (pa_cons (pv 5) pa_nil)) (blkOk_by (N := nMade) (sc := defScope sMadeArg) (by decide +kernel)) (fun _ _ _ _ _ => pg_tup rfl (pgs_cons (pg_name (i := 11) scMade.nd rfl (Or.inl rfl)) (pgs_cons (pg_name (i := 12) scMade.nd rfl (Or.inl rfl)) pgs_nil)))
 (fun _ _ _ _ _ => by exact pts_one (pt_cmpR op_notIn_seq (pv 12) (by exact pe_slice sl_tup (pv 5) po_none (po_some (pv 11))) (by rfl))) (fun _ _ _ _ _ => by exact pv 12)) pa_nil)))
      (pss_mid (ps_set (i := 9) scMade.nd rfl (Or.inl rfl) (pe_make MA GA r2 rfl mA bA .nil pass0 (pa_cons (pe_ifExp (pt_cmpR op_eq (pv 7) pe_str (nomark _)) (pe_call Wf.ok r1 rfl Wf.m Wf.k Wf.b .nil pass0 (pa_cons (pv 5) (pa_cons (pe_fld (pv 2) rfl) pa_nil))) (pv 8)) (pa_cons (pv 6) (pa_cons (pv 7) pa_nil)))))
      (pss_mid (ps_fld (pv 9) (pe_and (pe_cmpR op_eq (pv 7) pe_str (nomark _)) (pe_one (pe_cmpR op_gt (pe_callB call_len_seq (by rfl) T.len PySem.boot_len (pa_cons (pe_fld (pv 9) rfl) pa_nil)) (pe_callB call_len_seq (by rfl) T.len PySem.boot_len (pa_cons (pv 8) pa_nil)) (nomark _)))) rfl)
      (pss_mid (ps_fld (pv 9) (pe_ifExp (pt_cmpR op_in_seq (pv 7) (pe_glob (v := .ref aW) rfl Z.W.m rfl) (by rfl)) (pe_dget1 hu1 (pv 4) pe_str ⟨rfl, rfl, rfl, rfl⟩) pe_int) rfl)
      (pss_mid (ps_fld (pv 9) (pe_ifExp (pt_cmpR op_in_seq (pv 7) (pe_tup (pa_cons pe_str (pa_cons pe_str pa_nil))) (by rfl)) (pe_cmpR op_eq (pv 7) pe_str (nomark _)) (pe_call Cp.ok r4 rfl Cp.m Cp.k Cp.b .nil pass0 (pa_cons (pe_dget1 hu1 (pv 4) pe_str ⟨rfl, rfl, rfl, rfl⟩) pa_nil))) rfl)
      (pss_mid (ps_fld (pv 9) (pe_call Df.ok r5 rfl Df.m Df.k Df.b .nil pass0 (pa_cons (pv 7) (pa_cons (pv 6) (pa_cons (pv 4) (pa_cons (pe_fld (pv 2) rfl) (pa_cons (pe_fld (pv 2) rfl) pa_nil)))))) rfl)
      (pss_mid (ps_asg (pe_tup (pa_cons (pe_call Cp.ok r4 rfl Cp.m Cp.k Cp.b .nil pass0 (pa_cons (pe_dget1 hu1 (pv 4) pe_str ⟨rfl, rfl, rfl, rfl⟩) pa_nil)) (pa_cons (pe_call Cp.ok r4 rfl Cp.m Cp.k Cp.b .nil pass0 (pa_cons (pe_dget1 hu1 (pv 4) pe_str ⟨rfl, rfl, rfl, rfl⟩) pa_nil)) pa_nil))) (pg_tup rfl (pgs_cons (pg_fld (pv 9)) (pgs_cons (pg_fld (pv 9)) pgs_nil))))
      (pss_mid (ps_fld (pv 9) (pe_ifExp (pt_cmpR (op_neD hu) (pv 5) (pe_tup pa_nil) (nomark _)) (pe_dget2 hu1 (pv 4) pe_str pe_bl ⟨rfl, rfl, rfl, rfl⟩) (pe_cmpR op_notIn_seq (pe_fld (pv 9) rfl) (pe_tup (pa_cons pe_str (pa_cons pe_str (pa_cons pe_str pa_nil)))) (by rfl))) rfl)
      (pss_mid (ps_asg (pe_tup (pa_cons (pe_dget1 hu1 (pv 4) pe_str ⟨rfl, rfl, rfl, rfl⟩) (pa_cons (pe_dget1 hu1 (pv 4) pe_str ⟨rfl, rfl, rfl, rfl⟩) pa_nil))) (pg_tup rfl (pgs_cons (pg_fld (pv 9)) (pgs_cons (pg_fld (pv 9)) pgs_nil))))
      (pss_mid (ps_if (PW.pt (pw_and (pt_cmpR op_eq (pv 7) pe_str (nomark _)) (pw_and1 (pt_cmp (pc_isN (pe_fld (pv 9) rfl)))))) (pss_one (ps_fld (pv 9) (pe_glob (v := .str VH) rfl hvh ⟨tvh, rfl⟩) rfl)) pss_nil)
      (pss_mid (ps_set (i := 10) scMade.nd rfl (Or.inl rfl) (pe_dget1 hu1 (pv 4) pe_str ⟨rfl, rfl, rfl, rfl⟩))
      (pss_mid (ps_fld (pv 9) (pe_ifExp (pt_val (pe_call R.ok r1 rfl R.m R.k R.b .nil pass0 (pa_cons (pv 10) pa_nil))) (pe_callTy call_tuple_of (by rfl) T.tuple (by decide +kernel) (pa_cons (pv 10) pa_nil)) (pv 10)) rfl)
      (pss_cons (ps_if (PW.pt (pw_and (pt_val (pv 3)) pw_never)) pss_never pss_nil)
      (pss_one (ps_ret (pv 9))))))))))))))))))))), ?_⟩
    obtain ⟨dxp, pfs, p1, pp, pd, pa⟩ := hP.ex
    have pD := hP.d
    have nP1 : NoAttr K CP "prefix_chars" := cP.no _ (by decide +kernel)
    have nP2 : NoAttr K CP "defaults" := cP.no _ (by decide +kernel)
    have nP3 : NoAttr K CP "argument_default" := cP.no _ (by decide +kernel)
    have hfln : (flOf gs io).length ≤ 20 := by
      have := hG.n
      unfold flOf
      split
      · exact this
      · exact Nat.zero_le _
    have hso := flOf_so hG
    have hb : PyData.eqv (.tuple ((flOf gs io).map PyData.str)) (.tuple []) = !io := by
      cases io with
      | false => rfl
      | true =>
        cases gs with
        | nil => exact absurd rfl (hG.op rfl).1
        | cons z zs => rfl
    generalize hr0 : destOf pf gs io ld = r
    -- options
    refine ⟨fun σ' H' => ∃ (o : Addr) (kvs : List (Key × V)), σ' = [some (.ref a), some gv, some (.ref p), some (.bl false), some (.ref o), none, none, none, none, none, none, none, none] ∧ Same H H' ∧ OpH H' o kvs ld, ?_, ?_⟩
    · rcases hgv with ⟨rfl, rfl⟩ | ⟨o, kvs, rfl, hO⟩
      · exact ⟨_, rfl, true, rfl, iteT fun o ho => ⟨o, [], rfl, same_upd ho, upd_same, .nil⟩⟩
      · exact ⟨_, rfl, false, rfl, iteF ⟨_, rfl, o, kvs, rfl, Same.refl _, hO⟩⟩
    rintro _ H0 ⟨o, kvs, rfl, e0, hO⟩
    -- made
    refine ⟨fun σ' H' => ∃ T : Addr, σ' = [some (.ref a), some gv, some (.ref p), some (.bl false), some (.ref o), some (.ref T), none, none, none, none, none, none, none] ∧ Same H0 H' ∧ H' T = some (.tup ((flOf gs io).map V.str)), ?_, ?_⟩
    · exact ⟨_, rfl, _, rfl, p, CP, dxp, pfs, _, rfl, e0 _ _ p1, cP.cl, nP1, pp, a, pf, gs, io, rfl, ha.keep e0, hG, fun T H1 e1 hT => ⟨T, rfl, e1, hT⟩⟩
    rintro _ H1 ⟨T, rfl, e01, hT⟩
    have e1 := e0.trans e01
    have hO1 := hO.keep e01
    -- dest
    refine ⟨fun σ' H' => σ' = [some (.ref a), some gv, some (.ref p), some (.bl false), some (.ref o), some (.ref T), some (.str r), none, none, none, none, none, none] ∧ Same H1 H', ?_, ?_⟩
    · exact ⟨_, rfl, _, rfl, _, rfl, _, rfl, p, CP, dxp, pfs, _, rfl, e1 _ _ p1, cP.cl, nP1, pp, a, T, o, pf, gs, io, kvs, ld, rfl, ha.keep e1, hT, hG, hO1, hNm, fun H2 e2 => ⟨by rw [hr0]; rfl, e2⟩⟩
    rintro _ H2 ⟨rfl, e12⟩
    have e2 := e1.trans e12
    have hO2 := hO1.keep e12
    have hT2 := e12 _ _ hT
    -- action
    refine ⟨fun σ' H' => σ' = [some (.ref a), some gv, some (.ref p), some (.bl false), some (.ref o), some (.ref T), some (.str r), some (.str act), none, none, none, none, none] ∧ H2 = H', ?_, ?_⟩
    · obtain ⟨ov, g1, g2⟩ := hO2.get "action"
      refine ⟨_, rfl, o, rfl, hO2.iD, ov, g1, ?_, rfl⟩
      have hal := hK.al
      rcases g2 with ⟨q1, rfl⟩ | ⟨d, v, q1, rfl, q3⟩
      · rw [q1] at hal
        rw [PyData.str.inj hal]
        rfl
      · rw [q1] at hal
        have hal' : d = .str act := hal
        subst hal'
        cases q3
        rfl
    rintro _ _ ⟨rfl, rfl⟩
    -- check_options
    refine ⟨fun σ' H' => σ' = [some (.ref a), some gv, some (.ref p), some (.bl false), some (.ref o), some (.ref T), some (.str r), some (.str act), none, none, none, none, none] ∧ Same H2 H', ?_, ?_⟩
    · refine ⟨_, rfl, _, rfl, _, rfl, (by show 0 ≤ sizeLine; decide), fun q hq => ?_⟩
      have eq := same_upd (o := .tup []) hq
      refine ⟨_, .tuple [], .tup (SqT.of (eq _ _ hT2)) (dpAll_strs _), .tup (SqT.of upd_same) .nil, strs_shaped hso, by decide, ?_⟩
      rw [hb]
      exact ⟨o, act, io, kvs, ld, rfl, hO2.keep eq, hK, fun H' e => ⟨rfl, eq.trans e⟩⟩
    rintro _ H3 ⟨rfl, e23⟩
    have e3 := e2.trans e23
    have hT3 := e23 _ _ hT2
    have hO3 := hO2.keep e23
    -- unique
    refine ⟨fun σ' H' => ∃ U : Addr, σ' = [some (.ref a), some gv, some (.ref p), some (.bl false), some (.ref o), some (.ref T), some (.str r), some (.str act), some (.ref U), none, none, none, none] ∧ Same H3 H' ∧ H U = none ∧ H' U = some (.tup ((dedup (flOf gs io)).map V.str)), ?_, ?_⟩
    · refine ⟨_, rfl, T, _, rfl, SqT.of hT3, fun D hD => ?_⟩
      refine lc_it walk_enumT (fun i H' => Same H3 H' ∧ H' D = some (.lst ((dedup ((flOf gs io).take i)).map V.str))) ⟨same_upd hD, upd_same⟩ (fun i H' _ h => SqT.of (h.1 _ _ hT3)) (fun i v H' H'' hi h y => ?_) (fun H' h => ?_)
      · obtain ⟨Tn, x, y, rfl, hTn, rfl, hx, hy⟩ := y
        cases hx
        obtain ⟨w, hw, rfl⟩ := str_at hy
        have nD : D ≠ Tn := ne_of_none h.2 hTn
        have eT := same_upd (o := .tup [.int (i : Nat), .str w]) hTn
        have hil : i < (flOf gs io).length := (List.getElem?_eq_some_iff.mp hw).1
        refine ⟨Tn, _, rfl, SqT.of upd_same, rfl, _, _, rfl, _, _, rfl, rfl, rfl, _, rfl, _, rfl, _, rfl, ?_⟩
        have ht : i ≤ ((flOf gs io).map V.str).length := by
          rw [List.length_map]
          omega
        refine ⟨_, rfl, T, _, rfl, SqT.of (eT _ _ (h.1 _ _ hT3)), (fun z => ?_), fun q hq => ⟨q, _, rfl, .inr (SqT.of upd_same), rfl, ?_, _, rfl, ?_⟩⟩
        · have z2 := z.2
          rw [HT.sIx_nat, List.length_map] at z2
          omega
        · rw [cut_take ht, ← List.map_take]
          exact flat_strs _
        have eq2 := same_upd (o := .tup (((flOf gs io).take i).map V.str)) hq
        rw [if_pos rfl, cut_take ht, ← List.map_take, inV_strs, dedup_more hw]
        have hle : ((dedup ((flOf gs io).take i)).map V.str).length < sizeLine := by
          have := dedup_len ((flOf gs io).take i)
          rw [List.length_take] at this
          rw [List.length_map, PySem.sizeLine_eq]
          omega
        by_cases hc : w ∈ (flOf gs io).take i
        · rw [decide_eq_true hc]
          refine iteF ⟨h.1.trans (eT.trans eq2), ?_⟩
          rw [if_neg (by rw [decide_eq_false (fun q => q hc)]; exact Bool.false_ne_true), List.append_nil]
          exact eq2 _ _ (eT _ _ h.2)
        · rw [decide_eq_false hc]
          refine iteT ⟨_, rfl, _, eq2 _ _ (eT _ _ h.2), hle, same_mut (h.1.trans (eT.trans eq2)) hD, ?_⟩
          rw [upd_same, if_pos (decide_eq_true hc), List.map_append]
          rfl
      · obtain ⟨s1, hl⟩ := h
        rw [List.length_map, List.take_length] at hl
        exact ⟨D, _, rfl, .inl ⟨SqL.of hl, fun U hU => ⟨U, rfl, same_upd2 s1 hU, Same.free (e3.trans s1) hU, upd_same⟩⟩⟩
    rintro _ H4 ⟨U0, rfl, e34, nU0, hU0⟩
    have e4 := e3.trans e34
    have hO4 := hO3.keep e34
    have hT4 := e34 _ _ hT3
    -- the argument
    refine ⟨fun σ' H' => ∃ A dx U : Addr, σ' = [some (.ref a), some gv, some (.ref p), some (.bl false), some (.ref o), some (.ref T), some (.str r), some (.str act), some (.ref U0), some (.ref A), none, none, none] ∧ H4 A = none ∧ H U = none ∧ Msd H4 H' CA A dx U (flD pf gs io act) (AV.fs U r act io ⟨.non, .non, .non, .non, .non, .bl false, .non, .non, .non, .bl false⟩), ?_, ?_⟩
    · refine ⟨_, rfl, rfl, _, rfl, ?_⟩
      refine ite2 (fun hc => ?_) (fun hc => ?_)
      · have hy := V.str.inj (of_decide_eq_true hc)
        have hio : io = true := by
          cases io with
          | true => rfl
          | false =>
            have := hK.ap rfl
            rw [hy] at this
            exact absurd this (by decide)
        refine ⟨_, rfl, _, rfl, p, CP, dxp, pfs, _, rfl, e4 _ _ p1, cP.cl, nP1, pp, T, pf, flOf gs io, rfl, hT4, ?_, hfln, fun U H5 e5 nU5 hU5 => ?_⟩
        · rw [hio]
          exact (hG.op hio).2
        have nU : H U = none := Same.free e4 nU5
        have hU : H5 U = some (.tup ((flD pf gs io act).map V.str)) := by
          unfold flD
          rw [if_pos hy]
          exact hU5
        refine ⟨_, rfl, _, rfl, fun A dx hAn hdx ne => ?_⟩
        have eA : Same H5 (upd (upd H5 dx (.own A)) A (.ins CA dx [])) := same_upd2 (same_upd hdx) (by rw [upd_ne ne.symm]; exact hAn)
        refine ⟨A, dx, U, flD pf gs io act, r, act, rfl, upd_same, eA _ _ hU, flD_so hG, fun H' kp hA' => ⟨rfl, A, dx, U, rfl, Same.free e5 hAn, nU, ?_, ?_, ?_⟩⟩
        · exact fun b u e => kp b u (eA _ _ (e5 _ _ e)) (ne_of_none (e5 _ _ e) hAn)
        · exact kp _ _ (eA _ _ hU) (ne_of_none hU hAn)
        · rw [hA', flD_ne hG, Bool.not_not]
          rfl
      · have hy : act ≠ "yes_no" := fun q => hc (decide_eq_true (congrArg V.str q))
        have e5 := Same.refl H4
        have nU := nU0
        have hU : H4 U0 = some (.tup ((flD pf gs io act).map V.str)) := by
          unfold flD
          rw [if_neg hy]
          exact hU0
        refine ⟨_, rfl, _, rfl, _, rfl, fun A dx hAn hdx ne => ?_⟩
        have eA : Same H4 (upd (upd H4 dx (.own A)) A (.ins CA dx [])) := same_upd2 (same_upd hdx) (by rw [upd_ne ne.symm]; exact hAn)
        refine ⟨A, dx, U0, flD pf gs io act, r, act, rfl, upd_same, eA _ _ hU, flD_so hG, fun H' kp hA' => ⟨rfl, A, dx, U0, rfl, Same.free e5 hAn, nU, ?_, ?_, ?_⟩⟩
        · exact fun b u e => kp b u (eA _ _ (e5 _ _ e)) (ne_of_none (e5 _ _ e) hAn)
        · exact kp _ _ (eA _ _ hU) (ne_of_none hU hAn)
        · rw [hA', flD_ne hG, Bool.not_not]
          rfl
    rintro _ H5 ⟨A, dx, U, rfl, nA4, nU, M5⟩
    have nA : H A = none := Same.free e4 nA4
    generalize hσ : ([some (.ref a), some gv, some (.ref p), some (.bl false), some (.ref o), some (.ref T), some (.str r), some (.str act), some (.ref U0), some (.ref A), none, none, none] : L2.St) = σ5
    have s2 : σ5[2]? = some (some (.ref p)) := by rw [← hσ]; rfl
    have s3 : σ5[3]? = some (some (.bl false)) := by rw [← hσ]; rfl
    have s4 : σ5[4]? = some (some (.ref o)) := by rw [← hσ]; rfl
    have s5 : σ5[5]? = some (some (.ref T)) := by rw [← hσ]; rfl
    have s6 : σ5[6]? = some (some (.str r)) := by rw [← hσ]; rfl
    have s7 : σ5[7]? = some (some (.str act)) := by rw [← hσ]; rfl
    have s8 : σ5[8]? = some (some (.ref U0)) := by rw [← hσ]; rfl
    have s9 : σ5[9]? = some (some (.ref A)) := by rw [← hσ]; rfl
    have hOX : ∀ {H' : Hp}, Same H4 H' → OpH H' o kvs ld := fun e => hO4.keep e
    have i1 : inV (.str act) wW = decide (act ∈ WWs) := inV_strs act WWs
    -- fellows
    refine ⟨fun σ' H' => σ5 = σ' ∧ ∃ v : AV, v.me = .non ∧ Msd H4 H' CA A dx U (flD pf gs io act) (v.fs U r act io) ∧ AG H H' io act ld (gD ld "help") v 0, ?_, ?_⟩
    · have g0 : ∀ (fe : V) (H' : Hp), AG H H' io act ld (gD ld "help") ⟨.non, .non, .non, .non, .non, .bl false, .non, .non, .non, fe⟩ 0 := fun fe H' => ⟨fun q => absurd q (by decide), fun q => absurd q (by decide), fun q => absurd q (by decide), fun q => absurd q (by decide), fun q => absurd q (by decide), fun q => absurd q (by decide), fun q => absurd q (by decide), fun q => absurd q (by decide)⟩
      refine ⟨_, s7, rfl, _, rfl, ?_⟩
      refine ite2 (fun hc => ?_) (fun hc => ?_)
      · have hA5 := M5.ex
        refine ⟨_, s9, A, CA, dx, _, .ref U, rfl, hA5, cA.cl, cA.no _ (by decide +kernel), rfl, U, _, rfl, .inr (SqT.of M5.tt), _, s8, U0, _, rfl, .inr (SqT.of (M5.same _ _ hU0)), _, _, rfl, rfl, _, s9, M5.put cA nA4 (by decide +kernel) fun H' M kp => ⟨rfl, ⟨.non, .non, .non, .non, .non, .bl false, .non, .non, .non, .bl (decide ((((dedup (flOf gs io)).map V.str).length : Int) < (((flD pf gs io act).map V.str).length : Int)))⟩, rfl, M, g0 _ _⟩⟩
      · exact ⟨_, s9, M5.put cA nA4 (by decide +kernel) fun H' M kp => ⟨rfl, ⟨.non, .non, .non, .non, .non, .bl false, .non, .non, .non, _⟩, rfl, M, g0 _ _⟩⟩
    rintro _ H6 ⟨rfl, v6, m6, M6, G6⟩
    -- nargs
    refine ⟨fun σ' H' => σ5 = σ' ∧ ∃ v : AV, v.me = .non ∧ Msd H4 H' CA A dx U (flD pf gs io act) (v.fs U r act io) ∧ AG H H' io act ld (gD ld "help") v 1, ?_, ?_⟩
    · have nx : ∀ (x : V) (H' H2 : Hp), Dt emp x (nnD act ld) → Same H6 H' → Msd H4 H2 CA A dx U (flD pf gs io act) (AV.fs U r act io { v6 with nn := x }) → (∀ b o, H' b = some o → b ≠ A → H2 b = some o) → ∃ v : AV, v.me = .non ∧ Msd H4 H2 CA A dx U (flD pf gs io act) (v.fs U r act io) ∧ AG H H2 io act ld (gD ld "help") v 1 := fun x H' H2 hx e M kp =>
        ⟨{ v6 with nn := x }, m6, M, ⟨fun _ => hx, fun q => absurd q (by decide), fun q => absurd q (by decide), fun q => absurd q (by decide), fun q => absurd q (by decide), fun q => absurd q (by decide), fun q => absurd q (by decide), fun q => absurd q (by decide)⟩⟩
      refine ⟨_, s7, aW, wW, rfl, .inr (Z.W.q _), rfl, by decide +kernel, _, rfl, ?_⟩
      rw [if_neg Bool.false_ne_true, i1]
      refine ite2 (fun h => ?_) (fun h => ?_)
      · have hw := of_decide_eq_true h
        obtain ⟨nv, hnv, hn1, _⟩ := hK.na hw
        have hO6 := hOX M6.same
        obtain ⟨ov, g1, g2⟩ := hO6.getN "nargs"
        have hd : Dt emp (ov.getD .non) (nnD act ld) := by
          unfold nnD
          rw [if_pos hw]
          refine dt_emp g2 ?_
          rw [hn1]
          cases nv <;> first | exact .inl rfl | exact .inr (.inl ⟨_, rfl⟩) | exact .inr (.inr (.inl ⟨_, rfl⟩)) | exact .inr (.inr (.inr ⟨_, rfl⟩))
        exact ⟨_, s4, o, rfl, hO6.iD, ov, g1, _, s9, M6.put cA nA4 (by decide +kernel) fun H' M kp => ⟨rfl, nx _ H6 H' hd (Same.refl _) M kp⟩⟩
      · have hw : act ∉ WWs := fun q => h (decide_eq_true q)
        have hd : Dt emp (.int 0) (nnD act ld) := by
          unfold nnD
          rw [if_neg hw]
          exact .int 0
        exact ⟨_, s9, M6.put cA nA4 (by decide +kernel) fun H' M kp => ⟨rfl, nx _ H6 H' hd (Same.refl _) M kp⟩⟩
    rintro _ H7 ⟨rfl, v7, m7, M7, G7⟩
    -- const
    refine ⟨fun σ' H' => σ5 = σ' ∧ ∃ v : AV, v.me = .non ∧ Msd H4 H' CA A dx U (flD pf gs io act) (v.fs U r act io) ∧ AG H H' io act ld (gD ld "help") v 2, ?_, ?_⟩
    · have nx : ∀ (x : V) (H' H2 : Hp), DtR H H' x (coD act ld) → Same H7 H' → Msd H4 H' CA A dx U (flD pf gs io act) (v7.fs U r act io) → Msd H4 H2 CA A dx U (flD pf gs io act) (AV.fs U r act io { v7 with co := x }) → (∀ b o, H' b = some o → b ≠ A → H2 b = some o) → ∃ v : AV, v.me = .non ∧ Msd H4 H2 CA A dx U (flD pf gs io act) (v.fs U r act io) ∧ AG H H2 io act ld (gD ld "help") v 2 := fun x H' H2 hx e M1 M kp =>
        ⟨{ v7 with co := x }, m7, M, ⟨fun _ => G7.nn (by decide), fun _ => hx.kp M1.ex kp, fun q => absurd q (by decide), fun q => absurd q (by decide), fun q => absurd q (by decide), fun q => absurd q (by decide), fun q => absurd q (by decide), fun q => absurd q (by decide)⟩⟩
      refine ⟨_, s7, (by show 2 ≤ sizeLine; decide), fun q hq => ?_⟩
      have eq := same_upd (o := .tup [.str "store_true", .str "store_false"]) hq
      have hq1 : (upd H7 q (.tup [.str "store_true", .str "store_false"])) q = some (.tup ((["store_true", "store_false"] : List Str).map V.str)) := upd_same
      generalize upd H7 q (.tup [.str "store_true", .str "store_false"]) = G at eq hq1
      have M := M7.keep eq
      refine ⟨q, _, rfl, .inr (SqT.of hq1), rfl, flat_strs _, _, rfl, ?_⟩
      rw [if_neg Bool.false_ne_true, inV_strs]
      refine ite2 (fun h => ?_) (fun h => ?_)
      · have h' : act = "store_true" ∨ act = "store_false" := by
          have := of_decide_eq_true h
          simpa using this
        have hd : DtR H G (.bl (decide (V.str act = V.str "store_true"))) (coD act ld) := by
          refine ⟨emp, ?_, (fun b o q => (nomatch q)), (fun b o q => (nomatch q)), (fun b C dx fs q => (nomatch q))⟩
          unfold coD
          rw [if_pos h', show decide (V.str act = V.str "store_true") = decide (act = "store_true") from decide_eq_decide.mpr ⟨fun x => V.str.inj x, fun x => congrArg V.str x⟩]
          exact .bl _
        exact ⟨_, s7, rfl, _, s9, M.put cA nA4 (by decide +kernel) fun H' M' kp => ⟨rfl, nx _ G H' hd eq M M' kp⟩⟩
      · have h' : ¬ (act = "store_true" ∨ act = "store_false") := fun q => h (decide_eq_true (by simpa using q))
        have hO7 := hOX M.same
        obtain ⟨ov, g1, g2⟩ := hO7.getN "const"
        obtain ⟨c1, c2, _⟩ := hK.get "const"
        refine ⟨_, s4, o, rfl, hO7.iD, ov, g1, _, _, rfl, g2, by omega, c2, fun v' N H' e Fr t => ?_⟩
        have M2 := M.keep e
        have hd : DtR H H' v' (coD act ld) := by
          unfold coD
          rw [if_neg h']
          exact DtR.of (e4.trans M.same) Fr t
        exact ⟨_, s9, M2.put cA nA4 (by decide +kernel) fun H2 M' kp => ⟨rfl, nx _ H' H2 hd (eq.trans e) M2 M' kp⟩⟩
    rintro _ H8 ⟨rfl, v8, m8, M8, G8⟩
    -- default
    refine ⟨fun σ' H' => σ5 = σ' ∧ ∃ v : AV, v.me = .non ∧ Msd H4 H' CA A dx U (flD pf gs io act) (v.fs U r act io) ∧ AG H H' io act ld (gD ld "help") v 3, ?_, ?_⟩
    · refine ⟨_, s7, _, s6, _, s4, _, s2, p, CP, dxp, pfs, _, rfl, M8.same _ _ (e4 _ _ p1), cP.cl, nP2, pd, _, s2, p, CP, dxp, pfs, _, rfl, M8.same _ _ (e4 _ _ p1), cP.cl, nP3, pa, act, r, o, dd, io, kvs, ld, rfl, hOX M8.same, hK, M8.same _ _ (e4 _ _ pD), fun v' N H' e Fr t => ?_⟩
      have M2 := M8.keep e
      have G2 := G8.keep e
      exact ⟨_, s9, M2.put cA nA4 (by decide +kernel) fun H2 M' kp => ⟨rfl, { v8 with de := v' }, m8, M', ⟨fun _ => G8.nn (by decide), fun _ => (G2.co (by decide)).kp M2.ex kp, fun _ => (DtR.of (e4.trans M8.same) Fr t).kp M2.ex kp, fun q => absurd q (by decide), fun q => absurd q (by decide), fun q => absurd q (by decide), fun q => absurd q (by decide), fun q => absurd q (by decide)⟩⟩⟩
    rintro _ H9 ⟨rfl, v9, m9, M9, G9⟩
    -- kind, choices
    refine ⟨fun σ' H' => σ5 = σ' ∧ ∃ v : AV, v.me = .non ∧ Msd H4 H' CA A dx U (flD pf gs io act) (v.fs U r act io) ∧ AG H H' io act ld (gD ld "help") v 4, ?_, ?_⟩
    · have hO9 := hOX M9.same
      obtain ⟨ov1, g1, g2⟩ := hO9.getN "kind"
      obtain ⟨c1, c2, _⟩ := hK.get "kind"
      refine ⟨_, s4, o, rfl, hO9.iD, ov1, g1, _, _, rfl, g2, by omega, c2, fun v1 N1 G1 f1 F1 t1 => ?_⟩
      have Ma := M9.keep f1
      have hOa := hOX Ma.same
      obtain ⟨ov2, g3, g4⟩ := hOa.getN "choices"
      obtain ⟨c3, c4, _⟩ := hK.get "choices"
      refine ⟨_, s4, o, rfl, hOa.iD, ov2, g3, _, _, rfl, g4, by omega, c4, fun v2 N2 G2 f2 F2 t2 => ⟨(by show 2 ≤ sizeLine; decide), fun W hW => ?_⟩⟩
      have ew := same_upd (o := .tup [v1, v2]) hW
      have Mb := (Ma.keep f2).keep ew
      have hk := ((DtR.of (e4.trans M9.same) F1 t1).keep f2).keep ew
      have hc := (DtR.of (e4.trans Ma.same) F2 t2).keep ew
      have Gb := ((G9.keep f1).keep f2).keep ew
      exact ⟨W, _, rfl, SqT.of upd_same, rfl, _, _, rfl, Mb.putG cA nA4 (by decide +kernel) s9 fun H' M' kp => ⟨_, _, rfl, M'.putG cA nA4 (by decide +kernel) s9 fun H2 M'' kp2 => ⟨rfl, rfl, { v9 with ki := v1, ch := v2 }, m9, M'', ⟨fun _ => G9.nn (by decide), fun _ => ((Gb.co (by decide)).kp Mb.ex kp).kp M'.ex kp2, fun _ => ((Gb.de (by decide)).kp Mb.ex kp).kp M'.ex kp2, fun _ => (hk.kp Mb.ex kp).kp M'.ex kp2, fun _ => (hc.kp Mb.ex kp).kp M'.ex kp2, fun q => absurd q (by decide), fun q => absurd q (by decide), fun q => absurd q (by decide)⟩⟩⟩⟩
    rintro _ H10 ⟨rfl, v10, m10, M10, G10⟩
    -- required
    refine ⟨fun σ' H' => σ5 = σ' ∧ ∃ v : AV, v.me = .non ∧ Msd H4 H' CA A dx U (flD pf gs io act) (v.fs U r act io) ∧ AG H H' io act ld (gD ld "help") v 5, ?_, ?_⟩
    · have nx : ∀ (x : V) (H' H2 : Hp), Dt emp x (reD io act ld) → Same H10 H' → Msd H4 H2 CA A dx U (flD pf gs io act) (AV.fs U r act io { v10 with re := x }) → (∀ b o, H' b = some o → b ≠ A → H2 b = some o) → ∃ v : AV, v.me = .non ∧ Msd H4 H2 CA A dx U (flD pf gs io act) (v.fs U r act io) ∧ AG H H2 io act ld (gD ld "help") v 5 := fun x H' H2 hx e M kp =>
        have Gk := (G10.keep e).kp (M10.keep e).ex kp
        ⟨{ v10 with re := x }, m10, M, ⟨fun _ => G10.nn (by decide), fun _ => Gk.co (by decide), fun _ => Gk.de (by decide), fun _ => Gk.ki (by decide), fun _ => Gk.ch (by decide), fun _ => hx, fun q => absurd q (by decide), fun q => absurd q (by decide)⟩⟩
      refine ⟨_, s5, (by show 0 ≤ sizeLine; decide), fun q hq => ?_⟩
      have eq := same_upd (o := .tup []) hq
      have M := M10.keep eq
      refine ⟨_, .tuple [], .tup (SqT.of (M.same _ _ hT4)) (dpAll_strs _), .tup (SqT.of upd_same) .nil, strs_shaped hso, by decide, _, rfl, ?_⟩
      rw [hb, Bool.not_not]
      refine ite2 (fun h => ?_) (fun h => ?_)
      · have hOa := hOX M.same
        obtain ⟨ov, g1, g2⟩ := hOa.get "required"
        have hd : Dt emp (ov.getD (.bl false)) (reD io act ld) := by
          unfold reD
          rw [h, if_pos rfl]
          rcases g2 with ⟨q1, rfl⟩ | ⟨d, v, q1, rfl, q3⟩
          · rw [q1]
            exact .bl false
          · obtain ⟨_, b, rfl⟩ := hK.rq d q1
            rw [q1]
            cases q3
            exact .bl b
        exact ⟨_, s4, o, rfl, hOa.iD, ov, g1, _, s9, M.put cA nA4 (by decide +kernel) fun H' M' kp => ⟨rfl, nx _ _ H' hd eq M' kp⟩⟩
      · have hio : io = false := by
          cases io with
          | true => exact absurd rfl h
          | false => rfl
        have hw := hK.ap hio
        have hA2 := M.ex
        have hnn := G10.nn (by decide)
        obtain ⟨nv, hnv, hn1, _⟩ := hK.na hw
        have hnv2 : v10.nn = nv := by
          unfold nnD at hnn
          rw [if_pos hw, hn1] at hnn
          exact dt_n hnv hnn
        have hd : Dt emp (.bl (!(inV nv [.str "?", .str "*", .str "..."]))) (reD io act ld) := by
          have : reD io act ld = .bool (!(inV nv [.str "?", .str "*", .str "..."])) := by
            unfold reD nnD
            rw [hio, if_neg Bool.false_ne_true, if_pos hw, hn1]
            exact congrArg PyData.bool ((by decide +kernel : ∀ v ∈ nMenu, needD (scD v) = !(inV v [.str "?", .str "*", .str "..."])) nv hnv)
          rw [this]
          exact .bl _
        refine ⟨_, s9, A, CA, dx, _, v10.nn, rfl, hA2, cA.cl, cA.no _ (by decide +kernel), rfl, (by show 3 ≤ sizeLine; decide), fun q2 hq2 => ⟨q2, _, rfl, .inr (SqT.of upd_same), dt_flat hnn, by decide +kernel, ?_⟩⟩
        rw [if_pos rfl, hnv2]
        have eq2 := same_upd (o := .tup [.str "?", .str "*", .str "..."]) hq2
        exact ⟨_, s9, (M.keep eq2).put cA nA4 (by decide +kernel) fun H' M' kp => ⟨rfl, nx _ _ H' hd (eq.trans eq2) M' kp⟩⟩
    rintro _ H11 ⟨rfl, v11, m11, M11, G11⟩
    -- help, version
    refine ⟨fun σ' H' => σ5 = σ' ∧ ∃ v : AV, v.me = .non ∧ Msd H4 H' CA A dx U (flD pf gs io act) (v.fs U r act io) ∧ AG H H' io act ld (gD ld "help") v 6, ?_, ?_⟩
    · have hOa := hOX M11.same
      obtain ⟨ov1, g1, g2⟩ := hOa.getN "help"
      obtain ⟨ov2, g3, g4⟩ := hOa.getN "version"
      have hh : Dt emp (ov1.getD .non) (gD ld "help") := dt_emp g2 (hK.he.imp id fun ⟨z, q⟩ => .inr (.inr ⟨z, q⟩))
      have hv : Dt emp (ov2.getD .non) (gD ld "version") := by
        refine dt_emp g4 ?_
        by_cases hc : act = "version"
        · obtain ⟨z, q⟩ := hK.ve hc
          refine .inr (.inr (.inr ⟨z, ?_⟩))
          unfold gD
          rw [q]
          rfl
        · refine .inl ?_
          unfold gD
          rw [hK.no ?_]
          · rfl
          · intro q
            unfold keysS at q
            repeat' split at q
            all_goals first
              | exact hc (by assumption)
              | (revert q; decide)
      refine ⟨_, s4, o, rfl, hOa.iD, ov1, g1, _, s4, o, rfl, hOa.iD, ov2, g3, (by show 2 ≤ sizeLine; decide), fun W hW => ?_⟩
      have ew := same_upd (o := .tup [ov1.getD .non, ov2.getD .non]) hW
      have Mb := M11.keep ew
      have Gb := G11.keep ew
      exact ⟨W, _, rfl, SqT.of upd_same, rfl, _, _, rfl, Mb.putG cA nA4 (by decide +kernel) s9 fun H' M' kp => ⟨_, _, rfl, M'.putG cA nA4 (by decide +kernel) s9 fun H2 M'' kp2 => ⟨rfl, rfl, { v11 with he := ov1.getD .non, ve := ov2.getD .non }, m11, M'', ⟨fun _ => G11.nn (by decide), fun _ => ((Gb.co (by decide)).kp Mb.ex kp).kp M'.ex kp2, fun _ => ((Gb.de (by decide)).kp Mb.ex kp).kp M'.ex kp2, fun _ => ((Gb.ki (by decide)).kp Mb.ex kp).kp M'.ex kp2, fun _ => ((Gb.ch (by decide)).kp Mb.ex kp).kp M'.ex kp2, fun _ => G11.re (by decide), fun _ => hh, fun _ => hv⟩⟩⟩⟩
    rintro _ H12 ⟨rfl, v12, m12, M12, G12⟩
    -- the help of a version
    refine ⟨fun σ' H' => σ5 = σ' ∧ ∃ v : AV, v.me = .non ∧ Msd H4 H' CA A dx U (flD pf gs io act) (v.fs U r act io) ∧ AG H H' io act ld (heD act ld) v 6, ?_, ?_⟩
    · have hh := G12.he (by decide)
      have stay : heD act ld = gD ld "help" → ∃ v : AV, v.me = .non ∧ Msd H4 H12 CA A dx U (flD pf gs io act) (v.fs U r act io) ∧ AG H H12 io act ld (heD act ld) v 6 := fun q => ⟨v12, m12, M12, by rw [q]; exact G12⟩
      refine ⟨_, s7, rfl, _, rfl, ?_⟩
      refine ite2 (fun hc => ?_) (fun hc => iteF ⟨rfl, stay ?_⟩)
      · have hv := V.str.inj (of_decide_eq_true hc)
        have hA2 := M12.ex
        refine ⟨_, s9, A, CA, dx, _, v12.he, rfl, hA2, cA.cl, cA.no _ (by decide +kernel), rfl, _, rfl, ?_⟩
        rcases hK.he with q | ⟨z, q⟩
        · rw [q] at hh
          have hn : v12.he = .non := by
            generalize v12.he = x at hh
            cases hh
            rfl
          rw [hn]
          refine iteT ⟨_, s9, M12.put cA nA4 (by decide +kernel) fun H' M' kp => ⟨rfl, { v12 with he := .str VH }, m12, M', ?_⟩⟩
          have Gk := G12.kp hA2 kp
          refine ⟨Gk.nn, Gk.co, Gk.de, Gk.ki, Gk.ch, Gk.re, fun _ => ?_, Gk.ve⟩
          unfold heD
          rw [q]
          show Dt emp (.str VH) (if act = "version" then .str VH else .none)
          rw [if_pos hv]
          exact .str _
        · rw [q] at hh
          have hn : v12.he = .str z := by
            generalize v12.he = x at hh
            cases hh
            rfl
          rw [hn]
          refine iteF ⟨rfl, stay ?_⟩
          unfold heD
          rw [q]
      · unfold heD
        rcases hK.he with q | ⟨z, q⟩
        · rw [q]
          show (if act = "version" then PyData.str VH else .none) = .none
          rw [if_neg fun x => hc (decide_eq_true (congrArg V.str x))]
        · rw [q]
    rintro _ H13 ⟨rfl, v13, m13, M13, G13⟩
    subst hσ
    -- metavar
    have hO13 := hOX M13.same
    obtain ⟨ov, g1, g2⟩ := hO13.getN "metavar"
    refine ⟨fun σ' H' => σ' = [some (.ref a), some gv, some (.ref p), some (.bl false), some (.ref o), some (.ref T), some (.str r), some (.str act), some (.ref U0), some (.ref A), some (ov.getD .non), none, none] ∧ H13 = H', ⟨_, rfl, o, rfl, hO13.iD, ov, g1, rfl, rfl⟩, ?_⟩
    rintro _ _ ⟨rfl, rfl⟩
    generalize ov.getD .non = mv at g2
    refine ⟨fun σ' H' => σ' = [some (.ref a), some gv, some (.ref p), some (.bl false), some (.ref o), some (.ref T), some (.str r), some (.str act), some (.ref U0), some (.ref A), some mv, none, none] ∧ ∃ v : AV, Msd H4 H' CA A dx U (flD pf gs io act) (v.fs U r act io) ∧ AG H H' io act ld (heD act ld) v 6 ∧ MeAt H' v.me (meD ld), ?_, ?_⟩
    · have nx : ∀ (x : V) (H' H2 : Hp), MeAt H' x (meD ld) → Same H13 H' → Msd H4 H2 CA A dx U (flD pf gs io act) (AV.fs U r act io { v13 with me := x }) → (∀ b o, H' b = some o → b ≠ A → H2 b = some o) → ∃ v : AV, Msd H4 H2 CA A dx U (flD pf gs io act) (v.fs U r act io) ∧ AG H H2 io act ld (heD act ld) v 6 ∧ MeAt H2 v.me (meD ld) := fun x H' H2 hx e M kp =>
        have Gk := (G13.keep e).kp (M13.keep e).ex kp
        ⟨{ v13 with me := x }, M, ⟨Gk.nn, Gk.co, Gk.de, Gk.ki, Gk.ch, Gk.re, Gk.he, Gk.ve⟩, hx.imp id fun ⟨b, l, q1, q2, q3⟩ => ⟨b, l, q1, q2, kp _ _ q3 (ne_of q3 (M13.keep e).ex (by intro z; cases z))⟩⟩
      have hmd : gD ld "metavar" = .none ∨ (∃ z, gD ld "metavar" = .str z) ∨ ∃ l : List Str, gD ld "metavar" = .list (l.map PyData.str) ∨ gD ld "metavar" = .tuple (l.map PyData.str) := by
        by_cases hw : act ∈ WWs
        · obtain ⟨nv, _, _, _, _, hf⟩ := hK.na hw
          rcases hf with q | ⟨z, q, _⟩ | ⟨l, q, _⟩
          · exact .inl q
          · exact .inr (.inl ⟨z, q⟩)
          · exact .inr (.inr ⟨l, q⟩)
        · refine .inl ?_
          unfold gD
          rw [hK.no ?_]
          · rfl
          · intro q
            unfold keysS at q
            rw [if_neg hw] at q
            repeat' split at q
            all_goals (revert q; decide)
      rcases hmd with q | ⟨z, q⟩ | ⟨l, q⟩
      · rw [q] at g2
        cases g2
        have hd : MeAt H13 .non (meD ld) := by
          refine .inl ?_
          unfold meD
          rw [q]
          exact .non
        exact ⟨_, rfl, _, "NoneType", false, rfl, .base .non, by decide +kernel, fun H' e => ⟨_, rfl, iteF ⟨_, rfl, _, rfl, (M13.keep e).put cA nA4 (by decide +kernel) fun H2 M' kp => ⟨rfl, nx _ H' H2 (hd.imp id fun ⟨b, l, x1, x2, x3⟩ => ⟨b, l, x1, x2, e _ _ x3⟩) e M' kp⟩⟩⟩⟩
      · rw [q] at g2
        cases g2
        have hd : MeAt H13 (.str z) (meD ld) := by
          refine .inl ?_
          unfold meD
          rw [q]
          exact .str z
        exact ⟨_, rfl, _, "str", false, rfl, .base (.str z), by decide +kernel, fun H' e => ⟨_, rfl, iteF ⟨_, rfl, _, rfl, (M13.keep e).put cA nA4 (by decide +kernel) fun H2 M' kp => ⟨rfl, nx _ H' H2 (hd.imp id fun ⟨b, l, x1, x2, x3⟩ => ⟨b, l, x1, x2, e _ _ x3⟩) e M' kp⟩⟩⟩⟩
      · have hm : meD ld = .tuple (l.map PyData.str) := by
          unfold meD
          rcases q with q | q <;> rw [q]
        rcases q with q | q
        · rw [q] at g2
          cases g2 with
          | @lst b xs _ h1 h2 =>
            obtain rfl := dts_lst h2
            refine ⟨_, rfl, _, "list", true, rfl, .base (.lst h1), by decide +kernel, fun H' e => ⟨_, rfl, iteT ⟨_, rfl, b, _, rfl, .inl ⟨SqL.of (e _ _ h1), fun c hc => ?_⟩⟩⟩⟩
            have ec := same_upd (o := .tup (l.map V.str)) hc
            exact ⟨_, rfl, ((M13.keep e).keep ec).put cA nA4 (by decide +kernel) fun H2 M' kp => ⟨rfl, nx _ _ H2 (.inr ⟨c, l, rfl, hm, upd_same⟩) (e.trans ec) M' kp⟩⟩
        · rw [q] at g2
          cases g2 with
          | @tup b xs _ h1 h2 =>
            obtain rfl := dts_lst h2
            exact ⟨_, rfl, _, "tuple", true, rfl, .base (.tup h1), by decide +kernel, fun H' e => ⟨_, rfl, iteT ⟨_, rfl, b, _, rfl, .inr ⟨SqT.of (e _ _ h1), _, rfl, (M13.keep e).put cA nA4 (by decide +kernel) fun H2 M' kp => ⟨rfl, nx _ H' H2 (.inr ⟨b, l, rfl, hm, e _ _ h1⟩) e M' kp⟩⟩⟩⟩⟩
    rintro _ H14 ⟨rfl, v14, M14, G14, hme⟩
    refine ⟨_, rfl, _, rfl, iteF (iteF ?_)⟩
    refine ⟨_, rfl, k A _ ⟨e4.trans M14.same, nA, dx, U, v14, nU, ⟨e4.trans M14.same, M14.tt, ?_⟩, G14, hme⟩⟩
    rw [hr0]
    exact M14.ex
end
end K67

namespace K67
open PySem L2 PyProof.Rows
/-! ### a section, signs -/
def secF : List Str := ["home", "title", "description", "members"]
def sFs (v1 v2 v3 : V) (m : Addr) : List (Str × V) := [("home", v1), ("title", v2), ("description", v3), ("members", .ref m)]
def spSecI (C : Addr) : Sp := fun vs H Q _ => ∃ (x dx : Addr) (v1 v2 v3 : V), vs = [.ref x, v1, v2, v3] ∧ H x = some (.ins C dx []) ∧
  ∀ (m : Addr) (H' : Hp), (∀ b o, H b = some o → b ≠ x → H' b = some o) → H m = none → H' m = some (.lst []) → H' x = some (.ins C dx (sFs v1 v2 v3 m)) → Q .non H'
def sgns : List Nat := [43, 45, 47, 58, 64]
def sgK (x : Str) : List (Key × V) := x.cps.toList.map fun c => (Sum.inr (⟨#[c]⟩ : Str), V.bl true)
/-- signs that are right -/
structure SgOk (x : Str) : Prop where
  c : ∀ c ∈ x.cps.toList, c ∈ sgns
  l : x.cps.toList.length ≤ 5
  n : x.length ≤ 5
  d : decide (((mergeK [] (sgK x)).length : Int) < (x.length : Int)) = false
theorem sg_none : SgOk "" := ⟨by decide, by decide, by decide, by decide⟩
def spSigns : Sp := fun vs H Q _ => ∃ x : Str, vs = [.str x] ∧ SgOk x ∧ ∀ H', Same H H' → Q (.bl true) H'
section
variable {P : Program} {w : World} {K : PySem.W.Frag} {mg : Str → Option Value} {base : Heap}
theorem scSecI : FnScope ["self", "home", "title", "description"] ["self", "home", "title", "description"] (defScope sSecI) := ⟨rfl, rfl, rfl, by decide +kernel, rfl, by decide +kernel, by decide +kernel⟩
theorem ok_secI {f C : Addr} {fd : FuncData} (F : Fun K "__init__" "Section.__init__" sSecI f fd) (c : ClsN K C secF) : FnOk P w K mg base CX0 1 f fd ["self", "home", "title", "description"] (spSecI C) := by
  refine F.ok scSecI (fun vs H Q E h => ?_) (fun cdv A outer s H vs Q E hr h => ?_)
  · obtain ⟨x, dx, v1, v2, v3, rfl, _⟩ := h
    rfl
  · obtain ⟨x, dx, v1, v2, v3, rfl, hx, k⟩ := h
    have m : ∀ f ∈ secF, NoAttr K C f := c.no
    refine ⟨_, pss_cons (ps_fld (pv 0) (pv 1) rfl) (pss_cons (ps_fld (pv 0) (pv 2) rfl) (pss_cons (ps_fld (pv 0) (pv 3) rfl) (pss_one (ps_fld (pv 0) (pe_lst pa_nil) rfl)))), ?_⟩
    refine ⟨_, rfl, _, rfl, x, C, dx, _, rfl, hx, c.cl, m _ (by decide +kernel), (by show 0 < 1000; decide), ?_⟩
    refine ⟨_, rfl, _, rfl, x, C, dx, _, rfl, upd_same, c.cl, m _ (by decide +kernel), (by show 1 < 1000; decide), ?_⟩
    refine ⟨_, rfl, _, rfl, x, C, dx, _, rfl, upd_same, c.cl, m _ (by decide +kernel), (by show 2 < 1000; decide), ?_⟩
    refine ⟨(by show 0 ≤ sizeLine; decide), fun q hq => ⟨_, rfl, x, C, dx, _, rfl, same_upd hq _ _ upd_same, c.cl, m _ (by decide +kernel), (by show 3 < 1000; decide), ?_⟩⟩
    have nx : x ≠ q := ne_of_none upd_same hq
    refine k q _ (fun b o e nb => ?_) ?_ ?_ ?_
    · rw [upd_ne nb]
      refine same_upd hq _ _ ?_
      rw [upd_ne nb, upd_ne nb, upd_ne nb]
      exact e
    · rw [upd_ne nx.symm, upd_ne nx.symm, upd_ne nx.symm] at hq
      exact hq
    · rw [upd_ne nx.symm, upd_same]
    · rw [upd_same]
      rfl
theorem paired_snoc {α β : Type} {R : α → β → Prop} : ∀ {xs : List α} {ys : List β} {x : α} {y : β}, PySem.Paired R xs ys → R x y → PySem.Paired R (xs ++ [x]) (ys ++ [y])
  | _, _, _, _, .nil, h => .cons h .nil
  | _, _, _, _, .cons r t, h => .cons r (paired_snoc t h)
theorem paired_map {α β : Type} {R S : α → β → Prop} (f : ∀ a b, R a b → S a b) : ∀ {xs : List α} {ys : List β}, PySem.Paired R xs ys → PySem.Paired S xs ys
  | _, _, .nil => .nil
  | _, _, .cons r t => .cons (f _ _ r) (paired_map f t)
theorem any_ff {α : Type} (xs : List α) : (xs.map fun _ => false).any id = false := by
  induction xs with
  | nil => rfl
  | cons x xs ih => exact ih
theorem scSigns : FnScope ["thing", "sign"] ["thing"] (defScope sIsSigns) := ⟨rfl, rfl, rfl, by decide +kernel, rfl, by decide +kernel, by decide +kernel⟩
theorem ok_signs {f : Addr} {fd : FuncData} {no : Str} {tn : Tok} (F : Fun K "is_signs" "is_signs" sIsSigns f fd) (T : TxtB mg) (zStr : mg "str" = none) (zAny : mg "any" = none) (hN : mg "NO_SIGNS" = some (.str no tn)) (hno : ∀ c ∈ sgns, (Builtin.Str.occurrences no (⟨#[c]⟩ : Str) 0 no.length 1).isEmpty = true) : FnOk P w K mg base CX0 1 f fd ["thing"] spSigns := by
  refine F.ok scSigns (fun vs H Q E h => ?_) (fun cdv A outer s H vs Q E hr h => ?_)
  · obtain ⟨x, rfl, _⟩ := h
    rfl
  · obtain ⟨x, rfl, hx, k⟩ := h
    refine ⟨_, pss_cons (ps_if (PW.pt (pw_or (pt_not (pt_val (pe_callB call_isi (by rfl) T.isinstance (by decide +kernel) (pa_cons (pv 0) (pa_cons (pe_bltn (v := .ty "str") (by rfl) zStr (by decide +kernel) rfl) pa_nil))))) (pw_or1 (pt_cmpR op_lt (pe_callB call_lenD (by rfl) T.len PySem.boot_len (pa_cons (pe_callTy (call_dictP rfl) (by rfl) T.dict (by decide +kernel) (pa_cons (pe_lc (own := [("sign", 1)]) (g := gName 1) (tt := tYes) (te := tTup (tCons (tVar 1) (tCons (tC (.bl true)) tNil))) rfl scSigns.nd (pi_str (pv 0)) (blkOk_by (N := ["thing", "sign"]) (sc := defScope sIsSigns) (by decide +kernel)) (fun _ _ _ _ _ => pg_name (i := 1) scSigns.nd rfl (Or.inl rfl)) (fun _ _ _ _ _ => pts_nil)
        (fun _ _ _ _ _ => by exact pe_tup (pa_cons (pv 1) (pa_cons pe_bl pa_nil)))) pa_nil)) pa_nil)) (pe_callB call_len_str (by rfl) T.len PySem.boot_len (pa_cons (pv 0) pa_nil)) (nomark _))))) (pss_one (ps_ret pe_bl)) pss_nil)
      (pss_one (ps_ret (pe_not (pe_callB (cr_any rfl) (by rfl) zAny (by decide +kernel) (pa_cons (pe_lc (own := [("sign", 1)]) (g := gName 1) (tt := tYes) (te := tOp (fun x y H Q => ∃ i j, x = .str i ∧ y = .str j ∧ Q (.bl (!(Builtin.Str.occurrences j i 0 j.length 1).isEmpty)) H) (tVar 1) (tC (.str no))) rfl scSigns.nd (pi_str (pv 0)) (blkOk_by (N := ["thing", "sign"]) (sc := defScope sIsSigns) (by decide +kernel)) (fun _ _ _ _ _ => pg_name (i := 1) scSigns.nd rfl (Or.inl rfl)) (fun _ _ _ _ _ => pts_nil)
        (fun _ _ _ _ _ => by exact pe_cmpR op_in_str (pv 1) (pe_glob (v := .str no) rfl hN ⟨tn, rfl⟩) (by rfl))) pa_nil))))), ?_⟩
    have hc := hx.c
    have hl : x.cps.toList.length ≤ 5 ∧ x.length ≤ 5 ∧ decide (((mergeK [] (sgK x)).length : Int) < (x.length : Int)) = false := ⟨hx.l, hx.n, hx.d⟩
    refine ⟨_, rfl, _, .ty "str", _, _, true, rfl, .ty _, .base (.str x), kit_ty (by decide +kernel), _, rfl, iteF ?_⟩
    refine ⟨_, rfl, x, rfl, fun D hD => ?_⟩
    refine lc_it walk_str (fun i H' => Same H H' ∧ ∃ ts : List Addr, ts.length = i ∧ H' D = some (.lst (ts.map V.ref)) ∧ PySem.Paired (fun (t : Addr) (kv : Key × V) => H' t = some (.tup [kV kv.1, kv.2])) ts ((sgK x).take i)) ⟨same_upd hD, [], rfl, upd_same, .nil⟩ (fun _ _ _ _ => trivial) (fun i v H' H'' hi h y => ?_) (fun H1 h => ?_)
    · obtain ⟨rfl, c, hcc, rfl⟩ := y
      obtain ⟨s1, ts, lt, hD1, pp⟩ := h
      have hk : (sgK x)[i]? = some (Sum.inr (⟨#[c]⟩ : Str), V.bl true) := by
        unfold sgK
        rw [List.getElem?_map, Array.getElem?_toList, hcc]
        rfl
      refine ⟨rfl, _, rfl, (by show 2 ≤ sizeLine; decide), fun U hU => ?_⟩
      have eU := same_upd (o := .tup [.str ⟨#[c]⟩, .bl true]) hU
      have nDU : D ≠ U := ne_of_none hD1 hU
      have hil : i < x.cps.toList.length := by simpa using hi
      refine ⟨_, eU _ _ hD1, sz_lt1 (by rw [List.length_map]; exact lt) (show i < 1001 by omega), same_mut (s1.trans eU) hD, ts ++ [U], by rw [List.length_append, lt]; rfl, by rw [upd_same, List.map_append]; rfl, ?_⟩
      rw [take_more' hk]
      refine paired_snoc (paired_map (fun t kv q => ?_) pp) (by rw [upd_ne nDU.symm]; exact upd_same)
      rw [upd_ne (ne_of q hD1 (by intro z; cases z))]
      exact eU _ _ q
    · obtain ⟨s1, ts, lt, hD1, pp⟩ := h
      have ek : (sgK x).take x.cps.size = sgK x := List.take_of_length_le (by unfold sgK; rw [List.length_map]; simp)
      rw [ek] at pp
      refine ⟨D, ts, sgK x, rfl, SqL.of hD1, paired_map (fun t kv q => SqT.of q) pp, fun q hq => ⟨q, _, rfl, upd_same, _, rfl, x, rfl, (by rw [PySem.sizeLine_eq]; omega), _, _, rfl, rfl, _, rfl, ?_⟩⟩
      rw [hl.2.2]
      refine iteF ?_
      have e1 := same_upd2 (o := .dK (mergeK [] (sgK x))) s1 hq
      generalize upd H1 q (.dK (mergeK [] (sgK x))) = G at e1
      refine ⟨_, rfl, x, rfl, fun D2 hD2 => ?_⟩
      refine lc_it walk_str (BlI (fun _ => false) G D2 x.cps.toList) (blI0 hD2) (fun _ _ _ _ => trivial) (fun i v H' H'' hi h y => ?_) (fun H2 h => ?_)
      · obtain ⟨rfl, c, hcc, rfl⟩ := y
        have hcs : c ∈ sgns := hc c (List.mem_of_getElem? (by rw [Array.getElem?_toList]; exact hcc))
        exact ⟨rfl, _, rfl, _, _, rfl, rfl, blI_step hD2 (by rw [Array.getElem?_toList]; exact hcc) h (Same.refl _) (by rw [hno c hcs]; rfl) (by omega)⟩
      · obtain ⟨e2, hD3⟩ := blI_end (by simp) h
        refine ⟨D2, _, rfl, SqL.of hD3, ?_⟩
        rw [any_ff]
        exact ⟨_, rfl, k _ (e1.trans e2)⟩
end
end K67

namespace K67
open PySem L2 PyProof.Rows
/-! ### a parser anew -/
/-- a parser's fields -/
def pFs (pr pf cf : Str) (ab ee : Bool) (aL fi la lf le dd ls : Addr) : List (Str × V) :=
  [("prog", .str pr), ("usage", .non), ("description", .non), ("epilog", .non), ("layout", .ref aL), ("width", .int 78), ("prefix_chars", .str pf), ("file_signs", .str ""), ("files", .ref fi), ("argument_default", .non), ("conflict_handler", .str cf), ("allow_abbrev", .bl ab), ("exit_on_error", .bl ee), ("arguments", .ref la), ("flags", .ref lf), ("exclusives", .ref le), ("defaults", .ref dd), ("commands_argument", .non), ("sections", .ref ls)]
/-- x, an instance in the making: all else that stood is kept -/
structure Bld (CP : Addr) (H H' : Hp) (x dx : Addr) (fs : List (Str × V)) : Prop where
  kp : ∀ b o, H b = some o → b ≠ x → H' b = some o
  at_ : H' x = some (.ins CP dx fs)
theorem Bld.put {K : PySem.W.Frag} {Q : L2.St → Hp → Prop} {σ : L2.St} {CP : Addr} {H H' : Hp} {x dx : Addr} {fs : List (Str × V)} {f : Str} {v : V} {N : List Str} (m : Bld CP H H' x dx fs) (c : ClsN K CP N) (hf : f ∈ N) (hl : fs.length < 1000) (h0 : σ[0]? = some (some (.ref x))) (k : ∀ H2, Bld CP H H2 x dx (putF f v fs) → Q σ H2) :
    gFld K (tVar 0) f v σ H' Q := ⟨_, h0, x, CP, dx, fs, rfl, m.at_, c.cl, c.no _ hf, hl, k _ ⟨fun b o e nb => by rw [upd_ne nb]; exact m.kp b o e nb, upd_same⟩⟩
theorem Bld.keep {CP : Addr} {H H' H2 : Hp} {x dx : Addr} {fs : List (Str × V)} (m : Bld CP H H' x dx fs) (e : Same H' H2) : Bld CP H H2 x dx fs := ⟨fun b o h nb => e _ _ (m.kp b o h nb), e _ _ m.at_⟩
/-- new ones, all apart -/
structure Nw (H H' : Hp) (xs : List Addr) : Prop where
  new : ∀ b ∈ xs, H b = none ∧ ∃ o, H' b = some o
  nd : xs.Nodup
theorem Nw.keep {H H' H2 : Hp} {xs : List Addr} (h : Nw H H' xs) (e : ∀ b o, H' b = some o → ∃ o', H2 b = some o') : Nw H H2 xs := ⟨fun b hb => ⟨(h.new b hb).1, by obtain ⟨o, ho⟩ := (h.new b hb).2; exact e b o ho⟩, h.nd⟩
theorem Nw.same {H H' H2 : Hp} {xs : List Addr} (h : Nw H H' xs) (e : Same H' H2) : Nw H H2 xs := h.keep fun b o q => ⟨o, e _ _ q⟩
theorem Nw.add {H H' : Hp} {xs : List Addr} {p : Addr} {o : HO} (h : Nw H H' xs) (hp : H' p = none) (h0 : H p = none) : Nw H (upd H' p o) (p :: xs) := by
  refine ⟨fun b hb => ?_, List.nodup_cons.mpr ⟨fun q => ?_, h.nd⟩⟩
  · rcases List.mem_cons.mp hb with rfl | hb
    · exact ⟨h0, o, upd_same⟩
    · obtain ⟨o', ho⟩ := (h.new b hb).2
      exact ⟨(h.new b hb).1, o', same_upd hp _ _ ho⟩
  · obtain ⟨o', ho⟩ := (h.new p q).2
    rw [hp] at ho
    cases ho
theorem Nw.grow {H H1 H2 : Hp} {xs : List Addr} {p : Addr} (h : Nw H H1 xs) (e : ∀ b o, H1 b = some o → ∃ o', H2 b = some o') (h0 : H p = none) (h1 : H1 p = none) (h2 : ∃ o, H2 p = some o) : Nw H H2 (p :: xs) := by
  refine ⟨fun b hb => ?_, List.nodup_cons.mpr ⟨fun q => ?_, h.nd⟩⟩
  · rcases List.mem_cons.mp hb with rfl | hb
    · exact ⟨h0, h2⟩
    · exact (h.keep e).new b hb
  · obtain ⟨o', ho⟩ := (h.new p q).2
    rw [h1] at ho
    cases ho
theorem Bld.free {CP : Addr} {H H' : Hp} {x dx p : Addr} {fs : List (Str × V)} (m : Bld CP H H' x dx fs) (h : H' p = none) : H p = none := by
  cases e : H p with
  | none => rfl
  | some o =>
    by_cases nb : p = x
    · rw [nb, m.at_] at h
      cases h
    · rw [m.kp p o e nb] at h
      cases h
structure ParNew (CP CS : Addr) (H H' : Hp) (x dx : Addr) (pr pf cf : Str) (ab ee : Bool) (aL la lf le dd ls s0 s1 m0 m1 : Addr) : Prop where
  kp : ∀ b o, H b = some o → b ≠ x → H' b = some o
  px : ∃ fi, H' x = some (.ins CP dx (pFs pr pf cf ab ee aL fi la lf le dd ls))
  h_la : H' la = some (.lst [])
  h_lf : H' lf = some (.dK [])
  h_le : H' le = some (.lst [])
  h_dd : H' dd = some (.dK [])
  h_ls : H' ls = some (.lst [.ref s0, .ref s1])
  h_s0 : ∃ d v2, H' s0 = some (.ins CS d (sFs (.ref x) v2 .non m0))
  h_s1 : ∃ d v2, H' s1 = some (.ins CS d (sFs (.ref x) v2 .non m1))
  h_m0 : H' m0 = some (.lst [])
  h_m1 : H' m1 = some (.lst [])
  nw : Nw H H' [ls, m1, s1, m0, s0, dd, le, lf, la]
def spParI (CP CS aP aL : Addr) : Sp := fun vs H Q _ => ∃ (x dx : Addr) (pr pf cf : Str) (ab ee : Bool), SgOk pf ∧ pf ≠ "" ∧ vs = [.ref x, .str pr, .non, .non, .non, .ref aP, .ref aL, .int 78, .str pf, .str "", .non, .non, .str cf, .bl false, .bl ab, .bl ee] ∧ H x = some (.ins CP dx []) ∧ (cf = "error" ∨ cf = "resolve") ∧
  ∀ (la lf le dd ls s0 s1 m0 m1 : Addr) (H' : Hp), ParNew CP CS H H' x dx pr pf cf ab ee aL la lf le dd ls s0 s1 m0 m1 → Q .non H'
section
variable {P : Program} {w : World} {K : PySem.W.Frag} {mg : Str → Option Value} {base : Heap}
abbrev pParI : List Str := ["self", "prog", "usage", "description", "epilog", "parents", "layout", "width", "prefix_chars", "fromfile_prefix_chars", "files", "argument_default", "conflict_handler", "add_help", "allow_abbrev", "exit_on_error"]
abbrev nParI : List Str := pParI ++ (["sign", "options", "parent", "word"] : List Str)
theorem scParI : FnScope nParI pParI (defScope sParI) := ⟨rfl, rfl, rfl, by decide +kernel, rfl, by decide +kernel, by decide +kernel⟩
theorem ok_parI {dvs : List V} {kws : List (Str × V)} {f fR fI fG fCp fS CP CS aP aL : Addr} {fd fdR fdI fdG fdCp fdS : FuncData} (F : FunD K "__init__" "Parser.__init__" (defArgs sParI) (defBody sParI) (defScope sParI) dvs kws f fd) (T : TxtB mg) (zStr : mg "str" = none) (cP : ClsN K CP parF)
    (hP : ∀ H, SqT K H aP []) (hL : ∀ H, SqT K H aL []) (tL : ∀ H, TyX K H (.ref aL) (.type "tuple"))
    (R : At P w K mg base "is_row" 1 ["thing"] (spIsRow K) fR fdR) (I : At P w K mg base "is_integer" 1 ["thing"] (spIsInt K) fI fdI) (G : At P w K mg base "is_signs" 1 ["thing"] spSigns fG fdG) (Cp : At P w K mg base "copied" 4 ["value"] (spCop 3) fCp fdCp)
    (mS : mg "Section" = some (.ref CS)) (MS : Mk K CS fS) (GS : FnOk P w K mg base CX0 1 fS fdS ["self", "home", "title", "description"] (spSecI CS)) (bS : Binds K fdS ["self", "home", "title", "description"] []) :
    FnOk P w K mg base CX0 5 f fd pParI (spParI CP CS aP aL) := by
  refine F.ok scParI (fun vs H Q E h => ?_) (fun cdv A0 outer s H vs Q E hr h => ?_)
  · obtain ⟨x, dx, pr, pf, cf, ab, ee, _, _, rfl, _⟩ := h
    rfl
  · obtain ⟨x, dx, pr, pf, cf, ab, ee, hsg, hpn, rfl, hx, hcf, k⟩ := h
    have r1 : Room 1 (A0.deeper (PyProof.Rows.envOfC "Parser.__init__" (defScope sParI) s.heap.objs.size f cdv)) := hr.mono (by decide)
    have r2 : Room 2 (A0.deeper (PyProof.Rows.envOfC "Parser.__init__" (defScope sParI) s.heap.objs.size f cdv)) := hr.mono (by decide)
    refine ⟨_, PSs.nox (pss_cons (ps_if (PW.pt (pw_or (pt_not (pt_val (pe_call R.ok r1 rfl R.m R.k R.b .nil pass0 (pa_cons (pv 6) pa_nil)))) (pw_or1 (pt_not (pt_val (pe_callB (cr_all rfl) (by rfl) T.all (by decide +kernel) (pa_cons (pe_lc (own := [("word", 19)]) (g := gName 19) (tt := tYes) (te := fun _ _ _ => False) rfl scParI.nd (pi_tup (pv 6)) (blkOk_by (N := nParI) (sc := defScope sParI) (by decide +kernel)) (fun _ _ _ _ _ => pg_name (i := 19) scParI.nd rfl (Or.inl rfl)) (fun _ _ _ _ _ => pts_nil)
        (fun _ _ _ _ _ => by exact pe_never)) pa_nil))))))) pss_never pss_nil)
      (pss_cons (ps_if (PW.pt (pw_or (pt_not (pt_val (pe_call I.ok r1 rfl I.m I.k I.b .nil pass0 (pa_cons (pv 7) pa_nil)))) (pw_or1 (pt_cmpR op_lt (pv 7) pe_int (nomark _))))) pss_never pss_nil)
      (pss_cons (ps_if (PW.pt (pw_or (pt_not (pt_val (pe_call G.ok r1 rfl G.m G.k G.b .nil pass0 (pa_cons (pv 8) pa_nil)))) (pw_or1 (pt_cmpR op_eq (pv 8) pe_str (nomark _))))) pss_never pss_nil)
      (pss_cons (ps_if (pt_not (pt_val (pe_call G.ok r1 rfl G.m G.k G.b .nil pass0 (pa_cons (pv 9) pa_nil)))) pss_never pss_nil)
      (pss_cons (ps_if (PW.pt (pw_or (pt_not (pt_val (pe_callB call_isi (by rfl) T.isinstance (by decide +kernel) (pa_cons (pv 12) (pa_cons (pe_bltn (v := .ty "str") (by rfl) zStr (by decide +kernel) rfl) pa_nil))))) (pw_or1 (pt_cmpR op_notIn_seq (pv 12) (pe_tup (pa_cons pe_str (pa_cons pe_str pa_nil))) (by rfl))))) pss_never pss_nil)
      (pss_mid (ps_asg (pe_tup (pa_cons (pv 1) (pa_cons (pv 2) (pa_cons (pv 3) (pa_cons (pv 4) pa_nil))))) (pg_tup rfl (pgs_cons (pg_fld (pv 0)) (pgs_cons (pg_fld (pv 0)) (pgs_cons (pg_fld (pv 0)) (pgs_cons (pg_fld (pv 0)) pgs_nil))))))
      (pss_mid (ps_asg (pe_tup (pa_cons (pe_callTy call_tuple_of (by rfl) T.tuple (by decide +kernel) (pa_cons (pv 6) pa_nil)) (pa_cons (pv 7) (pa_cons (pv 8) pa_nil)))) (pg_tup rfl (pgs_cons (pg_fld (pv 0)) (pgs_cons (pg_fld (pv 0)) (pgs_cons (pg_fld (pv 0)) pgs_nil)))))
      (pss_mid (ps_asg (pe_tup (pa_cons (pv 9) (pa_cons (pe_ifExp (pt_cmp (pc_isN (pv 10))) pe_dnewK pe_never) pa_nil))) (pg_tup rfl (pgs_cons (pg_fld (pv 0)) (pgs_cons (pg_fld (pv 0)) pgs_nil))))
      (pss_mid (ps_asg (pe_tup (pa_cons (pe_call Cp.ok hr rfl Cp.m Cp.k Cp.b .nil pass0 (pa_cons (pv 11) pa_nil)) (pa_cons (pv 12) pa_nil))) (pg_tup rfl (pgs_cons (pg_fld (pv 0)) (pgs_cons (pg_fld (pv 0)) pgs_nil))))
      (pss_mid (ps_asg (pe_tup (pa_cons (pv 14) (pa_cons (pv 15) pa_nil))) (pg_tup rfl (pgs_cons (pg_fld (pv 0)) (pgs_cons (pg_fld (pv 0)) pgs_nil))))
      (pss_mid (ps_asg (pe_tup (pa_cons (pe_lst pa_nil) (pa_cons pe_dnewK (pa_cons (pe_lst pa_nil) (pa_cons pe_dnewK pa_nil))))) (pg_tup rfl (pgs_cons (pg_fld (pv 0)) (pgs_cons (pg_fld (pv 0)) (pgs_cons (pg_fld (pv 0)) (pgs_cons (pg_fld (pv 0)) pgs_nil))))))
      (pss_mid (ps_fld (pv 0) pe_non rfl)
      (pss_mid (ps_fld (pv 0) (pe_lst (pa_cons (pe_make MS GS r2 rfl mS bS .nil pass0 (pa_cons (pv 0) (pa_cons pe_str (pa_cons pe_non pa_nil)))) (pa_cons (pe_make MS GS r2 rfl mS bS .nil pass0 (pa_cons (pv 0) (pa_cons pe_str (pa_cons pe_non pa_nil)))) pa_nil))) rfl)
      (pss_cons (ps_if (pt_val (pv 13)) pss_never pss_nil)
      (pss_one (ps_for PassesOwn.never rfl (pi_tup (pv 5)) (pg_name (i := 18) scParI.nd rfl (Or.inl rfl)) pss_never)))))))))))))))), ?_⟩
    -- layout
    refine ⟨_, rfl, .ref aL, "tuple", true, rfl, tL H, by decide +kernel, fun H1 e1 => ⟨_, rfl, iteF ?_⟩⟩
    refine ⟨_, rfl, aL, rfl, ⟨[], hL _⟩, fun D hD => ?_⟩
    refine lc_tup (K := K) (a := aL) (xs := []) (g := gName 19) (tt := tYes) (te := fun _ _ _ => False) (vs := [19]) (fun _ H' => Same H1 H' ∧ H' D = some (.lst [])) ⟨same_upd hD, upd_same⟩ (fun i H' _ _ => hL _) (fun i x H' hx h => by simp at hx) (fun H2 h => ?_)
    obtain ⟨e2, hl⟩ := h
    refine ⟨D, [], rfl, SqL.of hl, ⟨_, rfl, iteF ?_⟩⟩
    have e12 := e1.trans e2
    -- width
    refine ⟨_, rfl, .int 78, "int", true, false, rfl, .base (.int 78), by decide +kernel, by decide +kernel, ⟨_, rfl, iteF ?_⟩⟩
    refine ⟨_, rfl, _, _, rfl, rfl, _, rfl, iteF ?_⟩
    -- signs
    refine ⟨_, rfl, pf, rfl, hsg, fun H3 e3 => ⟨_, rfl, iteF ?_⟩⟩
    refine ⟨_, rfl, rfl, false, congrArg V.bl (decide_eq_false fun q => hpn (V.str.inj q)), iteF ?_⟩
    refine ⟨_, rfl, "", rfl, sg_none, fun H4 e4 => ⟨_, rfl, iteF ?_⟩⟩
    -- handler
    refine ⟨_, rfl, _, .ty "str", _, _, true, rfl, .ty _, .base (.str cf), kit_ty (by decide +kernel), _, rfl, iteF ?_⟩
    refine ⟨_, rfl, (by show 2 ≤ sizeLine; decide), fun p hp => ⟨p, _, rfl, .inr (SqT.of upd_same), rfl, by decide +kernel, false, ?_, iteF ?_⟩⟩
    · rcases hcf with rfl | rfl <;> rfl
    have e5 := (e12.trans (e3.trans e4)).trans (same_upd (o := .tup [.str "error", .str "resolve"]) hp)
    generalize upd H4 p (.tup [.str "error", .str "resolve"]) = H5 at e5
    have B5 : Bld CP H H5 x dx [] := ⟨fun b o e _ => e5 _ _ e, e5 _ _ hx⟩
    generalize hσ : (start nParI [.ref x, .str pr, .non, .non, .non, .ref aP, .ref aL, .int 78, .str pf, .str "", .non, .non, .str cf, .bl false, .bl ab, .bl ee] : L2.St) = σ5
    have s0 : σ5[0]? = some (some (.ref x)) := by rw [← hσ]; rfl
    have s1 : σ5[1]? = some (some (.str pr)) := by rw [← hσ]; rfl
    have s2 : σ5[2]? = some (some (.non)) := by rw [← hσ]; rfl
    have s3 : σ5[3]? = some (some (.non)) := by rw [← hσ]; rfl
    have s4 : σ5[4]? = some (some (.non)) := by rw [← hσ]; rfl
    have s5 : σ5[5]? = some (some (.ref aP)) := by rw [← hσ]; rfl
    have s6 : σ5[6]? = some (some (.ref aL)) := by rw [← hσ]; rfl
    have s7 : σ5[7]? = some (some (.int 78)) := by rw [← hσ]; rfl
    have s8 : σ5[8]? = some (some (.str pf)) := by rw [← hσ]; rfl
    have s9 : σ5[9]? = some (some (.str "")) := by rw [← hσ]; rfl
    have s10 : σ5[10]? = some (some (.non)) := by rw [← hσ]; rfl
    have s11 : σ5[11]? = some (some (.non)) := by rw [← hσ]; rfl
    have s12 : σ5[12]? = some (some (.str cf)) := by rw [← hσ]; rfl
    have s13 : σ5[13]? = some (some (.bl false)) := by rw [← hσ]; rfl
    have s14 : σ5[14]? = some (some (.bl ab)) := by rw [← hσ]; rfl
    have s15 : σ5[15]? = some (some (.bl ee)) := by rw [← hσ]; rfl
    -- prog ..
    refine ⟨fun σ' H' => σ5 = σ' ∧ Bld CP H H' x dx ([("prog", .str pr), ("usage", .non), ("description", .non), ("epilog", .non)]), ?_, ?_⟩
    · refine ⟨_, s1, _, s2, _, s3, _, s4, (by show 4 ≤ sizeLine; decide), fun W hW => ?_⟩
      have M := B5.keep (same_upd (o := .tup [.str pr, .non, .non, .non]) hW)
      exact ⟨W, _, rfl, SqT.of upd_same, rfl, _, _, rfl, M.put cP (by decide +kernel) (by show 0 < 1000; decide) s0 fun H' M1 => ⟨_, _, rfl, M1.put cP (by decide +kernel) (by show 1 < 1000; decide) s0 fun H' M2 => ⟨_, _, rfl, M2.put cP (by decide +kernel) (by show 2 < 1000; decide) s0 fun H' M3 => ⟨_, _, rfl, M3.put cP (by decide +kernel) (by show 3 < 1000; decide) s0 fun H' M4 => ⟨rfl, rfl, M4⟩⟩⟩⟩⟩
    rintro _ H6 ⟨rfl, B6⟩
    -- layout ..
    refine ⟨fun σ' H' => σ5 = σ' ∧ Bld CP H H' x dx ([("prog", .str pr), ("usage", .non), ("description", .non), ("epilog", .non), ("layout", .ref aL), ("width", .int 78), ("prefix_chars", .str pf)]), ?_, ?_⟩
    · refine ⟨_, s6, aL, _, rfl, .inr ⟨hL _, _, s7, _, s8, (by show 3 ≤ sizeLine; decide), fun W hW => ?_⟩⟩
      have M := B6.keep (same_upd (o := .tup [.ref aL, .int 78, .str pf]) hW)
      exact ⟨W, _, rfl, SqT.of upd_same, rfl, _, _, rfl, M.put cP (by decide +kernel) (by show 4 < 1000; decide) s0 fun H' M5 => ⟨_, _, rfl, M5.put cP (by decide +kernel) (by show 5 < 1000; decide) s0 fun H' M6 => ⟨_, _, rfl, M6.put cP (by decide +kernel) (by show 6 < 1000; decide) s0 fun H' M7 => ⟨rfl, rfl, M7⟩⟩⟩⟩
    rintro _ H7 ⟨rfl, B7⟩
    -- files
    refine ⟨fun σ' H' => σ5 = σ' ∧ ∃ fi, Bld CP H H' x dx ([("prog", .str pr), ("usage", .non), ("description", .non), ("epilog", .non), ("layout", .ref aL), ("width", .int 78), ("prefix_chars", .str pf), ("file_signs", .str ""), ("files", .ref fi)]), ?_, ?_⟩
    · refine ⟨_, s9, _, s10, true, rfl, iteT fun fi hfi => ⟨(by show 2 ≤ sizeLine; decide), fun W hW => ?_⟩⟩
      have M := (B7.keep (same_upd (o := .dK []) hfi)).keep (same_upd (o := .tup [.str "", .ref fi]) hW)
      exact ⟨W, _, rfl, SqT.of upd_same, rfl, _, _, rfl, M.put cP (by decide +kernel) (by show 7 < 1000; decide) s0 fun H' M8 => ⟨_, _, rfl, M8.put cP (by decide +kernel) (by show 8 < 1000; decide) s0 fun H' M9 => ⟨rfl, rfl, fi, M9⟩⟩⟩
    rintro _ H8 ⟨rfl, fi, B8⟩
    -- argument_default
    refine ⟨fun σ' H' => σ5 = σ' ∧ Bld CP H H' x dx ([("prog", .str pr), ("usage", .non), ("description", .non), ("epilog", .non), ("layout", .ref aL), ("width", .int 78), ("prefix_chars", .str pf), ("file_signs", .str ""), ("files", .ref fi), ("argument_default", .non), ("conflict_handler", .str cf)]), ?_, ?_⟩
    · refine ⟨_, s11, .non, .none, rfl, .non, Nat.zero_le _, rfl, fun v' N H' e F t => ?_⟩
      cases t
      refine ⟨_, s12, (by show 2 ≤ sizeLine; decide), fun W hW => ?_⟩
      have M := (B8.keep e).keep (same_upd (o := .tup [.non, .str cf]) hW)
      exact ⟨W, _, rfl, SqT.of upd_same, rfl, _, _, rfl, M.put cP (by decide +kernel) (by show 9 < 1000; decide) s0 fun H' M10 => ⟨_, _, rfl, M10.put cP (by decide +kernel) (by show 10 < 1000; decide) s0 fun H' M11 => ⟨rfl, rfl, M11⟩⟩⟩
    rintro _ H9 ⟨rfl, B9⟩
    -- allow_abbrev
    refine ⟨fun σ' H' => σ5 = σ' ∧ Bld CP H H' x dx ([("prog", .str pr), ("usage", .non), ("description", .non), ("epilog", .non), ("layout", .ref aL), ("width", .int 78), ("prefix_chars", .str pf), ("file_signs", .str ""), ("files", .ref fi), ("argument_default", .non), ("conflict_handler", .str cf), ("allow_abbrev", .bl ab), ("exit_on_error", .bl ee)]), ?_, ?_⟩
    · refine ⟨_, s14, _, s15, (by show 2 ≤ sizeLine; decide), fun W hW => ?_⟩
      have M := B9.keep (same_upd (o := .tup [.bl ab, .bl ee]) hW)
      exact ⟨W, _, rfl, SqT.of upd_same, rfl, _, _, rfl, M.put cP (by decide +kernel) (by show 11 < 1000; decide) s0 fun H' M12 => ⟨_, _, rfl, M12.put cP (by decide +kernel) (by show 12 < 1000; decide) s0 fun H' M13 => ⟨rfl, rfl, M13⟩⟩⟩
    rintro _ H10 ⟨rfl, B10⟩
    -- the lists
    refine ⟨fun σ' H' => σ5 = σ' ∧ ∃ G la lf le dd, Bld CP H G x dx ([("prog", .str pr), ("usage", .non), ("description", .non), ("epilog", .non), ("layout", .ref aL), ("width", .int 78), ("prefix_chars", .str pf), ("file_signs", .str ""), ("files", .ref fi), ("argument_default", .non), ("conflict_handler", .str cf), ("allow_abbrev", .bl ab), ("exit_on_error", .bl ee)]) ∧ Bld CP G H' x dx ([("prog", .str pr), ("usage", .non), ("description", .non), ("epilog", .non), ("layout", .ref aL), ("width", .int 78), ("prefix_chars", .str pf), ("file_signs", .str ""), ("files", .ref fi), ("argument_default", .non), ("conflict_handler", .str cf), ("allow_abbrev", .bl ab), ("exit_on_error", .bl ee), ("arguments", .ref la), ("flags", .ref lf), ("exclusives", .ref le), ("defaults", .ref dd)]) ∧ G la = some (.lst []) ∧ G lf = some (.dK []) ∧ G le = some (.lst []) ∧ G dd = some (.dK []) ∧ Nw H G [dd, le, lf, la], ?_, ?_⟩
    · refine ⟨(by show 0 ≤ sizeLine; decide), fun la hla lf hlf => ⟨(by show 0 ≤ sizeLine; decide), fun le hle dd hdd => ⟨(by show 4 ≤ sizeLine; decide), fun W hW => ?_⟩⟩⟩
      have N0 : Nw H H10 [] := ⟨(fun b hb => nomatch hb), List.nodup_nil⟩
      have M1 := B10.keep (same_upd (o := .lst []) hla)
      have N1 := N0.add (o := .lst []) hla (B10.free hla)
      have t1 : upd H10 la (.lst []) la = _ := upd_same
      generalize upd H10 la (.lst []) = G1 at *
      have M2 := M1.keep (same_upd (o := .dK []) hlf)
      have N2 := N1.add (o := .dK []) hlf (M1.free hlf)
      have t2 := same_upd (o := .dK []) hlf _ _ t1
      have t3 : upd G1 lf (.dK []) lf = _ := upd_same
      generalize upd G1 lf (.dK []) = G2 at *
      have M3 := M2.keep (same_upd (o := .lst []) hle)
      have N3 := N2.add (o := .lst []) hle (M2.free hle)
      have e3 := same_upd (o := .lst []) hle
      have t4 : upd G2 le (.lst []) le = _ := upd_same
      generalize upd G2 le (.lst []) = G3 at *
      have M4 := M3.keep (same_upd (o := .dK []) hdd)
      have N4 := N3.add (o := .dK []) hdd (M3.free hdd)
      have e4 := same_upd (o := .dK []) hdd
      have t5 : upd G3 dd (.dK []) dd = _ := upd_same
      generalize upd G3 dd (.dK []) = G4 at *
      have e5 := same_upd (o := .tup [.ref la, .ref lf, .ref le, .ref dd]) hW
      have eG := (e3.trans e4).trans e5
      have M5 := M4.keep e5
      refine ⟨W, _, rfl, SqT.of upd_same, rfl, _, _, rfl, ?_⟩
      have N5 := N4.same e5
      have M : Bld CP _ _ x dx _ := ⟨fun b o e _ => e, M5.at_⟩
      exact M.put cP (by decide +kernel) (by show 13 < 1000; decide) s0 fun H' M14 => ⟨_, _, rfl, M14.put cP (by decide +kernel) (by show 14 < 1000; decide) s0 fun H' M15 => ⟨_, _, rfl, M15.put cP (by decide +kernel) (by show 15 < 1000; decide) s0 fun H' M16 => ⟨_, _, rfl, M16.put cP (by decide +kernel) (by show 16 < 1000; decide) s0 fun H' M17 => ⟨rfl, rfl, _, la, lf, le, dd, M5, M17, eG _ _ t2, eG _ _ t3, (e4.trans e5) _ _ t4, e5 _ _ t5, N5⟩⟩⟩⟩
    rintro _ H11 ⟨rfl, G, la, lf, le, dd, BG, B11, g1, g2, g3, g4, N⟩
    -- commands_argument
    refine ⟨fun σ' H' => σ5 = σ' ∧ Bld CP G H' x dx ([("prog", .str pr), ("usage", .non), ("description", .non), ("epilog", .non), ("layout", .ref aL), ("width", .int 78), ("prefix_chars", .str pf), ("file_signs", .str ""), ("files", .ref fi), ("argument_default", .non), ("conflict_handler", .str cf), ("allow_abbrev", .bl ab), ("exit_on_error", .bl ee), ("arguments", .ref la), ("flags", .ref lf), ("exclusives", .ref le), ("defaults", .ref dd), ("commands_argument", .non)]), ?_, ?_⟩
    · exact B11.put cP (by decide +kernel) (by show 17 < 1000; decide) s0 fun H' M => ⟨rfl, M⟩
    rintro _ H12 ⟨rfl, B12⟩
    have N12 : Nw H H12 [dd, le, lf, la] := N.keep fun b o e => by
      by_cases nb : b = x
      · exact ⟨_, by rw [nb]; exact B12.at_⟩
      · exact ⟨_, B12.kp b o e nb⟩
    have fr : ∀ {p}, H12 p = none → H p = none := fun e => BG.free (B12.free e)
    -- sections
    refine ⟨fun σ' H' => σ5 = σ' ∧ ∃ ls s0 s1 m0 m1, ParNew CP CS H H' x dx pr pf cf ab ee aL la lf le dd ls s0 s1 m0 m1, ?_, ?_⟩
    · refine ⟨_, s0, fun a0 d0 ha0 hd0 ne0 => ⟨a0, d0, _, _, _, rfl, upd_same, fun m0 K1 kp1 nm0 hm0 hs0 => ⟨rfl, ?_⟩⟩⟩
      have q1 : Same H12 (upd (upd H12 d0 (.own a0)) a0 (.ins CS d0 [])) := same_upd2 (same_upd hd0) (by rw [upd_ne ne0.symm]; exact ha0)
      have N13 := N12.grow (p := a0) (fun b o e => ⟨o, q1 _ _ e⟩) (fr ha0) ha0 ⟨_, upd_same⟩
      have N14 := N13.grow (p := m0) (H2 := K1) (fun b o e => by
        by_cases nb : b = a0
        · exact ⟨_, by rw [nb]; exact hs0⟩
        · exact ⟨_, kp1 b o e nb⟩) (fr (Same.free q1 nm0)) nm0 ⟨_, hm0⟩
      have q2 : Same H12 K1 := fun b o e => kp1 _ _ (q1 _ _ e) (ne_of_none e ha0)
      have fr2 : ∀ {p}, K1 p = none → H p = none := fun e => fr (Same.free q2 e)
      clear kp1 q1 N13
      refine ⟨_, s0, fun a1 d1 ha1 hd1 ne1 => ⟨a1, d1, _, _, _, rfl, upd_same, fun m1 K2 kp2 nm1 hm1 hs1 => ⟨rfl, ?_⟩⟩⟩
      have q3 : Same K1 (upd (upd K1 d1 (.own a1)) a1 (.ins CS d1 [])) := same_upd2 (same_upd hd1) (by rw [upd_ne ne1.symm]; exact ha1)
      have N15 := N14.grow (p := a1) (fun b o e => ⟨o, q3 _ _ e⟩) (fr2 ha1) ha1 ⟨_, upd_same⟩
      have N16 := N15.grow (p := m1) (H2 := K2) (fun b o e => by
        by_cases nb : b = a1
        · exact ⟨_, by rw [nb]; exact hs1⟩
        · exact ⟨_, kp2 b o e nb⟩) (fr2 (Same.free q3 nm1)) nm1 ⟨_, hm1⟩
      have q4 : Same K1 K2 := fun b o e => kp2 _ _ (q3 _ _ e) (ne_of_none e ha1)
      clear kp2 q3 N15
      refine ⟨(by show 2 ≤ sizeLine; decide), fun ls hls => ?_⟩
      have N17 := N16.add (o := .lst [.ref a0, .ref a1]) hls (fr2 (Same.free q4 hls))
      have q5 := same_upd (o := .lst [.ref a0, .ref a1]) hls
      have tl : upd K2 ls (.lst [.ref a0, .ref a1]) ls = _ := upd_same
      generalize upd K2 ls (.lst [.ref a0, .ref a1]) = K3 at *
      have q6 := q4.trans q5
      have q7 := q2.trans q6
      have M := B12.keep q7
      have M0 : Bld CP K3 K3 x dx _ := ⟨fun b o e _ => e, M.at_⟩
      have nx : ∀ {b}, b ∈ [ls, m1, a1, m0, a0, dd, le, lf, la] → b ≠ x := fun hb z => by
        have := (N17.new _ hb).1
        rw [z, hx] at this
        cases this
      refine M0.put cP (by decide +kernel) (by show 18 < 1000; decide) s0 fun K4 M4 => ⟨rfl, ls, a0, a1, m0, m1, ?_⟩
      have gg : ∀ {b o}, b ∈ [ls, m1, a1, m0, a0, dd, le, lf, la] → G b = some o → K4 b = some o := fun hb e => M4.kp _ _ (q7 _ _ (B12.kp _ _ e (nx hb))) (nx hb)
      exact ⟨fun b o e nb => M4.kp _ _ (q7 _ _ (B12.kp _ _ (BG.kp _ _ e nb) nb)) nb, ⟨fi, M4.at_⟩, gg (by simp) g1, gg (by simp) g2, gg (by simp) g3, gg (by simp) g4, M4.kp _ _ tl (nx (by simp)), ⟨d0, _, M4.kp _ _ (q6 _ _ hs0) (nx (by simp))⟩, ⟨d1, _, M4.kp _ _ (q5 _ _ hs1) (nx (by simp))⟩, M4.kp _ _ (q6 _ _ hm0) (nx (by simp)), M4.kp _ _ (q5 _ _ hm1) (nx (by simp)), N17.keep fun b o e => by
        by_cases nb : b = x
        · exact ⟨_, by rw [nb]; exact M4.at_⟩
        · exact ⟨_, M4.kp b o e nb⟩⟩
    rintro _ H13 ⟨rfl, ls, sa, sb, m0, m1, PN⟩
    refine ⟨_, s13, _, rfl, iteF ⟨_, s5, aP, rfl, ⟨[], hP _⟩, ?_⟩⟩
    exact for_tup (K := K) (a := aP) (xs := []) (g := gName 18) (tb := fun _ _ _ => False) (D := { nx := fun _ H' => Q .non H', rt := Q }) (fun _ _ H' => H' = H13) rfl (fun _ _ _ _ _ => hP _) (fun i y _ _ hy _ => by simp at hy) (fun _ H' e => by subst e; exact k la lf le dd ls sa sb m0 m1 _ PN)
end
end K67

namespace K67
open PySem L2 PyProof.Rows
/-! ### join, where nothing clashes -/
theorem valV_cons {j k : Key} {v : V} {r : List (Key × V)} : valV ((j, v) :: r) k = if j = k then some v else valV r k := by
  unfold valV
  rw [List.find?_cons]
  by_cases e : j = k
  · rw [decide_eq_true e, if_pos e]
    rfl
  · rw [decide_eq_false e, if_neg e]
theorem ne_inr {a b : Str} (h : a ≠ b) : ¬ (Sum.inr a : Key) = Sum.inr b := fun z => h (Sum.inr.inj z)
theorem key_isSome {w : Str} : ∀ {kvs : List (Key × V)} {ks : List Str}, kvs.map (·.1) = ks.map Sum.inr → (valV kvs (Sum.inr w : Key)).isSome = decide (w ∈ ks)
  | [], [], _ => rfl
  | [], k :: ks, h => nomatch h
  | p :: kvs, [], h => nomatch h
  | (j, v) :: kvs, k :: ks, h => by
    have h1 : j = Sum.inr k := (List.cons.inj h).1
    have ih := key_isSome (w := w) (List.cons.inj h).2
    rw [valV_cons, h1]
    by_cases e : k = w
    · rw [if_pos (congrArg Sum.inr e), e]
      simp
    · rw [if_neg (ne_inr e), ih]
      have : w ≠ k := fun z => e z.symm
      simp [this]
def kO (O : Addr) (f : Str) : Key × V := (Sum.inr f, .ref O)
theorem filter_more {α : Type} {f : α → Bool} {l : List α} {i : Nat} {x : α} (h : l[i]? = some x) : (l.take (i + 1)).filter f = (l.take i).filter f ++ (if f x = true then [x] else []) := by
  rw [take_more' h, List.filter_append]
  cases e : f x <;> simp [e]
theorem rest_none {rest : List (Key × V)} {rk : List Str} {x : Str} (hr : rest.map (·.1) = rk.map Sum.inr) (hx : x ∉ rk) : valV rest (Sum.inr x : Key) = none := by
  have h := key_isSome (w := x) hr
  rw [decide_eq_false hx] at h
  exact Option.not_isSome_iff_eq_none.mp (by rw [h]; exact Bool.false_ne_true)
theorem nodup_take : ∀ {l : List Str} {i : Nat} {x : Str}, l.Nodup → l[i]? = some x → x ∉ l.take i := fun {l i x} nd hx hm => by
  have hi := (List.getElem?_eq_some_iff.mp hx).1
  have e := (List.getElem?_eq_some_iff.mp hx).2
  obtain ⟨j, hj, ej⟩ := List.getElem_of_mem hm
  rw [List.getElem_take] at ej
  rw [List.length_take] at hj
  have := (List.getElem_inj nd).mp (ej.trans e.symm)
  omega
/-- where a parser's parts stand -/
structure PAd where
  p : Addr
  dx : Addr
  la : Addr
  lf : Addr
  le : Addr
  dd : Addr
  ls : Addr
  s0 : Addr
  s1 : Addr
  m0 : Addr
  m1 : Addr
  aL : Addr
  fi : Addr
  ab : Bool
  pf : Str
  ee : Bool
structure ParAt (CP CS : Addr) (a : PAd) (H : Hp) (kvs : List (Key × V)) (as ns ms : List V) : Prop where
  px : H a.p = some (.ins CP a.dx (pFs "p" a.pf "error" a.ab a.ee a.aL a.fi a.la a.lf a.le a.dd a.ls))
  hla : H a.la = some (.lst as)
  hlf : H a.lf = some (.dK kvs)
  hdd : H a.dd = some (.dK [])
  hls : H a.ls = some (.lst [.ref a.s0, .ref a.s1])
  hs0 : ∃ d v, H a.s0 = some (.ins CS d (sFs (.ref a.p) v .non a.m0))
  hs1 : ∃ d v, H a.s1 = some (.ins CS d (sFs (.ref a.p) v .non a.m1))
  hm0 : H a.m0 = some (.lst ns)
  hm1 : H a.m1 = some (.lst ms)
  hle : H a.le = some (.lst [])
  n1 : a.la ≠ a.m1 ∧ a.la ≠ a.m0 ∧ a.m0 ≠ a.m1
  n2 : a.ls ≠ a.la ∧ a.ls ≠ a.m0 ∧ a.ls ≠ a.m1
  n4 : a.lf ≠ a.dd
  n5 : a.le ≠ a.la ∧ a.le ≠ a.m0 ∧ a.le ≠ a.m1
theorem ParAt.keep {CP CS : Addr} {a : PAd} {H H' : Hp} {kvs : List (Key × V)} {as ns ms : List V} (h : ParAt CP CS a H kvs as ns ms) (e : Same H H') : ParAt CP CS a H' kvs as ns ms := by
  obtain ⟨d, v, s⟩ := h.hs1
  obtain ⟨d0, v0, s0⟩ := h.hs0
  exact ⟨e _ _ h.px, e _ _ h.hla, e _ _ h.hlf, e _ _ h.hdd, e _ _ h.hls, ⟨d0, v0, e _ _ s0⟩, ⟨d, v, e _ _ s⟩, e _ _ h.hm0, e _ _ h.hm1, e _ _ h.hle, h.n1, h.n2, h.n4, h.n5⟩
def okA (fl : List Str) : Prop := fl.length ≤ 60
def spJoin (CP CS CA : Addr) : Sp := fun vs H Q _ => ∃ (a : PAd) (A : Addr) (as ns ms : List V) (rk : List Str) (rest : List (Key × V)) (dA TA : Addr) (afs : List (Str × V)) (fl : List Str), vs = [.ref a.p, .ref A, .non, .non] ∧
  ParAt CP CS a H rest as ns ms ∧ rest.map (·.1) = rk.map Sum.inr ∧ H A = some (.ins CA dA afs) ∧ afs.lookup ("flags" : Str) = some (V.ref TA) ∧ afs.lookup ("is_option" : Str) = some (V.bl (!fl.isEmpty)) ∧ H TA = some (.tup (fl.map V.str)) ∧ okA fl ∧ fl.Nodup ∧ (∀ x ∈ fl, x ∉ rk) ∧
  as.length ≤ 100 ∧ ns.length ≤ 100 ∧ ms.length ≤ 100 ∧ rk.length ≤ 100 ∧
  ∀ H' ns' ms', (∀ b o, H b = some o → b ≠ a.la → b ≠ a.lf → b ≠ a.m0 → b ≠ a.m1 → H' b = some o) → ns'.length ≤ ns.length + 1 → ms'.length ≤ ms.length + 1 → ParAt CP CS a H' (rest ++ fl.map (kO A)) (as ++ [.ref A]) ns' ms' → Q .non H'
section
variable {P : Program} {w : World} {K : PySem.W.Frag} {mg : Str → Option Value} {base : Heap}
abbrev nJoin : List Str := ["self", "argument", "section", "exclusive", "flag", "clash", "home"]
theorem scJoin : FnScope nJoin ["self", "argument", "section", "exclusive"] (defScope sJoin) := ⟨rfl, rfl, rfl, by decide +kernel, rfl, by decide +kernel, by decide +kernel⟩
theorem ok_join {f CP CS CA : Addr} {fd : FuncData} (F : Fun K "join" "Parser.join" sJoin f fd) (T : TxtB mg) (cP : ClsN K CP parF) (cA : ClsN K CA argF) (cS : ClsN K CS secF) : FnOk P w K mg base CX0 2 f fd ["self", "argument", "section", "exclusive"] (spJoin CP CS CA) := by
  refine F.ok scJoin (fun vs H Q E h => ?_) (fun cdv A0 outer s H vs Q E hr h => ?_)
  · obtain ⟨a, A, as, ns, ms, rk, rest, dA, TA, afs, fl, rfl, _⟩ := h
    rfl
  · obtain ⟨a, A, as, ns, ms, rk, rest, dA, TA, afs, fl, rfl, hp, hrk, hA, fA, iA, hTA, okf, nd, dis, la1, ln1, lm1, lr1, k⟩ := h
    have hu : (A0.deeper (PyProof.Rows.envOfC "Parser.join" (defScope sJoin) s.heap.objs.size f cdv)).units + 64 < cLine := hr.units
    have hu1 := hu_of hr
    refine ⟨_, pss_mid (ps_set (i := 5) scJoin.nd rfl (Or.inl rfl) (pe_callTy call_tuple_of (by rfl) T.tuple (by decide +kernel) (pa_cons (pe_lc (own := [("flag", 4)]) (g := gName 4) (tt := tB (tDIn (tVar 4) (tFld K (tVar 0) "flags"))) (te := tVar 4) rfl scJoin.nd (pi_tup (pe_fld (pv 1) rfl)) (blkOk_by (N := nJoin) (sc := defScope sJoin) (by decide +kernel)) (fun _ _ _ _ _ => pg_name (i := 4) scJoin.nd rfl (Or.inl rfl)) (fun _ _ _ _ _ => by exact pts_one (pt_cmp (pc_din (by exact hu1) (pv 4) (by exact pe_fld (pv 0) rfl)))) (fun _ _ _ _ _ => by exact pv 4)) pa_nil)))
      (pss_mid (ps_if (PW.pt (pw_and (pt_cmpR (op_neD hu) (pv 5) (pe_tup pa_nil) (nomark _)) pw_never)) pss_never pss_nil)
      (pss_mid (ps_for PassesOwn.never rfl (pi_tup (pv 5)) (pg_name (i := 4) scJoin.nd rfl (Or.inl rfl)) pss_never)
      (pss_mid (ps_expr (pe_bm PySem.F.plainAttrs_list PySem.F.slot_list_append PySem.F.type_list_append mt_append (pe_fld (pv 0) rfl) (pa_cons (pv 1) pa_nil)))
      (pss_mid (ps_for PassesOwn.never rfl (pi_tup (pe_fld (pv 1) rfl)) (pg_name (i := 4) scJoin.nd rfl (Or.inl rfl)) (pss_one (ps_dput hu1 (pe_fld (pv 0) rfl) (pv 4) (pv 1) rfl)))
      (pss_mid (ps_set (i := 6) scJoin.nd rfl (Or.inl rfl) (pe_ifExp (pt_cmp (pc_isN (pv 2))) (pe_ix ix_list (pe_fld (pv 0) rfl) (pe_callTy call_int1 (by rfl) T.int (by decide +kernel) (pa_cons (pe_fld (pv 1) rfl) pa_nil)) (fun _ _ => rfl)) pe_never))
      (pss_mid (ps_expr (pe_bm PySem.F.plainAttrs_list PySem.F.slot_list_append PySem.F.type_list_append mt_append (pe_fld (pv 6) rfl) (pa_cons (pv 1) pa_nil)))
      (pss_one (ps_if (pt_cmp (pc_notN (pv 3))) pss_never pss_nil)))))))), ?_⟩
    have nF : NoAttr K CP "flags" := cP.no _ (by decide +kernel)
    have nAr : NoAttr K CP "arguments" := cP.no _ (by decide +kernel)
    have nSe : NoAttr K CP "sections" := cP.no _ (by decide +kernel)
    have nAF : NoAttr K CA "flags" := cA.no _ (by decide +kernel)
    have nAI : NoAttr K CA "is_option" := cA.no _ (by decide +kernel)
    have nSM : NoAttr K CS "members" := cS.no _ (by decide +kernel)
    have hfl : fl.length ≤ 60 := okf
    -- clash
    refine ⟨fun σ' H' => ∃ C : Addr, σ' = [some (.ref a.p), some (.ref A), some .non, some .non, none, some (.ref C), none] ∧ Same H H' ∧ H' C = some (.tup []), ?_, ?_⟩
    · refine ⟨_, rfl, A, CA, dA, afs, _, rfl, hA, cA.cl, nAF, fA, TA, rfl, ⟨_, SqT.of hTA⟩, fun D hD => ?_⟩
      refine lc_tup (K := K) (a := TA) (xs := fl.map V.str) (fun i H' => Same H H' ∧ H' D = some (.lst [])) ⟨same_upd hD, upd_same⟩ (fun i H' _ h => SqT.of (h.1 _ _ hTA)) (fun i x H' hx h => ?_) (fun H' h => ?_)
      · obtain ⟨z, hz, rfl⟩ := str_at hx
        have g := DGet.k (k := (Sum.inr z : Key)) (h.1 _ _ hp.hlf)
        refine ⟨rfl, _, rfl, _, rfl, a.p, CP, a.dx, _, _, rfl, h.1 _ _ hp.px, cP.cl, nF, rfl, a.lf, _, rfl, g, _, rfl, ?_⟩
        rw [rest_none hrk (dis z (List.mem_of_getElem? hz))]
        exact iteF h
      · obtain ⟨s1, hl1⟩ := h
        exact ⟨D, _, rfl, .inl ⟨SqL.of hl1, fun C hC => ⟨C, rfl, same_upd2 s1 hC, upd_same⟩⟩⟩
    rintro _ H1 ⟨C, rfl, e1, hC⟩
    -- the error that is none
    refine ⟨fun σ' H' => σ' = [some (.ref a.p), some (.ref A), some .non, some .non, none, some (.ref C), none] ∧ Same H1 H', ?_, ?_⟩
    · refine ⟨_, rfl, (by show 0 ≤ sizeLine; decide), fun q hq => ?_⟩
      have eq := same_upd (o := .tup []) hq
      exact ⟨.tuple [], .tuple [], .tup (SqT.of (eq _ _ hC)) .nil, .tup (SqT.of upd_same) .nil, by decide, by decide, false, rfl, iteF ⟨rfl, eq⟩⟩
    rintro _ H2 ⟨rfl, e12⟩
    have e2 := e1.trans e12
    have hC2 := e12 _ _ hC
    -- no flags are taken away
    refine ⟨fun σ' H' => σ' = [some (.ref a.p), some (.ref A), some .non, some .non, none, some (.ref C), none] ∧ H2 = H', ?_, ?_⟩
    · refine ⟨_, rfl, C, rfl, ⟨_, SqT.of hC2⟩, ?_⟩
      exact for_tup (K := K) (a := C) (xs := []) (g := gName 4) (tb := fun _ _ _ => False) (D := { nx := fun σ' H' => σ' = [some (.ref a.p), some (.ref A), some .non, some .non, none, some (.ref C), none] ∧ H2 = H', rt := Q }) (fun _ σ' H' => σ' = [some (.ref a.p), some (.ref A), some .non, some .non, none, some (.ref C), none] ∧ H2 = H') ⟨rfl, rfl⟩ (fun _ _ _ _ h => by rw [← h.2]; exact SqT.of hC2) (fun i y _ _ hy _ => by simp at hy) (fun _ _ h => h)
    rintro _ _ ⟨rfl, rfl⟩
    have hp3 := hp.keep e2
    have plf : a.p ≠ a.lf := ne_of hp.px hp.hlf (by intro z; cases z)
    have hA3 := e2 _ _ hA
    have hTA3 := e2 _ _ hTA
    -- arguments
    refine ⟨fun σ' H' => σ' = [some (.ref a.p), some (.ref A), some .non, some .non, none, some (.ref C), none] ∧ (∀ b o, H2 b = some o → b ≠ a.la → H' b = some o) ∧ H' a.la = some (.lst (as ++ [.ref A])), ?_, ?_⟩
    · exact ⟨_, rfl, a.p, CP, a.dx, _, _, rfl, hp3.px, cP.cl, nAr, rfl, .inl ⟨rfl, _, SqL.of hp3.hla⟩, _, rfl, a.la, as, _, rfl, rfl, hp3.hla, by rw [PySem.sizeLine_eq]; omega, rfl, fun b o e nb => by rw [upd_ne nb]; exact e, upd_same⟩
    rintro _ H4 ⟨rfl, kp4, hla4⟩
    have pla : a.p ≠ a.la := ne_of hp3.px hp3.hla (by intro z; cases z)
    have lfa : a.lf ≠ a.la := ne_of hp3.hlf hp3.hla (by intro z; cases z)
    have hp4 : ParAt CP CS a H4 rest (as ++ [.ref A]) ns ms := by
      obtain ⟨d, v, hs⟩ := hp3.hs1
      obtain ⟨d0, v0, hs0⟩ := hp3.hs0
      exact ⟨kp4 _ _ hp3.px pla, hla4, kp4 _ _ hp3.hlf lfa, kp4 _ _ hp3.hdd (ne_of hp3.hdd hp3.hla (by intro z; cases z)), kp4 _ _ hp3.hls hp3.n2.1, ⟨d0, v0, kp4 _ _ hs0 (ne_of hs0 hp3.hla (by intro z; cases z))⟩, ⟨d, v, kp4 _ _ hs (ne_of hs hp3.hla (by intro z; cases z))⟩, kp4 _ _ hp3.hm0 hp3.n1.2.1.symm, kp4 _ _ hp3.hm1 hp3.n1.1.symm, kp4 _ _ hp3.hle hp3.n5.1, hp3.n1, hp3.n2, hp3.n4, hp3.n5⟩
    have hA4 := kp4 _ _ hA3 (ne_of hA3 hp3.hla (by intro z; cases z))
    have hTA4 := kp4 _ _ hTA3 (ne_of hTA3 hp3.hla (by intro z; cases z))
    -- flags
    refine ⟨fun σ' H' => ∃ r, σ' = [some (.ref a.p), some (.ref A), some .non, some .non, r, some (.ref C), none] ∧ (∀ b o, H4 b = some o → b ≠ a.lf → H' b = some o) ∧ H' a.lf = some (.dK (rest ++ fl.map (kO A))), ?_, ?_⟩
    · refine ⟨_, rfl, A, CA, dA, afs, _, rfl, hA4, cA.cl, nAF, fA, TA, rfl, ⟨_, SqT.of hTA4⟩, ?_⟩
      refine for_tup (K := K) (a := TA) (xs := fl.map V.str) (fun i σ' H' => ∃ r, σ' = [some (.ref a.p), some (.ref A), some .non, some .non, r, some (.ref C), none] ∧ (∀ b o, H4 b = some o → b ≠ a.lf → H' b = some o) ∧ H' a.lf = some (.dK (rest ++ (fl.take i).map (kO A)))) ⟨none, rfl, fun _ _ e _ => e, ?_⟩ ?_ ?_ ?_
      · rw [List.take_zero, List.map_nil, List.append_nil]
        exact hp4.hlf
      · rintro i σ' H' _ ⟨r, _, kp, _⟩
        exact SqT.of (kp _ _ hTA4 (ne_of hTA4 hp4.hlf (by intro z; cases z)))
      · rintro i x σ' H' hx ⟨r, rfl, kp, hl'⟩
        obtain ⟨z, hz, rfl⟩ := str_at hx
        have hzl := List.mem_of_getElem? hz
        have h2 : (rest ++ (fl.take i).map (kO A)).map (·.1) = (rk ++ fl.take i).map Sum.inr := by
          rw [List.map_append, hrk, List.map_append, List.map_map]
          rfl
        have hn : valV (rest ++ (fl.take i).map (kO A)) (Sum.inr z : Key) = none := by
          refine rest_none h2 fun q => ?_
          rcases List.mem_append.mp q with q | q
          · exact dis z hzl q
          · exact nodup_take nd hz q
        have hlen : (rest ++ (fl.take i).map (kO A)).length < sizeLine := by
          have h1 : rest.length = rk.length := by
            have := congrArg List.length hrk
            rwa [List.length_map, List.length_map] at this
          rw [PySem.sizeLine_eq, List.length_append, List.length_map, List.length_take]
          omega
        refine ⟨_, rfl, _, rfl, a.p, CP, a.dx, _, _, rfl, kp _ _ hp4.px plf, cP.cl, nF, rfl, _, rfl, a.lf, _, rfl, DPut.k (k := (Sum.inr z : Key)) hl' hlen, _, rfl, fun b o e nb => by rw [upd_ne nb]; exact kp _ _ e nb, ?_⟩
        rw [upd_same, putK_new _ hn, take_more' hz, List.map_append, List.append_assoc]
        rfl
      · rintro σ' H' ⟨r, rfl, kp, hl'⟩
        rw [List.length_map, List.take_length] at hl'
        exact ⟨r, rfl, kp, hl'⟩
    rintro _ H5 ⟨r5, rfl, kp5, hl5⟩
    have hp5 : ParAt CP CS a H5 (rest ++ fl.map (kO A)) (as ++ [.ref A]) ns ms := by
      obtain ⟨d, v, hs⟩ := hp4.hs1
      obtain ⟨d0, v0, hs0⟩ := hp4.hs0
      exact ⟨kp5 _ _ hp4.px plf, kp5 _ _ hp4.hla lfa.symm, hl5, kp5 _ _ hp4.hdd hp4.n4.symm, kp5 _ _ hp4.hls (ne_of hp4.hls hp4.hlf (by intro z; cases z)), ⟨d0, v0, kp5 _ _ hs0 (ne_of hs0 hp4.hlf (by intro z; cases z))⟩, ⟨d, v, kp5 _ _ hs (ne_of hs hp4.hlf (by intro z; cases z))⟩, kp5 _ _ hp4.hm0 (ne_of hp4.hm0 hp4.hlf (by intro z; cases z)), kp5 _ _ hp4.hm1 (ne_of hp4.hm1 hp4.hlf (by intro z; cases z)), kp5 _ _ hp4.hle (ne_of hp4.hle hp4.hlf (by intro z; cases z)), hp4.n1, hp4.n2, hp4.n4, hp4.n5⟩
    have hA5 := kp5 _ _ hA4 (ne_of hA4 hp4.hlf (by intro z; cases z))
    obtain ⟨d1, v1, hs5⟩ := hp5.hs1
    obtain ⟨d0, v0, hs50⟩ := hp5.hs0
    have kpE : ∀ b o, H b = some o → b ≠ a.la → b ≠ a.lf → H5 b = some o := fun b o e n1 n2 => kp5 _ _ (kp4 _ _ (e2 _ _ e) n1) n2
    -- home
    refine ⟨fun σ' H' => ∃ sx mx dS vS qs, σ' = [some (.ref a.p), some (.ref A), some .non, some .non, r5, some (.ref C), some (.ref sx)] ∧ H5 = H' ∧ H5 sx = some (.ins CS dS (sFs (.ref a.p) vS .non mx)) ∧ H5 mx = some (.lst qs) ∧ ((mx = a.m0 ∧ qs = ns) ∨ (mx = a.m1 ∧ qs = ms)), ?_, ?_⟩
    · refine ⟨_, rfl, true, rfl, iteT ⟨_, rfl, a.p, CP, a.dx, _, _, rfl, hp5.px, cP.cl, nSe, rfl, _, rfl, A, CA, dA, afs, _, rfl, hA5, cA.cl, nAI, iA, .inr ⟨_, rfl, ?_⟩⟩⟩
      cases fl with
      | nil => exact ⟨a.ls, _, _, _, rfl, rfl, SqL.of hp5.hls, atI_nat (j := 0) rfl, a.s0, a.m0, d0, v0, ns, rfl, rfl, hs50, hp5.hm0, .inl ⟨rfl, rfl⟩⟩
      | cons x xs => exact ⟨a.ls, _, _, _, rfl, rfl, SqL.of hp5.hls, atI_nat (j := 1) rfl, a.s1, a.m1, d1, v1, ms, rfl, rfl, hs5, hp5.hm1, .inr ⟨rfl, rfl⟩⟩
    rintro _ _ ⟨sx, mx, dS, vS, qs, rfl, rfl, hsx, hmx, hq⟩
    have lq : qs.length ≤ 100 := by rcases hq with ⟨_, rfl⟩ | ⟨_, rfl⟩ <;> assumption
    -- members
    refine ⟨fun σ' H' => σ' = [some (.ref a.p), some (.ref A), some .non, some .non, r5, some (.ref C), some (.ref sx)] ∧ (∀ b o, H5 b = some o → b ≠ mx → H' b = some o) ∧ H' mx = some (.lst (qs ++ [.ref A])), ?_, ?_⟩
    · exact ⟨_, rfl, sx, CS, dS, _, _, rfl, hsx, cS.cl, nSM, rfl, .inl ⟨rfl, _, SqL.of hmx⟩, _, rfl, mx, qs, _, rfl, rfl, hmx, by rw [PySem.sizeLine_eq]; omega, rfl, fun b o e nb => by rw [upd_ne nb]; exact e, upd_same⟩
    rintro _ H6 ⟨rfl, kp6, hm6⟩
    refine ⟨_, rfl, false, rfl, iteF ?_⟩
    rcases hq with ⟨rfl, rfl⟩ | ⟨rfl, rfl⟩
    · exact k H6 (qs ++ [.ref A]) ms (fun b o e n1 n2 n3 n4 => kp6 _ _ (kpE _ _ e n1 n2) n3) (by rw [List.length_append]; exact Nat.le_refl _) (by omega) ⟨kp6 _ _ hp5.px (ne_of hp5.px hp5.hm0 (by intro z; cases z)), kp6 _ _ hp5.hla hp5.n1.2.1, kp6 _ _ hp5.hlf (ne_of hp5.hlf hp5.hm0 (by intro z; cases z)), kp6 _ _ hp5.hdd (ne_of hp5.hdd hp5.hm0 (by intro z; cases z)), kp6 _ _ hp5.hls hp5.n2.2.1, ⟨d0, v0, kp6 _ _ hs50 (ne_of hs50 hp5.hm0 (by intro z; cases z))⟩, ⟨d1, v1, kp6 _ _ hs5 (ne_of hs5 hp5.hm0 (by intro z; cases z))⟩, hm6, kp6 _ _ hp5.hm1 hp5.n1.2.2.symm, kp6 _ _ hp5.hle hp5.n5.2.1, hp5.n1, hp5.n2, hp5.n4, hp5.n5⟩
    · exact k H6 ns (qs ++ [.ref A]) (fun b o e n1 n2 n3 n4 => kp6 _ _ (kpE _ _ e n1 n2) n4) (by omega) (by rw [List.length_append]; exact Nat.le_refl _) ⟨kp6 _ _ hp5.px (ne_of hp5.px hp5.hm1 (by intro z; cases z)), kp6 _ _ hp5.hla hp5.n1.1, kp6 _ _ hp5.hlf (ne_of hp5.hlf hp5.hm1 (by intro z; cases z)), kp6 _ _ hp5.hdd (ne_of hp5.hdd hp5.hm1 (by intro z; cases z)), kp6 _ _ hp5.hls hp5.n2.2.2, ⟨d0, v0, kp6 _ _ hs50 (ne_of hs50 hp5.hm1 (by intro z; cases z))⟩, ⟨d1, v1, kp6 _ _ hs5 (ne_of hs5 hp5.hm1 (by intro z; cases z))⟩, kp6 _ _ hp5.hm0 hp5.n1.2.2, hm6, kp6 _ _ hp5.hle hp5.n5.2.2, hp5.n1, hp5.n2, hp5.n4, hp5.n5⟩
end
end K67

namespace K67
open PySem L2 PyProof.Rows
/-! ### add_to, add_argument -/
theorem dedup_nodup (fl : List Str) : (dedup fl).Nodup := by
  have key : ∀ (fl f : List Str), f.Nodup → (fl.foldl (fun f x => f ++ [x].filter fun y => decide (y ∉ f)) f).Nodup := by
    intro fl
    induction fl with
    | nil => intro f h; exact h
    | cons y fl ih =>
      intro f h
      rw [List.foldl_cons]
      refine ih _ (List.nodup_append.mpr ⟨h, ?_, ?_⟩)
      · exact (List.nodup_cons.mpr ⟨List.not_mem_nil, List.nodup_nil⟩).filter _
      · intro a ha b hb e
        subst e
        have := (List.mem_filter.mp hb).2
        exact of_decide_eq_true this ha
  exact key fl [] List.nodup_nil
theorem noF_ne {x : Str} (h : 2 ≤ x.length) : noF x ≠ x := by
  intro e
  have h1 := congrArg Str.length e
  unfold noF at h1
  rw [PySem.Str.length_append, PySem.Str.length_append] at h1
  have h2 : (cutS x none (some 2)).length = 2 := by
    unfold cutS
    have hl : x.cps.toList.length = x.length := by simp [PySem.Str.length]
    rw [HT.sIx_none]
    have : HT.sIx x.length x.length (some 2) = 2 := by
      have q : HT.sIx x.length x.length (some (2 : Int)) = min 2 x.length := HT.sIx_nat x.length x.length 2
      rw [q]
      omega
    simp only [PySem.Str.length, List.size_toArray, List.length_take, List.length_drop]
    simp only [PySem.Str.length] at this hl h
    rw [this]
    omega
  have h3 : (cutS x (some 2) none).length = x.length - 2 := by
    unfold cutS
    have hl : x.cps.toList.length = x.length := by simp [PySem.Str.length]
    rw [HT.sIx_none]
    have : HT.sIx x.length 0 (some 2) = 2 := by
      have q : HT.sIx x.length 0 (some (2 : Int)) = min 2 x.length := HT.sIx_nat x.length 0 2
      rw [q]
      omega
    simp only [PySem.Str.length, List.size_toArray, List.length_take, List.length_drop]
    simp only [PySem.Str.length] at this hl h
    rw [this]
    omega
  have h4 : ("no-" : Str).length = 3 := by decide
  omega
theorem fellows_nodup {pf : Str} {fl : List Str} (h : ∀ x ∈ fl, 2 ≤ x.length) : (fellows pf fl).Nodup := by
  have key : ∀ (fl f : List Str), (∀ x ∈ fl, 2 ≤ x.length) → f.Nodup → (fl.foldl (felStep pf) f).Nodup := by
    intro fl
    induction fl with
    | nil => intro f _ h; exact h
    | cons y fl ih =>
      intro f hl h
      rw [List.foldl_cons]
      refine ih _ (fun x hx => hl x (List.mem_cons_of_mem _ hx)) ?_
      unfold felStep
      refine List.nodup_append.mpr ⟨h, ?_, ?_⟩
      · refine List.Pairwise.filter _ (?_ : (fel1 pf y).Nodup)
        unfold fel1
        split
        · exact List.nodup_cons.mpr ⟨fun q => noF_ne (hl y List.mem_cons_self) (List.mem_singleton.mp q).symm, List.nodup_cons.mpr ⟨List.not_mem_nil, List.nodup_nil⟩⟩
        · exact List.nodup_cons.mpr ⟨List.not_mem_nil, List.nodup_nil⟩
      · intro a ha b hb e
        subst e
        have := (List.mem_filter.mp hb).2
        exact of_decide_eq_true this ha
  exact key fl [] h List.nodup_nil
theorem fellows_len (pf : Str) (fl : List Str) : (fellows pf fl).length ≤ 2 * fl.length := by
  have key : ∀ (fl f : List Str), (fl.foldl (felStep pf) f).length ≤ f.length + 2 * fl.length := by
    intro fl
    induction fl with
    | nil => intro f; exact Nat.le_refl _
    | cons y fl ih =>
      intro f
      have h1 := ih (felStep pf f y)
      have h2 := felStep_len pf y f
      rw [List.foldl_cons, List.length_cons]
      omega
  have := key fl []
  unfold fellows
  simpa using this
theorem flD_nodup {pf : Str} {gs : List Str} {io : Bool} {act : Str} (h : Gv pf gs io) : (flD pf gs io act).Nodup := by
  unfold flD
  split
  · refine fellows_nodup fun x hx => ?_
    unfold flOf at hx
    cases io with
    | true => exact ((h.op rfl).2 x hx).l2
    | false => exact nomatch hx
  · exact dedup_nodup _
theorem flD_len {pf : Str} {gs : List Str} {io : Bool} {act : Str} (h : Gv pf gs io) : (flD pf gs io act).length ≤ 60 := by
  have hn := h.n
  have hf : (flOf gs io).length ≤ 20 := by
    unfold flOf
    split
    · exact hn
    · exact Nat.zero_le _
  unfold flD
  split
  · have := fellows_len pf (flOf gs io)
    omega
  · have := dedup_len (flOf gs io)
    omega
/-- what was new beside H, and what is neither list nor dict, is kept -/
structure KpN (H H1 H2 : Hp) : Prop where
  nl : ∀ b o, H1 b = some o → (∀ xs, o ≠ .lst xs) → (∀ ks, o ≠ .dK ks) → H2 b = some o
  nw : ∀ b o, H1 b = some o → H b = none → H2 b = some o
theorem KpN.of_same {H H1 H2 : Hp} (e : Same H1 H2) : KpN H H1 H2 := ⟨fun b o h _ _ => e b o h, fun b o h _ => e b o h⟩
theorem KpN.trans {H H1 H2 H3 : Hp} (a : KpN H H1 H2) (b : KpN H H2 H3) : KpN H H1 H3 := ⟨fun x o h n1 n2 => b.nl x o (a.nl x o h n1 n2) n1 n2, fun x o h n => b.nw x o (a.nw x o h n) n⟩
theorem DtR.kn {H H1 H2 : Hp} {v : V} {d : PyData} (h : DtR H H1 v d) (e : KpN H H1 H2) : DtR H H2 v d := by
  obtain ⟨N, h1, h2, h3, h4⟩ := h
  exact ⟨N, h1, fun b o q => e.nw b o (h2 b o q) (h3 b o q), h3, h4⟩
theorem AG.kn {H H1 H2 : Hp} {io : Bool} {act : Str} {ld : DD} {hd : PyData} {v : AV} {n : Nat} (h : AG H H1 io act ld hd v n) (e : KpN H H1 H2) : AG H H2 io act ld hd v n :=
  ⟨h.nn, fun q => (h.co q).kn e, fun q => (h.de q).kn e, fun q => (h.ki q).kn e, fun q => (h.ch q).kn e, h.re, h.he, h.ve⟩
/-- an argument that stands -/
structure ArgX (CA : Addr) (H H' : Hp) (A : Addr) (pf : Str) (gs : List Str) (io : Bool) (act : Str) (ld : DD) : Prop where
  nA : H A = none
  ex : ∃ (dx U : Addr) (v : AV), H U = none ∧ H' U = some (.tup ((flD pf gs io act).map V.str)) ∧ H' A = some (.ins CA dx (v.fs U (destOf pf gs io ld) act io)) ∧ AG H H' io act ld (heD act ld) v 6 ∧ MeAt H' v.me (meD ld)
theorem MadeA.x {CA : Addr} {H H' : Hp} {A : Addr} {pf : Str} {gs : List Str} {io : Bool} {act : Str} {ld : DD} (h : MadeA CA H H' A pf gs io act ld) : ArgX CA H H' A pf gs io act ld := by
  obtain ⟨dx, U, v, h1, h2, h3, h4⟩ := h.ex
  exact ⟨h.nA, dx, U, v, h1, h2.tt, h2.ex, h3, h4⟩
theorem ArgX.kn {CA : Addr} {H H1 H2 : Hp} {A : Addr} {pf : Str} {gs : List Str} {io : Bool} {act : Str} {ld : DD} (h : ArgX CA H H1 A pf gs io act ld) (e : KpN H H1 H2) : ArgX CA H H2 A pf gs io act ld := by
  obtain ⟨dx, U, v, h1, h2, h3, h4, h5⟩ := h.ex
  exact ⟨h.nA, dx, U, v, h1, e.nw _ _ h2 h1, e.nw _ _ h3 h.nA, h4.kn e, h5.imp id fun ⟨a, l, q1, q2, q3⟩ => ⟨a, l, q1, q2, e.nl _ _ q3 (fun _ z => nomatch z) (fun _ z => nomatch z)⟩⟩
structure AddPre (CP CS : Addr) (H : Hp) (a : PAd) (fa : Addr) (gv : V) (as ns ms : List V) (rk gs : List Str) (io : Bool) (act : Str) (ld : DD) (rest : List (Key × V)) : Prop where
  par : ParAt CP CS a H rest as ns ms
  rk_ : rest.map (·.1) = rk.map Sum.inr
  fa_ : SeqF H fa (gs.map V.str)
  gv_ : Gv a.pf gs io
  op : (gv = .non ∧ ld = []) ∨ ∃ (o : Addr) (kvs : List (Key × V)), gv = .ref o ∧ OpH H o kvs ld
  nm : Nmd gs io ld
  ok : OkO io act ld
  dis : ∀ x ∈ flD a.pf gs io act, x ∉ rk
  l1 : as.length ≤ 100
  l2 : ns.length ≤ 100
  l3 : ms.length ≤ 100
  l4 : rk.length ≤ 100
structure AddedX (CP CS CA : Addr) (H H' : Hp) (a : PAd) (A : Addr) (as ns ms : List V) (gs : List Str) (io : Bool) (act : Str) (ld : DD) (rest : List (Key × V)) : Prop where
  arg : ArgX CA H H' A a.pf gs io act ld
  kp : ∀ b o, H b = some o → b ≠ a.la → b ≠ a.lf → b ≠ a.m0 → b ≠ a.m1 → H' b = some o
  par : ∃ ns' ms', ns'.length ≤ ns.length + 1 ∧ ms'.length ≤ ms.length + 1 ∧ ParAt CP CS a H' (rest ++ (flD a.pf gs io act).map (kO A)) (as ++ [.ref A]) ns' ms'
def spAddTo (CP CS CA : Addr) : Sp := fun vs H Q _ => ∃ (a : PAd) (fa : Addr) (gv : V) (as ns ms : List V) (rk gs : List Str) (io : Bool) (act : Str) (ld : DD) (rest : List (Key × V)), vs = [.ref a.p, .non, .non, .ref fa, gv] ∧ AddPre CP CS H a fa gv as ns ms rk gs io act ld rest ∧
  ∀ (A : Addr) (H' : Hp), AddedX CP CS CA H H' a A as ns ms gs io act ld rest → Q (.ref A) H'
def spAdd (CP CS CA : Addr) : Sp := fun vs H Q _ => ∃ (a : PAd) (fa : Addr) (gv : V) (as ns ms : List V) (rk gs : List Str) (io : Bool) (act : Str) (ld : DD) (rest : List (Key × V)), vs = [.ref a.p, .ref fa, gv] ∧ AddPre CP CS H a fa gv as ns ms rk gs io act ld rest ∧
  ∀ (A : Addr) (H' : Hp), AddedX CP CS CA H H' a A as ns ms gs io act ld rest → Q (.ref A) H'
section
variable {P : Program} {w : World} {K : PySem.W.Frag} {mg : Str → Option Value} {base : Heap}
abbrev nAddTo : List Str := ["self", "section", "exclusive", "flags", "options", "argument"]
theorem scAddTo : FnScope nAddTo ["self", "section", "exclusive", "flags", "options"] (defScope sAddTo) := ⟨rfl, rfl, rfl, by decide +kernel, rfl, by decide +kernel, by decide +kernel⟩
theorem ok_addTo {f fM fJ CP CS CA : Addr} {fd fdM fdJ : FuncData} (F : Fun K "add_to" "Parser.add_to" sAddTo f fd) (cP : ClsN K CP parF) (M : At P w K mg base "made_argument" 7 ["flags", "given", "parser", "is_exclusive"] (spMade CA CP) fM fdM)
    (GJ : FnOk P w K mg base CX0 2 fJ fdJ ["self", "argument", "section", "exclusive"] (spJoin CP CS CA)) (mJ : Meth K CP "join" fJ) (bJ : Binds K fdJ ["self", "argument", "section", "exclusive"] []) : FnOk P w K mg base CX0 8 f fd ["self", "section", "exclusive", "flags", "options"] (spAddTo CP CS CA) := by
  refine F.ok scAddTo (fun vs H Q E h => ?_) (fun cdv A0 outer s H vs Q E hr h => ?_)
  · obtain ⟨a, fa, gv, as, ns, ms, rk, gs, io, act, ld, rest, rfl, _⟩ := h
    rfl
  · obtain ⟨a, fa, gv, as, ns, ms, rk, gs, io, act, ld, rest, rfl, g, k⟩ := h
    have r2 : Room 2 (A0.deeper (PyProof.Rows.envOfC "Parser.add_to" (defScope sAddTo) s.heap.objs.size f cdv)) := hr.mono (by decide)
    refine ⟨_, pss_cons (ps_set (i := 5) scAddTo.nd rfl (Or.inl rfl) (pe_call M.ok hr rfl M.m M.k M.b .nil pass0 (pa_cons (pv 3) (pa_cons (pv 4) (pa_cons (pv 0) (pa_cons (pe_cmp (pc_notN (pv 2)) rfl) pa_nil))))))
      (pss_cons (ps_expr (pe_meth (pv 0) cP.cl mJ GJ r2 bJ .nil pass0 (pa_cons (pv 5) (pa_cons (pv 1) (pa_cons (pv 2) pa_nil))))) (pss_one (ps_ret (pv 5)))), ?_⟩
    refine ⟨_, rfl, _, rfl, _, rfl, _, rfl, fa, a.p, a.dd, gv, a.pf, gs, io, act, ld, rfl, g.fa_, g.gv_, g.op, g.nm, g.ok, ⟨⟨_, _, g.par.px, rfl, rfl, rfl⟩, g.par.hdd⟩, fun A H1 m => ?_⟩
    obtain ⟨dA, U, v, nU, mm, ag, me⟩ := m.ex
    have hA := mm.ex
    have p1 := g.par.keep m.same
    refine ⟨_, rfl, a.p, a.dx, _, rfl, p1.px, rfl, _, rfl, _, rfl, _, rfl, a, A, as, ns, ms, rk, rest, dA, U, _, flD a.pf gs io act, rfl, p1, g.rk_, hA, rfl, ?_, mm.tt, flD_len g.gv_, flD_nodup g.gv_, g.dis, g.l1, g.l2, g.l3, g.l4, fun H2 ns' ms' kp2 q1 q2 p2 => ⟨_, rfl, k A H2 ⟨m.x.kn ⟨fun b o e x1 x2 => kp2 _ _ e (ne_of e p1.hla (x1 _)) (ne_of e p1.hlf (x2 _)) (ne_of e p1.hm0 (x1 _)) (ne_of e p1.hm1 (x1 _)), fun b o e hn => ?_⟩, fun b o e n1 n2 n3 n4 => kp2 _ _ (m.same _ _ e) n1 n2 n3 n4, ns', ms', q1, q2, p2⟩⟩⟩
    · rw [flD_ne g.gv_, Bool.not_not]
      rfl
    · exact kp2 _ _ e (fun z => by rw [z, g.par.hla] at hn; cases hn) (fun z => by rw [z, g.par.hlf] at hn; cases hn) (fun z => by rw [z, g.par.hm0] at hn; cases hn) (fun z => by rw [z, g.par.hm1] at hn; cases hn)
theorem scAdd : FnScope ["self", "flags", "options"] ["self", "flags", "options"] (defScope sAdd) := ⟨rfl, rfl, rfl, by decide +kernel, rfl, by decide +kernel, by decide +kernel⟩
theorem ok_add {dvs : List V} {kws : List (Str × V)} {f fT CP CS CA : Addr} {fd fdT : FuncData} (F : FunD K "add_argument" "Parser.add_argument" (defArgs sAdd) (defBody sAdd) (defScope sAdd) dvs kws f fd) (cP : ClsN K CP parF)
    (GT : FnOk P w K mg base CX0 8 fT fdT ["self", "section", "exclusive", "flags", "options"] (spAddTo CP CS CA)) (mT : Meth K CP "add_to" fT) (bT : Binds K fdT ["self", "section", "exclusive", "flags", "options"] []) : FnOk P w K mg base CX0 9 f fd ["self", "flags", "options"] (spAdd CP CS CA) := by
  refine F.ok scAdd (fun vs H Q E h => ?_) (fun cdv A0 outer s H vs Q E hr h => ?_)
  · obtain ⟨a, fa, gv, as, ns, ms, rk, gs, io, act, ld, rest, rfl, _⟩ := h
    rfl
  · obtain ⟨a, fa, gv, as, ns, ms, rk, gs, io, act, ld, rest, rfl, g, k⟩ := h
    refine ⟨_, PSs.nox (pss_one (ps_ret (pe_meth (pv 0) cP.cl mT GT hr bT .nil pass0 (pa_cons pe_non (pa_cons pe_non (pa_cons (pv 1) (pa_cons (pv 2) pa_nil))))))), ?_⟩
    exact ⟨_, rfl, a.p, a.dx, _, rfl, g.par.px, rfl, _, rfl, _, rfl, a, fa, gv, as, ns, ms, rk, gs, io, act, ld, rest, rfl, g, k⟩
end
end K67

/-! list(d.values()) -/
namespace XListV
open PySem PySem.Spec PyProof.Rows L2
def tListVals (te : TE) : TE := fun σ H Q => te σ H fun x H1 => ∃ (d : Addr) (kvs : List (Key × V)), x = .ref d ∧ H1 d = some (.dK kvs) ∧ ∀ q, H1 q = none → Q (.ref q) (upd H1 q (.lst (kvs.map (·.2))))
section
variable {X : Cx} {e : Expr} {te : TE} {p apos cpos pos : Pos}
theorem kv_at : ∀ {kvs : List (Key × V)} {vs : List (Key × Value)} {j : Nat} {x : V} {k : Key} {y : Value}, KV kvs vs → (kvs.map (·.2))[j]? = some x → vs[j]? = some (k, y) → RelV x y
  | _, _, j, x, k, y, .nil, h, _ => by simp at h
  | _, _, 0, x, k, y, .cons r t, h, g => by
    cases h
    cases g
    exact r.2
  | _, _, j + 1, x, k, y, .cons r t, h, g => kv_at (j := j) t (by simpa using h) (by simpa using g)
theorem pe_listVals (hc : X.calm = true) (he : PE X e te) (hg : Gl X "list") (hm : X.mg "list" = none) (hv : bootBuiltins "list" = some (.type "list")) (hbase : attributeBase e "values" X.env (eval e X.env) = eval e X.env := by rfl) (hline : (apos.endLine == cpos.line) = true := by rfl)
    (hs : starEach [.Call (.Attribute e "values" apos) [] [] cpos] X.env = (false, eval (.Call (.Attribute e "values" apos) [] [] cpos) X.env) :: starEach [] X.env := by rfl) :
    PE X (.Call (.Name "list" p) [.Call (.Attribute e "values" apos) [] [] cpos] [] pos) (tListVals te) := by
  refine ⟨fun pins s σ H Q I hq => ?_⟩
  refine wpAny_Call_Name_kw (ld_blt I hg hm hv ?_)
  refine PyProof.Rows.callWith_type1 ?_ hs rfl
  rw [hs]
  show wpAny _ _ (spliced ((false, eval (.Call (.Attribute e "values" apos) [] [] cpos) X.env) :: backTo pos (starEach [] X.env))) _ _ s
  refine Calls.spliced_cons ?_
  refine wpAny_Call_method (T := "dict") (id := "dict.values") hbase rfl hline F.plainAttrs_dict F.slot_dict_values F.type_dict_values (thn (he.run pins s σ H _ I hq) fun u s1 ⟨x, H1, I1, rx, d, kvs, ex, hd, q⟩ => ?_)
  subst ex
  obtain rfl : u = Value.ref d := rx
  obtain ⟨hz, hs0, vs, kv, hdo⟩ := I1.hok d _ hd
  obtain ⟨ep, hat⟩ := hdo.dictAt
  have lk : kvs.length = vs.length := Paired.length kv
  have I2 : Inv X pins σ H1 { s1 with heap := s1.heap.push { cls := .type "dict_values", data := .fields #[.ref d] } } := I1.kept (t' := s1.toks) fun b ob q => Heap.get?_push_of_some _ q
  refine ⟨hdo.typeIs, hdo.mapOf.noDict, ?_⟩
  show wpAny _ _ (callWith cpos (.builtin "dict.values") [.ref d] [] []) _ X.xe s1
  refine method_meetsIn F.slot_dict_values F.entry_dict_values rfl (PySem.evalArgs_none ⟨rfl, hdo.typeIs, F.args_dict_values_1 _, _, meets_dict_values (mixKind X.prog X.w) d hs0, ⟨vs, hdo⟩, ?_⟩)
  refine Calls.spliced_nil ?_
  refine PySem.W.kdl_call (PySem.W.kdl_values (knd := mixKind X.prog X.w) (d := d) (kvs := vs) (ep := ep)) (I1.ok.hd hc) ⟨⟨_, Heap.get?_push_size _ rfl, rfl, rfl⟩, hat.push _⟩ (by rw [← lk]; exact hz) fun h' tk acc' c' hkeep hS hacc => ?_
  refine ⟨.ref _, upd H1 _ (.lst (kvs.map (·.2))), I2.laid hkeep (Nat.le_refl _) (show ObjOk X.prog X.w _ _ _ (.lst (kvs.map (·.2))) from ⟨?_, acc'.toList, c', ?_, ?_⟩), rfl, q _ (I2.hok.fresh (Nat.le_refl _))⟩
  · rw [List.length_map]; exact hz
  · have el : acc'.toList.length = acc'.size := by simp
    refine vals_of_at (by rw [List.length_map, el, hacc.1, lk]) fun j x w h1 h2 => ?_
    obtain ⟨k, hky⟩ := hacc.2 j w (by rw [← Array.getElem?_toList]; exact h2)
    exact kv_at kv h1 hky
  · rw [Array.toArray_toList]; exact hS
end
end XListV

namespace K67
open PySem L2 PyProof.Rows
/-! ### the law's copy, its names, its flags -/
theorem while_n {c : TT} {tb : TS} {D : Ends} {σ : L2.St} {H : Hp} (Pv : Nat → L2.St → Hp → Prop) (n0 : Nat) (h0 : Pv n0 σ H)
    (hs : ∀ n σ H, Pv n σ H → ∀ Y : Bool → Hp → Prop, (∀ H1, tb { D with nx := fun σ' H' => ∃ m, m < n ∧ Pv m σ' H', ct := fun σ' H' => ∃ m, m < n ∧ Pv m σ' H', bk := D.nx } σ H1 → Y true H1) → (∀ H1, D.nx σ H1 → Y false H1) → c σ H Y) : tWhile c tb D σ H :=
  ⟨Pv, ⟨n0, h0⟩, fun m σ H p => hs m σ H p _ (fun H1 q => by
    rw [if_pos rfl]
    exact ⟨_, fun _ _ h => h, q⟩) (fun H1 q => by
    rw [if_neg Bool.false_ne_true]
    exact q)⟩
def spLDest : Sp := fun vs H Q _ => ∃ (fa o : Addr) (pf : Str) (gs : List Str) (io : Bool) (kvs : List (Key × V)) (ld : DD), vs = [.ref fa, .ref o, .str pf, .bl io] ∧ H fa = some (.lst (gs.map V.str)) ∧ Gv pf gs io ∧ OpH H o kvs ld ∧ Nmd gs io ld ∧ ∀ H', Same H H' → Q (.str (destOf pf gs io ld)) H'
def spFlDue : Sp := fun vs H Q _ => ∃ (fa : Addr) (pf : Str) (gs : List Str) (act : Str), vs = [.ref fa, .str act, .str pf] ∧ H fa = some (.lst (gs.map V.str)) ∧ Gv pf gs true ∧ ∀ (U : Addr) (H' : Hp), Same H H' → H' U = some (.tup ((flD pf gs true act).map V.str)) → Q (.ref U) H'
section
variable {P : Program} {w : World} {K : PySem.W.Frag} {mg : Str → Option Value} {base : Heap}
theorem scLCop : FnScope ["_law_value", "_law_part"] ["_law_value"] (defScope sLCop) := ⟨rfl, rfl, rfl, by decide +kernel, rfl, by decide +kernel, by decide +kernel⟩
theorem stepLCop {f : Addr} {fd : FuncData} {m : Nat} (F : Fun K "_law_copied" "_law_copied" sLCop f fd) (T : TxtB mg) (G : FnOk P w K mg base CX0 (m + 1) f fd ["_law_value"] (spCop m)) (mC : mg "_law_copied" = some (.ref f)) (kC : PySem.W.keepIn K (.ref f) = true) (bC : Binds K fd ["_law_value"] []) :
    FnOk P w K mg base CX0 (m + 2) f fd ["_law_value"] (spCop (m + 1)) := by
  refine F.ok scLCop (fun vs H Q E h => ?_) (fun cdv A outer s H vs Q E hr h => ?_)
  · obtain ⟨v, d, rfl, _⟩ := h
    rfl
  · obtain ⟨v, d, rfl, hd, dep, sz, k⟩ := h
    refine ⟨_, pss_cons (ps_if (pt_val (pe_callB call_isi (by rfl) T.isinstance (by decide +kernel) (pa_cons (pv 0) (pa_cons (pe_bltn (v := .ty "list") (by rfl) T.list (by decide +kernel) rfl) pa_nil))))
        (pss_one (ps_ret (pe_lc (own := [("_law_part", 1)]) (g := gName 1) (tt := tYes) rfl scLCop.nd (pi_list (pv 0)) (blkOk_by (N := ["_law_value", "_law_part"]) (sc := defScope sLCop) (by decide +kernel)) (fun _ _ _ _ _ => pg_name (i := 1) scLCop.nd rfl (Or.inl rfl)) (fun _ _ _ _ _ => pts_nil) (fun _ _ _ _ _ => pe_call G hr rfl mC kC bC .nil pass0 (pa_cons (pv 1) pa_nil))))) pss_nil)
      (pss_one (ps_ret (pe_ifExp (pt_val (pe_callB call_isi (by rfl) T.isinstance (by decide +kernel) (pa_cons (pv 0) (pa_cons (pe_bltn (v := .ty "tuple") (by rfl) T.tuple (by decide +kernel) rfl) pa_nil))))
        (pe_callTy call_tuple_of (by rfl) T.tuple (by decide +kernel) (pa_cons (pe_lc (own := [("_law_part", 1)]) (g := gName 1) (tt := tYes) rfl scLCop.nd (pi_tup (pv 0)) (blkOk_by (N := ["_law_value", "_law_part"]) (sc := defScope sLCop) (by decide +kernel)) (fun _ _ _ _ _ => pg_name (i := 1) scLCop.nd rfl (Or.inl rfl)) (fun _ _ _ _ _ => pts_nil) (fun _ _ _ _ _ => pe_call G hr rfl mC kC bC .nil pass0 (pa_cons (pv 1) pa_nil))) pa_nil))
        (pv 0)))), ?_⟩
    -- isinstance(value, list)
    cases hd with
    | non => exact ⟨_, rfl, _, .ty "list", _, _, false, rfl, .ty _, .base (.non), kit_ty (by decide +kernel), _, rfl, iteF ⟨_, rfl, _, .ty "tuple", _, _, false, rfl, .ty _, .base (.non), kit_ty (by decide +kernel), _, rfl, iteF ⟨_, rfl, k _ emp H (Same.refl H) fresh_emp (.non)⟩⟩⟩
    | bl b => exact ⟨_, rfl, _, .ty "list", _, _, false, rfl, .ty _, .base (.bl b), kit_ty (by decide +kernel), _, rfl, iteF ⟨_, rfl, _, .ty "tuple", _, _, false, rfl, .ty _, .base (.bl b), kit_ty (by decide +kernel), _, rfl, iteF ⟨_, rfl, k _ emp H (Same.refl H) fresh_emp (.bl b)⟩⟩⟩
    | int i => exact ⟨_, rfl, _, .ty "list", _, _, false, rfl, .ty _, .base (.int i), kit_ty (by decide +kernel), _, rfl, iteF ⟨_, rfl, _, .ty "tuple", _, _, false, rfl, .ty _, .base (.int i), kit_ty (by decide +kernel), _, rfl, iteF ⟨_, rfl, k _ emp H (Same.refl H) fresh_emp (.int i)⟩⟩⟩
    | str x => exact ⟨_, rfl, _, .ty "list", _, _, false, rfl, .ty _, .base (.str x), kit_ty (by decide +kernel), _, rfl, iteF ⟨_, rfl, _, .ty "tuple", _, _, false, rfl, .ty _, .base (.str x), kit_ty (by decide +kernel), _, rfl, iteF ⟨_, rfl, k _ emp H (Same.refl H) fresh_emp (.str x)⟩⟩⟩
    | @lst a xs ds ha hds =>
      refine ⟨_, rfl, .ref a, .ty "list", _, _, true, rfl, .ty _, .base (.lst ha), kit_ty (by decide +kernel), _, rfl, iteT ?_⟩
      refine ⟨_, rfl, a, rfl, ⟨_, SqL.of ha⟩, fun D hD => ?_⟩
      refine lc_list (K := K) (a := a) (xs := xs) (CopI H D ds) (copI0 hD) (fun i H' _ h => SqL.of (h.1 _ _ ha)) (fun i x H' hx h => ?_) (fun H' h => ?_)
      · obtain ⟨dx, hdx, hx'⟩ := hds.get hx
        obtain ⟨d0, s0⟩ := cop_child dep sz hdx
        obtain ⟨m', rfl⟩ : ∃ m', m = m' + 1 := ⟨m - 1, by omega⟩
        refine ⟨rfl, _, rfl, x, dx, rfl, Dt.mono h.1 _ _ hx', by omega, s0, fun v' N H2 e2 F2 t2 => ?_⟩
        obtain ⟨ys, N0, h1, h2⟩ := copI_step hD hdx h e2 F2 t2
        exact ⟨ys, h1, by have := (List.getElem?_eq_some_iff.mp hx).1; have := hds.len; have := cop_size sz; exact sz_lt1 h2.1 (by omega), h2.2⟩
      · obtain ⟨s1, ys, N, hy, hl, F1, t1⟩ := copI_end hds.len h
        exact k (.ref D) (upd N D (.lst ys)) H' s1 (F1.upd hD hy) (.lst upd_same (DtAll.mono (same_upd hl) _ _ t1))
    | @tup a xs ds ha hds =>
      refine ⟨_, rfl, .ref a, .ty "list", _, _, false, rfl, .ty _, .base (.tup ha), kit_ty (by decide +kernel), _, rfl, iteF ?_⟩
      refine ⟨_, rfl, .ref a, .ty "tuple", _, _, true, rfl, .ty _, .base (.tup ha), kit_ty (by decide +kernel), _, rfl, iteT ?_⟩
      refine ⟨_, rfl, a, rfl, ⟨_, SqT.of ha⟩, fun D hD => ?_⟩
      refine lc_tup (K := K) (a := a) (xs := xs) (CopI H D ds) (copI0 hD) (fun i H' _ h => SqT.of (h.1 _ _ ha)) (fun i x H' hx h => ?_) (fun H' h => ?_)
      · obtain ⟨dx, hdx, hx'⟩ := hds.get hx
        obtain ⟨d0, s0⟩ := cop_child' dep sz hdx
        obtain ⟨m', rfl⟩ : ∃ m', m = m' + 1 := ⟨m - 1, by omega⟩
        refine ⟨rfl, _, rfl, x, dx, rfl, Dt.mono h.1 _ _ hx', by omega, s0, fun v' N H2 e2 F2 t2 => ?_⟩
        obtain ⟨ys, N0, h1, h2⟩ := copI_step hD hdx h e2 F2 t2
        exact ⟨ys, h1, by have := (List.getElem?_eq_some_iff.mp hx).1; have := hds.len; have := cop_size' sz; exact sz_lt1 h2.1 (by omega), h2.2⟩
      · obtain ⟨s1, ys, N, hy, hl, F1, t1⟩ := copI_end hds.len h
        refine ⟨D, ys, rfl, .inl ⟨SqL.of hy, fun l hl2 => ?_⟩⟩
        have nDl : N l = none := by
          cases e : N l with
          | none => rfl
          | some o =>
            rw [F1.sub _ _ e] at hl2
            cases hl2
        exact k (.ref l) (upd N l (.tup ys)) _ (same_upd2 s1 hl2) (Fresh.upd ⟨F1.sub.trans (same_upd hl2), F1.new⟩ (Same.free s1 hl2) upd_same) (.tup upd_same (DtAll.mono (same_upd nDl) _ _ t1))
theorem okLCop {f : Addr} {fd : FuncData} (F : Fun K "_law_copied" "_law_copied" sLCop f fd) (T : TxtB mg) (mC : mg "_law_copied" = some (.ref f)) (kC : PySem.W.keepIn K (.ref f) = true) (bC : Binds K fd ["_law_value"] []) :
    ∀ m, FnOk P w K mg base CX0 (m + 1) f fd ["_law_value"] (spCop m)
  | 0 => ⟨fun _ _ _ _ h => h.elim, fun _ _ _ _ _ _ _ _ _ _ _ _ _ h => h.elim⟩
  | m + 1 => stepLCop F T (okLCop F T mC kC bC m) mC kC bC

abbrev nLDest : List Str := ["_law_flags", "_law_options", "_law_signs", "_law_is_option", "_law_long", "_law_name", "_law_flag"]
theorem scLDest : FnScope nLDest ["_law_flags", "_law_options", "_law_signs", "_law_is_option"] (defScope sLDest) := ⟨rfl, rfl, rfl, by decide +kernel, rfl, by decide +kernel, by decide +kernel⟩
theorem cutS_1 (x : Str) (h : 1 ≤ x.length) : (cutS x (some 1) none).cps.toList = x.cps.toList.drop 1 := by
  unfold cutS
  have q : HT.sIx x.length 0 (some (1 : Int)) = min 1 x.length := HT.sIx_nat x.length 0 1
  have hl : x.cps.toList.length = x.length := by simp [PySem.Str.length]
  rw [q, HT.sIx_none, Nat.min_eq_left h]
  show (x.cps.toList.drop 1).take (x.length - 1) = _
  rw [List.take_of_length_le (by rw [List.length_drop, hl]; exact Nat.le_refl _)]
theorem str_ext {a b : Str} (h : a.cps.toList = b.cps.toList) : a = b := by
  cases a
  cases b
  simp at h
  rw [h]
theorem ok_lDest {f : Addr} {fd : FuncData} (F : Fun K "_law_dest" "_law_dest" sLDest f fd) (T : TxtB mg) : FnOk P w K mg base CX0 1 f fd ["_law_flags", "_law_options", "_law_signs", "_law_is_option"] spLDest := by
  refine F.ok scLDest (fun vs H Q E h => ?_) (fun cdv A outer s H vs Q E hr h => ?_)
  · obtain ⟨fa, o, pf, gs, io, kvs, ld, rfl, _⟩ := h
    rfl
  · obtain ⟨fa, o, pf, gs, io, kvs, ld, rfl, hfa, hG, hO, hN, k⟩ := h
    have hu1 := hu_of hr
    have hn := hG.n
    have hpl := hG.pl
    refine ⟨_, XTokIn.pss_ifInT hu1 (pv 1) (pss_one (ps_ret (pe_dget hu1 (pv 1) pe_str (fun _ _ => rfl)))) pss_nil
      (psst_cons (PST.of (ps_if (pt_not (pt_val (pv 3))) (pss_one (ps_ret (pe_ix ix_list (pv 0) pe_int (fun _ _ => rfl)))) pss_nil))
      (psst_cons (PST.of (ps_setLc (i := 4) (own := [("_law_flag", 6)]) (g := gName 6) (tt := tTest (tOp (fun x y H Q => ∃ i j, x = .str i ∧ y = .str j ∧ Q (.bl (!(Builtin.Str.occurrences j i 0 j.length 1).isEmpty)) H) (tOp rIxS (tVar 6) (tC (.int 1))) (tVar 2))) (te := tVar 6) rfl scLDest.nd rfl rfl (sw_true rfl rfl rfl (by decide +kernel)) (pi_list (pv 0)) (blkOk_by (N := nLDest) (sc := defScope sLDest) (by decide +kernel)) (fun _ _ _ _ _ => pg_name (i := 6) scLDest.nd rfl (Or.inl rfl)) (fun _ _ _ _ _ => by exact pts_one (pt_cmpR op_in_str (pe_ix ix_str (pv 6) pe_int (fun _ _ => rfl)) (pv 2) (by rfl))) (fun _ _ _ _ _ => by exact pv 6)))
      (psst_cons (PST.of (ps_set (i := 5) scLDest.nd rfl (Or.inl rfl) (pe_ix ix_list (pe_op op_cat (pv 4) (pe_callTy call_list_of (by rfl) T.list (by decide +kernel) (pa_cons (pv 0) pa_nil))) pe_int (fun _ _ => rfl))))
      (psst_cons (PST.of (ps_while PassesOwn.never (pt_cmpR op_in_str (pe_ix ix_str (pv 5) pe_int (fun _ _ => rfl)) (pv 2) (by rfl)) (pss_one (ps_set (i := 5) scLDest.nd rfl (Or.inl rfl) (pe_slice sl_str (pv 5) (po_some pe_int) po_none)))))
      (CwR.psst_one (CwR.pst_ret (CwR.pet_replC (pv 5))))))))
      (by rfl), ?_⟩
    obtain ⟨ov, g1, g2⟩ := hO.get "dest"
    have hO' := hO
    rcases g2 with ⟨hd, rfl⟩ | ⟨d, v, hd, rfl, hv⟩
    · refine ⟨_, rfl, o, _, rfl, g1, false, rfl, iteF ?_⟩
      cases io with
      | false =>
        refine ⟨_, rfl, _, rfl, iteT ?_⟩
        rcases hN.pos rfl with ⟨_, hl⟩ | ⟨h, _⟩
        · obtain ⟨g, rfl⟩ : ∃ g, gs = [g] := by
            cases gs with
            | nil => cases hl
            | cons g r =>
              cases r with
              | nil => exact ⟨g, rfl⟩
              | cons _ _ => simp at hl
          refine ⟨_, rfl, fa, _, _, _, rfl, rfl, SqL.of hfa, atI_nat (j := 0) rfl, ?_⟩
          have := k _ (Same.refl H)
          unfold destOf at this
          rw [hd] at this
          exact this
        · rw [hd] at h
          cases h
      | true =>
        refine ⟨_, rfl, _, rfl, iteF ?_⟩
        obtain ⟨f0, fA⟩ := hG.op rfl
        refine ⟨_, rfl, fa, rfl, ⟨_, SqL.of hfa⟩, fun D hD => ?_⟩
        refine lc_list (K := K) (a := fa) (xs := gs.map V.str) (fun i H' => Same H H' ∧ H' D = some (.lst (((gs.take i).filter fun x => inP pf (wAt x 1)).map V.str))) ⟨same_upd hD, upd_same⟩ (fun i H' _ h => SqL.of (h.1 _ _ hfa)) (fun i x H' hx h => ?_) (fun H3 h => ?_)
        · obtain ⟨y, hy, rfl⟩ := str_at hx
          have hyf := fA y (List.mem_of_getElem? hy)
          have hyl := hyf.l2
          have hyn := hyf.ln
          have hi := (List.getElem?_eq_some_iff.mp hy).1
          refine ⟨rfl, _, rfl, y, 1, _, rfl, rfl, (by rw [PySem.sizeLine_eq]; omega), (wAt_at (x := y) (i := 1) (by omega) : atI y.cps.toList ((1 : Nat) : Int) = _), _, rfl, _, _, rfl, rfl, _, rfl, ?_⟩
          rw [take_more' hy, List.filter_append, List.filter_cons, List.filter_nil]
          have hle : (((gs.take i).filter fun x => inP pf (wAt x 1)).map V.str).length < sizeLine := by
            rw [List.length_map, PySem.sizeLine_eq]
            have := List.length_filter_le (fun x => inP pf (wAt x 1)) (gs.take i)
            rw [List.length_take] at this
            omega
          show ite (inP pf (wAt y 1) = true) _ _
          refine ite2 (fun hc => ?_) (fun hc => ?_)
          · refine ⟨_, rfl, _, h.2, hle, same_mut h.1 hD, ?_⟩
            rw [upd_same, if_pos hc, List.map_append]
            rfl
          · rw [if_neg hc, List.append_nil]
            exact h
        obtain ⟨e3, hD3⟩ := h
        rw [List.length_map, List.take_length] at hD3
        have hfa3 := e3 _ _ hfa
        refine ⟨_, rfl, _, rfl, fa, _, rfl, .inl (SqL.of hfa3), fun p2 hp2 => ?_⟩
        have e4 := same_upd (o := .lst (gs.map V.str)) hp2
        have hp2' : (upd H3 p2 (.lst (gs.map V.str))) p2 = some (.lst (gs.map V.str)) := upd_same
        have hD4 := e4 _ _ hD3
        generalize upd H3 p2 (.lst (gs.map V.str)) = H4 at e4 hp2' hD4
        have hfl := List.length_filter_le (fun x => inP pf (wAt x 1)) gs
        refine ⟨D, p2, _, _, rfl, rfl, hD4, hp2', by rw [List.length_map, List.length_map, PySem.sizeLine_eq]; omega, fun p3 hp3 => ?_⟩
        have e5 := same_upd (o := .lst ((gs.filter fun x => inP pf (wAt x 1)).map V.str ++ gs.map V.str)) hp3
        obtain ⟨z, hz, hzf⟩ : ∃ z, (gs.filter (fun x => inP pf (wAt x 1)) ++ gs)[0]? = some z ∧ FlOk pf z := by
          cases hc : gs.filter (fun x => inP pf (wAt x 1)) ++ gs with
          | nil =>
            have := (List.append_eq_nil_iff.mp hc).2
            exact absurd this f0
          | cons z r =>
            refine ⟨z, rfl, fA z ?_⟩
            have : z ∈ gs.filter (fun x => inP pf (wAt x 1)) ++ gs := by rw [hc]; exact List.mem_cons_self
            rcases List.mem_append.mp this with h | h
            · exact (List.mem_filter.mp h).1
            · exact h
        have hzn := hzf.ln
        have hh : (gs.filter (fun x => inP pf (wAt x 1)) ++ gs).headD "" = z := by
          cases hc : gs.filter (fun x => inP pf (wAt x 1)) ++ gs with
          | nil =>
            rw [hc] at hz
            cases hz
          | cons y r =>
            rw [hc] at hz
            exact Option.some.inj hz
        have fin : ∀ H', Same H H' → Q (.str (Txt.replace (Txt.lstripChars z pf) "-" "_")) H' := fun H' e => by
          have := k H' e
          unfold destOf headF at this
          rw [hd, hh] at this
          exact this
        refine ⟨p3, _, 0, V.str z, rfl, rfl, SqL.of upd_same, ?_, ?_⟩
        · have h0 : (List.map V.str (gs.filter fun x => inP pf (wAt x 1)) ++ List.map V.str gs)[0]? = some (V.str z) := by
            rw [← List.map_append, List.getElem?_map, hz]
            rfl
          exact atI_nat h0
        have e6 := ((e3.trans e4).trans e5)
        generalize upd H4 p3 _ = H5 at e5 e6
        refine while_n (fun n σ' H' => ∃ y : Str, σ' = [some (.ref fa), some (.ref o), some (.str pf), some (.bl true), some (.ref D), some (.str y), none] ∧ Same H H' ∧ y.length ≤ 40 ∧ y.cps.toList.dropWhile (inP pf) = z.cps.toList.dropWhile (inP pf) ∧ n = y.length) z.length ⟨z, rfl, e6, hzn, rfl, rfl⟩ ?_
        rintro n σ' H' ⟨y, rfl, e7, hyn, hdw, rfl⟩ Y yT yF
        have hne : y.cps.toList ≠ [] := fun q => by
          rw [q, List.dropWhile_nil] at hdw
          refine hzf.ls ?_
          rw [hzf.dw, ← hdw]
          rfl
        have hy1 : 1 ≤ y.length := by
          have : y.cps.toList.length = y.length := by simp [PySem.Str.length]
          have := List.length_pos_iff.mpr hne
          omega
        have hcons : y.cps.toList = wAt y 0 :: y.cps.toList.drop 1 := by
          unfold wAt
          cases hc : y.cps.toList with
          | nil => exact absurd hc hne
          | cons c r => rfl
        refine ⟨_, rfl, y, 0, _, rfl, rfl, (by rw [PySem.sizeLine_eq]; omega), (wAt_at (x := y) (i := 0) (by omega) : atI y.cps.toList ((0 : Nat) : Int) = _), _, rfl, _, _, rfl, rfl, _, rfl, ?_⟩
        show Y (inP pf (wAt y 0)) H'
        cases hc : inP pf (wAt y 0) with
        | true =>
          have hl1 : (cutS y (some 1) none).length = y.length - 1 := by
            have h1 := congrArg List.length (cutS_1 y hy1)
            have h2 : (cutS y (some 1) none).cps.toList.length = (cutS y (some 1) none).length := by simp [PySem.Str.length]
            have h3 : y.cps.toList.length = y.length := by simp [PySem.Str.length]
            rw [List.length_drop, h2, h3] at h1
            exact h1
          refine yT _ ⟨_, rfl, _, rfl, y, rfl, (by rw [PySem.sizeLine_eq]; omega), (cutS y (some 1) none).length, by omega, _, rfl, e7, by omega, ?_, rfl⟩
          rw [cutS_1 y hy1]
          rw [hcons, List.dropWhile_cons, hc] at hdw
          exact hdw
        | false =>
          refine yF _ ⟨_, rfl, _, rfl, replace1_len (by omega), ?_⟩
          have hy : y = Txt.lstripChars z pf := by
            rw [hzf.dw, ← hdw, hcons, List.dropWhile_cons, hc, ← hcons]
            rfl
          rw [hy]
          exact fin _ e7
    · obtain ⟨z, rfl, z0, zl⟩ := hN.des d hd
      obtain rfl : v = V.str z := by
        cases hv
        rfl
      refine ⟨_, rfl, o, _, rfl, g1, true, rfl, iteT ⟨_, rfl, o, _, rfl, g1, ?_⟩⟩
      have := k H (Same.refl H)
      unfold destOf at this
      rw [hd] at this
      exact this
end
end K67

namespace K67
open PySem L2 PyProof.Rows
/-! ### the flags that are due -/
def due1 (pf act x : Str) : List Str := if act = "yes_no" ∧ inP pf (wAt x 1) = true then [x, noF x] else [x]
def dueStep (pf act : Str) (f : List Str) (x : Str) : List Str := f ++ (due1 pf act x).filter fun y => decide (y ∉ f)
theorem due1_len (pf act x : Str) : (due1 pf act x).length ≤ 2 := by
  unfold due1
  split
  · exact Nat.le_refl 2
  · exact Nat.le_succ 1
theorem dueStep_len (pf act x : Str) (f : List Str) : (dueStep pf act f x).length ≤ f.length + 2 := by
  unfold dueStep
  rw [List.length_append]
  have h1 := List.length_filter_le (fun y => decide (y ∉ f)) (due1 pf act x)
  have h2 := due1_len pf act x
  omega
theorem due_flD (pf act : Str) (gs : List Str) : gs.foldl (dueStep pf act) [] = flD pf gs true act := by
  unfold flD flOf
  by_cases h : act = "yes_no"
  · rw [if_pos h]
    have : dueStep pf act = felStep pf := by
      funext f x
      unfold dueStep felStep due1 fel1
      by_cases hc : inP pf (wAt x 1) = true
      · rw [if_pos ⟨h, hc⟩, if_pos hc]
      · rw [if_neg (fun q => hc q.2), if_neg hc]
    rw [this]
    rfl
  · rw [if_neg h]
    have : dueStep pf act = fun f x => f ++ [x].filter fun y => decide (y ∉ f) := by
      funext f x
      unfold dueStep due1
      rw [if_neg (fun q => h q.1)]
    rw [this]
    rfl
section
variable {P : Program} {w : World} {K : PySem.W.Frag} {mg : Str → Option Value} {base : Heap}
abbrev nFlDue : List Str := ["_law_flags", "_law_action", "_law_signs", "_law_found", "_law_flag", "_law_more", "_law_one"]
theorem scFlDue : FnScope nFlDue ["_law_flags", "_law_action", "_law_signs"] (defScope sFlDue) := ⟨rfl, rfl, rfl, by decide +kernel, rfl, by decide +kernel, by decide +kernel⟩
theorem ok_flDue {f : Addr} {fd : FuncData} (F : Fun K "_law_flags_due" "_law_flags_due" sFlDue f fd) (T : TxtB mg) : FnOk P w K mg base CX0 1 f fd ["_law_flags", "_law_action", "_law_signs"] spFlDue := by
  refine F.ok scFlDue (fun vs H Q E h => ?_) (fun cdv A outer s H vs Q E hr h => ?_)
  · obtain ⟨fa, pf, gs, act, rfl, _⟩ := h
    rfl
  · obtain ⟨a, pf, fl, act, rfl, ha, hG, k⟩ := h
    have hf := (hG.op rfl).2
    have hn := hG.n
    refine ⟨_, pss_mid (ps_set (i := 3) scFlDue.nd rfl (Or.inr rfl) (pe_lst pa_nil))
      (pss_mid (ps_for PassesOwn.never rfl (pi_list (pv 0)) (pg_name (i := 4) scFlDue.nd rfl (Or.inl rfl))
        (pss_mid (ps_set (i := 5) scFlDue.nd rfl (Or.inl rfl) (pe_ifExp (PW.pt (pw_and (pt_cmpR op_eq (pv 1) pe_str (nomark _)) (pw_and1 (pt_cmpR op_in_str (pe_ix ix_str (pv 4) pe_int (fun _ _ => rfl)) (pv 2) (by rfl))))) (pe_lst (pa_cons (pv 4) (pa_cons (pe_op op_add_str (pe_op op_add_str (pe_slice sl_str (pv 4) po_none (po_some pe_int)) pe_str) (pe_slice sl_str (pv 4) (po_some pe_int) po_none)) pa_nil))) (pe_lst (pa_cons (pv 4) pa_nil))))
        (pss_one (ps_set (i := 3) scFlDue.nd rfl (Or.inr rfl) (pe_op op_cat (pv 3) (pe_lc (own := [("_law_one", 6)]) (g := gName 6) (tt := tTest (tOp (rIn K true) (tVar 6) (tVar 3))) (te := tVar 6) rfl scFlDue.nd (pi_list (pv 5)) (blkOk_by (N := nFlDue) (sc := defScope sFlDue) (by decide +kernel)) (fun _ _ _ _ _ => pg_name (i := 6) scFlDue.nd rfl (Or.inl rfl)) (fun _ _ _ _ _ => by exact pts_one (pt_cmpR op_notIn_seq (pv 6) (pv 3) (by rfl))) (fun _ _ _ _ _ => by exact pv 6)))))))
      (pss_one (ps_ret (pe_callTy call_tuple_of (by rfl) T.tuple (by decide +kernel) (pa_cons (pv 3) pa_nil))))), ?_⟩
    refine ⟨fun σ' H' => ∃ L : Addr, σ' = [some (.ref a), some (.str act), some (.str pf), some (.ref L), none, none, none] ∧ Same H H' ∧ H' L = some (.lst []), ⟨(by show 0 ≤ sizeLine; decide), fun L hL => ⟨L, rfl, same_upd hL, upd_same⟩⟩, ?_⟩
    rintro _ H1 ⟨L, rfl, e1, hL1⟩
    refine ⟨fun σ' H' => ∃ r4 r5 r6 L, σ' = [some (.ref a), some (.str act), some (.str pf), some (.ref L), r4, r5, r6] ∧ Same H H' ∧ H' L = some (.lst ((flD pf fl true act).map V.str)), ?_, ?_⟩
    · refine ⟨_, rfl, a, rfl, ⟨_, SqL.of (e1 _ _ ha)⟩, ?_⟩
      refine for_list (K := K) (a := a) (xs := fl.map V.str) (fun i σ' H' => ∃ r4 r5 r6 L, σ' = [some (.ref a), some (.str act), some (.str pf), some (.ref L), r4, r5, r6] ∧ Same H H' ∧ H' L = some (.lst (((fl.take i).foldl (dueStep pf act) []).map V.str)) ∧ ((fl.take i).foldl (dueStep pf act) []).length ≤ 2 * i) ⟨none, none, none, L, rfl, e1, hL1, Nat.le_refl _⟩ ?_ ?_ ?_
      · rintro i σ' H' _ ⟨_, _, _, _, _, e, _⟩
        exact SqL.of (e _ _ ha)
      · rintro i x σ' H' hx ⟨r4, r5, r6, L, rfl, e, hL, hlen⟩
        obtain ⟨y, hy, rfl⟩ := str_at hx
        have hyf := hf y (List.mem_of_getElem? hy)
        have hy2 := hyf.l2
        have hyn := hyf.ln
        have hi := (List.getElem?_eq_some_iff.mp hy).1
        have hnext : (fl.take (i + 1)).foldl (dueStep pf act) [] = dueStep pf act ((fl.take i).foldl (dueStep pf act) []) y := by
          rw [take_more' hy, List.foldl_append]
          rfl
        rw [hnext]
        have hsl := dueStep_len pf act y ((fl.take i).foldl (dueStep pf act) [])
        generalize (fl.take i).foldl (dueStep pf act) [] = fd0 at hL hlen hsl
        have c1 := cutS_len y none (some 2)
        have c2 := cutS_len y (some 2) none
        have c3 : (cutS y none (some 2) ++ "no-").length = (cutS y none (some 2)).length + 3 := by
          rw [PySem.Str.length_append]
          rfl
        refine ⟨fun σ' H'' => ∃ M : Addr, σ' = [some (.ref a), some (.str act), some (.str pf), some (.ref L), some (.str y), some (.ref M), r6] ∧ Same H' H'' ∧ H'' M = some (.lst ((due1 pf act y).map V.str)), ?_, ?_⟩
        · refine ⟨_, rfl, rfl, _, rfl, ?_⟩
          refine ite2 (fun hb => ?_) (fun hb => ?_)
          · have hb' : act = "yes_no" := V.str.inj (of_decide_eq_true hb)
            refine ⟨_, rfl, y, 1, _, rfl, rfl, (by rw [PySem.sizeLine_eq]; omega), (wAt_at (x := y) (i := 1) (by omega) : atI y.cps.toList ((1 : Nat) : Int) = _), _, rfl, _, _, rfl, rfl, _, rfl, ?_⟩
            show ite (inP pf (wAt y 1) = true) _ _
            refine ite2 (fun hc => ?_) (fun hc => ?_)
            · refine ⟨_, rfl, _, rfl, _, rfl, y, rfl, (by rw [PySem.sizeLine_eq]; omega), _, _, rfl, rfl, (by rw [PySem.sizeLine_eq]; show _ + 3 ≤ _; omega), _, rfl, _, rfl, y, rfl, (by rw [PySem.sizeLine_eq]; omega), _, _, rfl, rfl, (by rw [c3, PySem.sizeLine_eq]; omega), (by show 2 ≤ sizeLine; decide), fun M hM => ⟨M, rfl, same_upd hM, ?_⟩⟩
              rw [upd_same]
              unfold due1
              rw [if_pos ⟨hb', hc⟩]
              rfl
            · refine ⟨_, rfl, (by show 1 ≤ sizeLine; decide), fun M hM => ⟨M, rfl, same_upd hM, ?_⟩⟩
              rw [upd_same]
              unfold due1
              rw [if_neg (fun q => hc q.2)]
              rfl
          · have hb' : act ≠ "yes_no" := fun q => hb (decide_eq_true (congrArg V.str q))
            refine ⟨_, rfl, (by show 1 ≤ sizeLine; decide), fun M hM => ⟨M, rfl, same_upd hM, ?_⟩⟩
            rw [upd_same]
            unfold due1
            rw [if_neg (fun q => hb' q.1)]
            rfl
        rintro _ H2 ⟨M, rfl, e2, hM⟩
        have hL2 := e2 _ _ hL
        have hf2 := due1_len pf act y
        refine ⟨_, rfl, _, rfl, M, rfl, ⟨_, SqL.of hM⟩, fun D hD => ?_⟩
        refine lc_list (K := K) (a := M) (xs := (due1 pf act y).map V.str) (fun i H' => Same H2 H' ∧ H' D = some (.lst ((((due1 pf act y).take i).filter fun z => decide (z ∉ fd0)).map V.str))) ⟨same_upd hD, upd_same⟩ (fun i H' _ h => SqL.of (h.1 _ _ hM)) (fun j x H' hx h => ?_) (fun H5 h => ?_)
        · obtain ⟨z, hz, rfl⟩ := str_at hx
          have hLz := h.1 _ _ hL2
          refine ⟨rfl, _, rfl, _, rfl, L, _, rfl, .inl (SqL.of hLz), rfl, flat_strs _, _, rfl, ?_⟩
          rw [take_more' hz, List.filter_append, List.filter_cons, List.filter_nil, if_pos rfl, inV_strs]
          have hle : ((((due1 pf act y).take j).filter fun z => decide (z ∉ fd0)).map V.str).length < sizeLine := by
            rw [List.length_map, PySem.sizeLine_eq]
            have := List.length_filter_le (fun z => decide (z ∉ fd0)) ((due1 pf act y).take j)
            rw [List.length_take] at this
            omega
          by_cases hc : z ∈ fd0
          · rw [decide_eq_true hc]
            refine iteF ?_
            rw [if_neg (by rw [decide_eq_false (fun q => q hc)]; exact Bool.false_ne_true), List.append_nil]
            exact h
          · rw [decide_eq_false hc]
            refine iteT ⟨_, rfl, _, h.2, hle, same_mut h.1 hD, ?_⟩
            rw [upd_same, if_pos (decide_eq_true hc), List.map_append]
            rfl
        · obtain ⟨e5, hD5⟩ := h
          rw [List.length_map, List.take_length] at hD5
          have hL5 := e5 _ _ hL2
          have hfl := List.length_filter_le (fun z => decide (z ∉ fd0)) (due1 pf act y)
          refine ⟨L, D, _, _, rfl, rfl, hL5, hD5, by rw [List.length_map, List.length_map, PySem.sizeLine_eq]; omega, fun c hc => ⟨_, _, _, c, rfl, same_upd2 (e.trans (e2.trans e5)) hc, ?_, by omega⟩⟩
          rw [upd_same]
          unfold dueStep
          rw [List.map_append]
      · rintro σ' H' ⟨r4, r5, r6, L, rfl, e, hL, _⟩
        rw [List.length_map, List.take_length, due_flD] at hL
        exact ⟨r4, r5, r6, L, rfl, e, hL⟩
    · rintro _ H2 ⟨r4, r5, r6, L, rfl, e2, hL2⟩
      exact ⟨_, rfl, L, _, rfl, .inl ⟨SqL.of hL2, fun U hU => k U _ (same_upd2 e2 hU) upd_same⟩⟩
end
end K67

namespace K67
open PySem L2 PyProof.Rows
/-! ### what is due of an argument -/
def fdD (pf : Str) (gs : List Str) (io : Bool) (act : Str) : List Str := if io then flD pf gs true act else []
theorem fdD_eq (pf : Str) (gs : List Str) (io : Bool) (act : Str) : fdD pf gs io act = flD pf gs io act := by
  unfold fdD
  cases io with
  | true => rfl
  | false =>
    have : flD pf gs false act = [] := by
      unfold flD
      split <;> rfl
    rw [this]
    rfl
def dueL (pf : Str) (gs : List Str) (io : Bool) (act : Str) (ld : DD) : List PyData :=
  [.tuple ((flD pf gs io act).map PyData.str), .str (destOf pf gs io ld), .str act, nnD act ld, coD act ld, deD act ld, gD ld "kind", gD ld "choices", reD io act ld, heD act ld, meD ld, gD ld "version"]
def spDue : Sp := fun vs H Q _ => ∃ (fa o : Addr) (pf : Str) (gs : List Str) (io : Bool) (act : Str) (kvs : List (Key × V)) (ld : DD), vs = [.ref fa, .ref o, .str pf, .bl io] ∧ H fa = some (.lst (gs.map V.str)) ∧ Gv pf gs io ∧ OpH H o kvs ld ∧ Nmd gs io ld ∧ OkO io act ld ∧ ∀ (D : Addr) (H' : Hp), Same H H' → Dt H' (.ref D) (.list (dueL pf gs io act ld)) → Q (.ref D) H'
theorem dt_getD {H : Hp} {ov : Option V} {ld : DD} {k : Str} {d0 : PyData} {v0 : V} (h : (lookD ld k = none ∧ ov = none) ∨ ∃ d v, lookD ld k = some d ∧ ov = some v ∧ Dt H v d) (h0 : Dt H v0 d0) : Dt H (ov.getD v0) ((lookD ld k).getD d0) := by
  rcases h with ⟨h1, rfl⟩ | ⟨d, v, h1, rfl, h3⟩
  · rw [h1]
    exact h0
  · rw [h1]
    exact h3
theorem val2 {k1 k2 x : Str} {a b : V} : valV (mergeK [] [((Sum.inr k1 : Key), a), (Sum.inr k2, b)]) (Sum.inr x) = if k1 = k2 then (if x = k1 then some b else none) else if x = k1 then some a else if x = k2 then some b else none := by
  unfold mergeK
  rw [List.foldl_cons, List.foldl_cons, List.foldl_nil]
  have p1 : putK [] (Sum.inr k1 : Key) a = [(Sum.inr k1, a)] := rfl
  rw [p1]
  unfold putK valV
  by_cases e : k1 = k2
  · subst e
    simp only [List.any_cons, List.any_nil, decide_true, Bool.or_false, List.map_cons, List.map_nil, if_true]
    rw [List.find?_cons]
    by_cases h : x = k1
    · subst h
      rw [if_pos rfl, decide_eq_true rfl]
      rfl
    · have : ¬ ((Sum.inr k1 : Key) = Sum.inr x) := fun z => h (Sum.inr.inj z).symm
      rw [if_neg h, decide_eq_false this]
      rfl
  · have n1 : ¬ ((Sum.inr k1 : Key) = Sum.inr k2) := fun z => e (Sum.inr.inj z)
    rw [if_neg e]
    simp only [List.any_cons, List.any_nil, decide_eq_false n1, Bool.or_false, Bool.false_eq_true, if_false]
    rw [List.cons_append, List.nil_append, List.find?_cons, List.find?_cons]
    by_cases h : x = k1
    · subst h
      rw [if_pos rfl, decide_eq_true rfl]
      rfl
    · have : ¬ ((Sum.inr k1 : Key) = Sum.inr x) := fun z => h (Sum.inr.inj z).symm
      rw [if_neg h, decide_eq_false this]
      dsimp only
      by_cases h2 : x = k2
      · subst h2
        rw [if_pos rfl, decide_eq_true rfl]
        rfl
      · have : ¬ ((Sum.inr k2 : Key) = Sum.inr x) := fun z => h2 (Sum.inr.inj z).symm
        rw [if_neg h2, decide_eq_false this]
        rfl
section
variable {P : Program} {w : World} {K : PySem.W.Frag} {mg : Str → Option Value} {base : Heap}
abbrev nDue : List Str := ["_law_flags", "_law_options", "_law_signs", "_law_is_option", "_law_action", "_law_words", "_law_nargs", "_law_const", "_law_default", "_law_required", "_law_text", "_law_metavar", "_law_made", "_law_head"]
theorem scDue : FnScope nDue ["_law_flags", "_law_options", "_law_signs", "_law_is_option"] (defScope sDue) := ⟨rfl, rfl, rfl, by decide +kernel, rfl, by decide +kernel, by decide +kernel⟩
theorem ok_due {f fFd fDs aW aC aO aN aL aA : Addr} {fd fdFd fdDs : FuncData} (F : Fun K "_law_due" "_law_due" sDue f fd) (T : TxtB mg) (Z : TxtK K mg aW aC aO aN aL aA) (Fd : At P w K mg base "_law_flags_due" 1 ["_law_flags", "_law_action", "_law_signs"] spFlDue fFd fdFd) (Ds : At P w K mg base "_law_dest" 1 ["_law_flags", "_law_options", "_law_signs", "_law_is_option"] spLDest fDs fdDs) :
    FnOk P w K mg base CX0 2 f fd ["_law_flags", "_law_options", "_law_signs", "_law_is_option"] spDue := by
  refine F.ok scDue (fun vs H Q E h => ?_) (fun cdv A outer s H vs Q E hr h => ?_)
  · obtain ⟨fa, o, pf, gs, io, act, kvs, ld, rfl, _⟩ := h
    rfl
  · obtain ⟨fa, o, pf, gs, io, act, kvs, ld, rfl, hfa, hG, hO, hN, hK, k⟩ := h
    have hu1 := hu_of hr
    have r1 : Room 1 (A.deeper (PyProof.Rows.envOfC "_law_due" (defScope sDue) s.heap.objs.size f cdv)) := hr.mono (by decide)
    obtain ⟨tsup, hsup⟩ := Z.sup
    refine ⟨_, ((pss_mid (ps_set (i := 4) scDue.nd rfl (Or.inl rfl) (pe_dget2 hu1 (pv 1) pe_str pe_str ⟨rfl, rfl, rfl, rfl⟩))
      (pss_mid (ps_set (i := 5) scDue.nd rfl (Or.inl rfl) (pe_cmpR op_in_seq (pv 4) (pe_tup (pa_cons pe_str (pa_cons pe_str (pa_cons pe_str pa_nil)))) (by rfl)))
      (pss_mid (ps_set (i := 6) scDue.nd rfl (Or.inl rfl) (pe_ifExp (pt_val (pv 5)) (pe_dget1 hu1 (pv 1) pe_str ⟨rfl, rfl, rfl, rfl⟩) pe_int))
      (pss_mid (ps_set (i := 7) scDue.nd rfl (Or.inl rfl) (pe_dget2 hu1 (pe_disp (pps_cons pe_str pe_bl (pps_cons pe_str pe_bl pps_nil)) (by rfl) (by rfl) (fun z => by cases z) (by decide)) (pv 4) (pe_dget1 hu1 (pv 1) pe_str ⟨rfl, rfl, rfl, rfl⟩) ⟨rfl, rfl, rfl, rfl⟩))
      (pss_mid (ps_set (i := 8) scDue.nd rfl (Or.inl rfl) (pe_dget2 hu1 (pv 1) pe_str (pe_dget1 hu1 (pe_disp (pps_cons pe_str pe_bl (pps_cons pe_str pe_bl pps_nil)) (by rfl) (by rfl) (fun z => by cases z) (by decide)) (pv 4) ⟨rfl, rfl, rfl, rfl⟩) ⟨rfl, rfl, rfl, rfl⟩))
      (pss_mid (ps_set (i := 8) scDue.nd rfl (Or.inl rfl) (pe_ifExp (pt_cmpR op_in_seq (pv 4) (pe_tup (pa_cons pe_str (pa_cons pe_str pa_nil))) (by rfl)) (pe_glob (v := .str SUP) rfl hsup ⟨tsup, rfl⟩) (pv 8)))
      (pss_mid (ps_set (i := 9) scDue.nd rfl (Or.inl rfl) (pe_ifExp (pt_val (pv 3)) (pe_dget2 hu1 (pv 1) pe_str pe_bl ⟨rfl, rfl, rfl, rfl⟩) (pe_cmpR op_notIn_seq (pv 6) (pe_tup (pa_cons pe_str (pa_cons pe_str (pa_cons pe_str pa_nil)))) (by rfl))))
      (pss_mid (ps_set (i := 10) scDue.nd rfl (Or.inl rfl) (pe_dget1 hu1 (pv 1) pe_str ⟨rfl, rfl, rfl, rfl⟩))
      (pss_mid (ps_set (i := 10) scDue.nd rfl (Or.inl rfl) (pe_ifExp (PW.pt (pw_and (pt_cmpR op_eq (pv 4) pe_str (nomark _)) (pw_and1 (pt_cmp (pc_isN (pv 10)))))) pe_str (pv 10)))
      (pss_mid (ps_set (i := 11) scDue.nd rfl (Or.inl rfl) (pe_dget1 hu1 (pv 1) pe_str ⟨rfl, rfl, rfl, rfl⟩))
      (pss_mid (ps_set (i := 11) scDue.nd rfl (Or.inl rfl) (pe_ifExp (pt_val (pe_callB call_isi (by rfl) T.isinstance (by decide +kernel) (pa_cons (pv 11) (pa_cons (pe_bltn (v := .ty "list") (by rfl) T.list (by decide +kernel) rfl) pa_nil)))) (pe_callTy call_tuple_of (by rfl) T.tuple (by decide +kernel) (pa_cons (pv 11) pa_nil)) (pv 11)))
      (pss_mid (ps_set (i := 12) scDue.nd rfl (Or.inl rfl) (pe_ifExp (pt_val (pv 3)) (pe_call Fd.ok r1 rfl Fd.m Fd.k Fd.b .nil pass0 (pa_cons (pv 0) (pa_cons (pv 4) (pa_cons (pv 2) pa_nil)))) (pe_tup pa_nil)))
      (pss_mid (ps_set (i := 13) scDue.nd rfl (Or.inl rfl) (pe_lst (pa_cons (pv 12) (pa_cons (pe_call Ds.ok r1 rfl Ds.m Ds.k Ds.b .nil pass0 (pa_cons (pv 0) (pa_cons (pv 1) (pa_cons (pv 2) (pa_cons (pv 3) pa_nil))))) (pa_cons (pv 4) (pa_cons (pv 6) (pa_cons (pv 7) (pa_cons (pv 8) (pa_cons (pe_dget1 hu1 (pv 1) pe_str ⟨rfl, rfl, rfl, rfl⟩) pa_nil)))))))))
      (pss_one (ps_ret (pe_op op_cat (pv 13) (pe_lst (pa_cons (pe_dget1 hu1 (pv 1) pe_str ⟨rfl, rfl, rfl, rfl⟩) (pa_cons (pv 9) (pa_cons (pv 10) (pa_cons (pv 11) (pa_cons (pe_dget1 hu1 (pv 1) pe_str ⟨rfl, rfl, rfl, rfl⟩) pa_nil))))))))))))))))))))))), ?_⟩
    refine ⟨fun σ' H' => σ' = [some (.ref fa), some (.ref o), some (.str pf), some (.bl io), some (.str act), none, none, none, none, none, none, none, none, none] ∧ H = H', ?_, ?_⟩
    · obtain ⟨ov, g1, g2⟩ := hO.get "action"
      have ha := dt_getD (v0 := .str "store") g2 (.str "store")
      rw [hK.al] at ha
      have ha' : ov.getD (.str "store") = .str act := by
        generalize ov.getD (.str "store") = x at ha
        cases ha
        rfl
      refine ⟨_, rfl, o, rfl, hO.iD, ov, g1, ?_⟩
      rw [ha']
      exact ⟨rfl, rfl⟩
    rintro _ _ ⟨rfl, rfl⟩
    refine ⟨fun σ' H' => σ' = [some (.ref fa), some (.ref o), some (.str pf), some (.bl io), some (.str act), some (.bl (decide (act ∈ WWs))), none, none, none, none, none, none, none, none] ∧ Same H H', ?_, ?_⟩
    · refine ⟨_, rfl, (by show 3 ≤ sizeLine; decide), fun q hq => ?_⟩
      have eq := same_upd (o := .tup [.str "store", .str "append", .str "extend"]) hq
      have hq1 : (upd H q (.tup [.str "store", .str "append", .str "extend"])) q = some (.tup (WWs.map V.str)) := upd_same
      generalize upd H q (.tup [.str "store", .str "append", .str "extend"]) = G at eq hq1
      refine ⟨q, _, rfl, .inr (SqT.of hq1), rfl, flat_strs _, ?_⟩
      rw [if_neg Bool.false_ne_true, inV_strs]
      exact ⟨rfl, eq⟩
    rintro _ H1 ⟨rfl, e1⟩
    -- nargs
    refine ⟨fun σ' H' => ∃ nn, σ' = [some (.ref fa), some (.ref o), some (.str pf), some (.bl io), some (.str act), some (.bl (decide (act ∈ WWs))), some nn, none, none, none, none, none, none, none] ∧ H1 = H' ∧ Dt emp nn (nnD act ld), ?_, ?_⟩
    · refine ⟨_, rfl, _, rfl, ?_⟩
      refine ite2 (fun h => ?_) (fun h => ?_)
      · have hw := of_decide_eq_true h
        obtain ⟨nv, hnv, hn1, _⟩ := hK.na hw
        have hO1 := hO.keep e1
        obtain ⟨ov, g1, g2⟩ := hO1.getN "nargs"
        have hd : Dt emp (ov.getD .non) (nnD act ld) := by
          unfold nnD
          rw [if_pos hw]
          refine dt_emp g2 ?_
          rw [hn1]
          cases nv <;> first | exact .inl rfl | exact .inr (.inl ⟨_, rfl⟩) | exact .inr (.inr (.inl ⟨_, rfl⟩)) | exact .inr (.inr (.inr ⟨_, rfl⟩))
        exact ⟨_, rfl, o, rfl, hO1.iD, ov, g1, _, rfl, rfl, hd⟩
      · have hw : act ∉ WWs := fun q => h (decide_eq_true q)
        have hd : Dt emp (.int 0) (nnD act ld) := by
          unfold nnD
          rw [if_neg hw]
          exact .int 0
        exact ⟨_, rfl, rfl, hd⟩
    rintro _ _ ⟨nn, rfl, rfl, hnn⟩
    -- const
    refine ⟨fun σ' H' => ∃ co, σ' = [some (.ref fa), some (.ref o), some (.str pf), some (.bl io), some (.str act), some (.bl (decide (act ∈ WWs))), some nn, some co, none, none, none, none, none, none] ∧ Same H H' ∧ Dt H' co (coD act ld), ?_, ?_⟩
    · intro q hq
      have eq := same_upd (o := .dK []) hq
      refine ⟨(upd_same : (upd H1 q (.dK [])) q = some (.dK [])), [((Sum.inr ("store_true" : Str) : Key), .bl true), (Sum.inr ("store_false" : Str), .bl false)], rfl, by decide, _, rfl, .inl ⟨_, .inl upd_same⟩, _, rfl, ?_⟩
      have e2 : Same H1 (upd (upd H1 q (.dK [])) q (.dK (mergeK [] [((Sum.inr ("store_true" : Str) : Key), .bl true), (Sum.inr ("store_false" : Str), .bl false)]))) := same_mut eq hq
      have hq2 : (upd (upd H1 q (.dK [])) q (.dK (mergeK [] [((Sum.inr ("store_true" : Str) : Key), .bl true), (Sum.inr ("store_false" : Str), .bl false)]))) q = some (.dK (mergeK [] [((Sum.inr ("store_true" : Str) : Key), .bl true), (Sum.inr ("store_false" : Str), .bl false)])) := upd_same
      generalize (upd (upd H1 q (.dK [])) q _) = G at e2 hq2
      have hO2 := (hO.keep e1).keep e2
      obtain ⟨ov, g1, g2⟩ := hO2.getN "const"
      refine ⟨_, rfl, o, rfl, hO2.iD, ov, g1, _, DGet.k (k := (Sum.inr act : Key)) hq2, ?_⟩
      rw [val2, if_neg (by decide)]
      unfold coD
      by_cases h1 : act = "store_true"
      · rw [if_pos h1, if_pos (.inl h1), decide_eq_true h1]
        exact ⟨_, rfl, e1.trans e2, .bl true⟩
      · by_cases h2 : act = "store_false"
        · rw [if_neg h1, if_pos h2, if_pos (.inr h2), decide_eq_false h1]
          exact ⟨_, rfl, e1.trans e2, .bl false⟩
        · rw [if_neg h1, if_neg h2, if_neg (fun z => z.elim h1 h2)]
          exact ⟨_, rfl, e1.trans e2, g2⟩
    rintro _ H2 ⟨co, rfl, e2, hco⟩
    -- default
    refine ⟨fun σ' H' => ∃ de, σ' = [some (.ref fa), some (.ref o), some (.str pf), some (.bl io), some (.str act), some (.bl (decide (act ∈ WWs))), some nn, some co, some de, none, none, none, none, none] ∧ Same H2 H' ∧ ((act ≠ "help" ∧ act ≠ "version") → Dt H' de (deD act ld)), ?_, ?_⟩
    · obtain ⟨ov, g1, g2⟩ := (hO.keep e2).get "default"
      refine ⟨_, rfl, o, rfl, (hO.keep e2).iD, ?_⟩
      intro q hq
      have eq := same_upd (o := .dK []) hq
      refine ⟨(upd_same : (upd H2 q (.dK [])) q = some (.dK [])), [((Sum.inr ("store_true" : Str) : Key), .bl false), (Sum.inr ("store_false" : Str), .bl true)], rfl, by decide, _, rfl, .inl ⟨_, .inl upd_same⟩, _, rfl, ?_⟩
      have e3 : Same H2 (upd (upd H2 q (.dK [])) q (.dK (mergeK [] [((Sum.inr ("store_true" : Str) : Key), .bl false), (Sum.inr ("store_false" : Str), .bl true)]))) := same_mut eq hq
      have hq2 : (upd (upd H2 q (.dK [])) q (.dK (mergeK [] [((Sum.inr ("store_true" : Str) : Key), .bl false), (Sum.inr ("store_false" : Str), .bl true)]))) q = some (.dK (mergeK [] [((Sum.inr ("store_true" : Str) : Key), .bl false), (Sum.inr ("store_false" : Str), .bl true)])) := upd_same
      generalize (upd (upd H2 q (.dK [])) q _) = G at e3 hq2
      obtain ⟨ov, g1, g2⟩ := (hO.keep (e2.trans e3)).get "default"
      refine ⟨_, DGet.k (k := (Sum.inr act : Key)) hq2, ov, g1, _, rfl, e3, fun hn => ?_⟩
      rw [val2, if_neg (by decide)]
      unfold deD
      rcases g2 with ⟨h1, rfl⟩ | ⟨d, v, h1, rfl, h3⟩
      · rw [h1]
        show Dt G (Option.getD (if act = "store_true" then some (V.bl false) else if act = "store_false" then some (V.bl true) else none) V.non) (if act = "help" ∨ act = "version" then PyData.str SUP else if act = "store_true" ∨ act = "store_false" then .bool (decide (act = "store_false")) else .none)
        rw [if_neg (fun z : act = "help" ∨ act = "version" => z.elim hn.1 hn.2)]
        by_cases h1 : act = "store_true"
        · subst h1
          exact .bl false
        · by_cases h2 : act = "store_false"
          · subst h2
            exact .bl true
          · rw [if_neg h1, if_neg h2, if_neg (fun z : act = "store_true" ∨ act = "store_false" => z.elim h1 h2)]
            exact .non
      · rw [h1]
        exact h3
    rintro _ H3 ⟨de0, rfl, e3, hde0⟩
    refine ⟨fun σ' H' => ∃ de, σ' = [some (.ref fa), some (.ref o), some (.str pf), some (.bl io), some (.str act), some (.bl (decide (act ∈ WWs))), some nn, some co, some de, none, none, none, none, none] ∧ Same H3 H' ∧ Dt H' de (deD act ld), ?_, ?_⟩
    · refine ⟨_, rfl, (by show 2 ≤ sizeLine; decide), fun q hq => ?_⟩
      have eq := same_upd (o := .tup [.str "help", .str "version"]) hq
      have hq1 : (upd H3 q (.tup [.str "help", .str "version"])) q = some (.tup ((["help", "version"] : List Str).map V.str)) := upd_same
      generalize upd H3 q (.tup [.str "help", .str "version"]) = G at eq hq1
      refine ⟨q, _, rfl, .inr (SqT.of hq1), rfl, flat_strs _, _, rfl, ?_⟩
      rw [if_neg Bool.false_ne_true, inV_strs]
      refine ite2 (fun h => ?_) (fun h => ?_)
      · have h' : act = "help" ∨ act = "version" := by
          have := of_decide_eq_true h
          simpa using this
        refine ⟨_, rfl, eq, ?_⟩
        have hl : lookD ld "default" = none := hK.no (by rcases h' with rfl | rfl <;> decide +kernel)
        unfold deD
        rw [hl]
        show Dt G (.str SUP) (if act = "help" ∨ act = "version" then PyData.str SUP else if act = "store_true" ∨ act = "store_false" then .bool (decide (act = "store_false")) else .none)
        rw [if_pos h']
        exact .str SUP
      · have h' : act ≠ "help" ∧ act ≠ "version" := by
          have : act ∉ (["help", "version"] : List Str) := fun q => h (decide_eq_true q)
          simpa using this
        exact ⟨_, rfl, _, rfl, eq, Dt.mono eq _ _ (hde0 h')⟩
    rintro _ H4 ⟨de, rfl, e4, hde⟩
    have eH4 := e2.trans (e3.trans e4)
    -- required
    refine ⟨fun σ' H' => ∃ re, σ' = [some (.ref fa), some (.ref o), some (.str pf), some (.bl io), some (.str act), some (.bl (decide (act ∈ WWs))), some nn, some co, some de, some re, none, none, none, none] ∧ Same H4 H' ∧ Dt emp re (reD io act ld), ?_, ?_⟩
    · refine ⟨_, rfl, _, rfl, ?_⟩
      refine ite2 (fun h => ?_) (fun h => ?_)
      · obtain ⟨ov, g1, g2⟩ := (hO.keep eH4).get "required"
        refine ⟨_, rfl, o, rfl, (hO.keep eH4).iD, ov, g1, _, rfl, Same.refl _, ?_⟩
        unfold reD
        rw [h, if_pos rfl]
        rcases g2 with ⟨q1, rfl⟩ | ⟨d, v, q1, rfl, q3⟩
        · rw [q1]
          exact .bl false
        · obtain ⟨_, b, rfl⟩ := hK.rq d q1
          rw [q1]
          cases q3
          exact .bl b
      · have hio : io = false := by
          cases io with
          | true => exact absurd rfl h
          | false => rfl
        have hw := hK.ap hio
        obtain ⟨nv, hnv, hn1, _⟩ := hK.na hw
        have hnv2 : nn = nv := by
          have hnn' := hnn
          unfold nnD at hnn'
          rw [if_pos hw, hn1] at hnn'
          exact dt_n hnv hnn'
        refine ⟨_, rfl, (by show 3 ≤ sizeLine; decide), fun q2 hq2 => ⟨q2, _, rfl, .inr (SqT.of upd_same), dt_flat hnn, by decide +kernel, ?_⟩⟩
        rw [if_pos rfl, hnv2]
        have eq2 := same_upd (o := .tup [.str "?", .str "*", .str "..."]) hq2
        have hd : Dt emp (.bl (!(inV nv [.str "?", .str "*", .str "..."]))) (reD io act ld) := by
          have : reD io act ld = .bool (!(inV nv [.str "?", .str "*", .str "..."])) := by
            unfold reD nnD
            rw [hio, if_neg Bool.false_ne_true, if_pos hw, hn1]
            exact congrArg PyData.bool ((by decide +kernel : ∀ v ∈ nMenu, needD (scD v) = !(inV v [.str "?", .str "*", .str "..."])) nv hnv)
          rw [this]
          exact .bl _
        exact ⟨_, rfl, eq2, hd⟩
    rintro _ H5 ⟨re, rfl, e5, hre⟩
    have eH5 := eH4.trans e5
    -- help
    refine ⟨fun σ' H' => ∃ te, σ' = [some (.ref fa), some (.ref o), some (.str pf), some (.bl io), some (.str act), some (.bl (decide (act ∈ WWs))), some nn, some co, some de, some re, some te, none, none, none] ∧ H5 = H' ∧ Dt emp te (gD ld "help"), ?_, ?_⟩
    · obtain ⟨ov, g1, g2⟩ := (hO.keep eH5).getN "help"
      exact ⟨_, rfl, o, rfl, (hO.keep eH5).iD, ov, g1, _, rfl, rfl, dt_emp g2 (hK.he.imp id fun ⟨z, q⟩ => .inr (.inr ⟨z, q⟩))⟩
    rintro _ _ ⟨te0, rfl, rfl, hte0⟩
    refine ⟨fun σ' H' => ∃ te, σ' = [some (.ref fa), some (.ref o), some (.str pf), some (.bl io), some (.str act), some (.bl (decide (act ∈ WWs))), some nn, some co, some de, some re, some te, none, none, none] ∧ H5 = H' ∧ Dt emp te (heD act ld), ?_, ?_⟩
    · refine ⟨_, rfl, rfl, _, rfl, ?_⟩
      refine ite2 (fun hc => ?_) (fun hc => iteF ⟨_, rfl, _, rfl, rfl, ?_⟩)
      · have hv := V.str.inj (of_decide_eq_true hc)
        refine ⟨_, rfl, _, rfl, ?_⟩
        rcases hK.he with q | ⟨z, q⟩
        · rw [q] at hte0
          have hn : te0 = .non := by
            cases hte0
            rfl
          rw [hn]
          refine iteT ⟨_, rfl, rfl, ?_⟩
          unfold heD
          rw [q]
          show Dt emp (.str VH) (if act = "version" then .str VH else .none)
          rw [if_pos hv]
          exact .str _
        · rw [q] at hte0
          have hn : te0 = .str z := by
            cases hte0
            rfl
          subst hn
          refine iteF ⟨_, rfl, _, rfl, rfl, ?_⟩
          unfold heD
          rw [q]
          exact hte0
      · unfold heD
        rcases hK.he with q | ⟨z, q⟩
        · rw [q] at hte0 ⊢
          show Dt emp te0 (if act = "version" then PyData.str VH else .none)
          rw [if_neg fun x => hc (decide_eq_true (congrArg V.str x))]
          exact hte0
        · rw [q] at hte0 ⊢
          exact hte0
    rintro _ _ ⟨te, rfl, rfl, hte⟩
    -- metavar
    refine ⟨fun σ' H' => ∃ me, σ' = [some (.ref fa), some (.ref o), some (.str pf), some (.bl io), some (.str act), some (.bl (decide (act ∈ WWs))), some nn, some co, some de, some re, some te, some me, none, none] ∧ H5 = H' ∧ Dt H5 me (gD ld "metavar"), ?_, ?_⟩
    · obtain ⟨ov, g1, g2⟩ := (hO.keep eH5).getN "metavar"
      exact ⟨_, rfl, o, rfl, (hO.keep eH5).iD, ov, g1, _, rfl, rfl, g2⟩
    rintro _ _ ⟨me0, rfl, rfl, hme0⟩
    refine ⟨fun σ' H' => ∃ me, σ' = [some (.ref fa), some (.ref o), some (.str pf), some (.bl io), some (.str act), some (.bl (decide (act ∈ WWs))), some nn, some co, some de, some re, some te, some me, none, none] ∧ Same H5 H' ∧ Dt H' me (meD ld), ?_, ?_⟩
    · unfold meD
      generalize gD ld "metavar" = d at hme0
      cases hme0 with
      | non => exact ⟨_, rfl, _, .ty "list", _, _, false, rfl, .ty _, .base (.non), kit_ty (by decide +kernel), _, rfl, iteF ⟨_, rfl, _, rfl, Same.refl _, .non⟩⟩
      | bl b => exact ⟨_, rfl, _, .ty "list", _, _, false, rfl, .ty _, .base (.bl b), kit_ty (by decide +kernel), _, rfl, iteF ⟨_, rfl, _, rfl, Same.refl _, .bl b⟩⟩
      | int i => exact ⟨_, rfl, _, .ty "list", _, _, false, rfl, .ty _, .base (.int i), kit_ty (by decide +kernel), _, rfl, iteF ⟨_, rfl, _, rfl, Same.refl _, .int i⟩⟩
      | str x => exact ⟨_, rfl, _, .ty "list", _, _, false, rfl, .ty _, .base (.str x), kit_ty (by decide +kernel), _, rfl, iteF ⟨_, rfl, _, rfl, Same.refl _, .str x⟩⟩
      | @lst a xs ds ha hds =>
        refine ⟨_, rfl, .ref a, .ty "list", _, _, true, rfl, .ty _, .base (.lst ha), kit_ty (by decide +kernel), _, rfl, iteT ⟨_, rfl, a, _, rfl, .inl ⟨SqL.of ha, fun U hU => ?_⟩⟩⟩
        exact ⟨_, rfl, same_upd hU, .tup upd_same (DtAll.mono (same_upd hU) _ _ hds)⟩
      | @tup a xs ds ha hds =>
        exact ⟨_, rfl, .ref a, .ty "list", _, _, false, rfl, .ty _, .base (.tup ha), kit_ty (by decide +kernel), _, rfl, iteF ⟨_, rfl, _, rfl, Same.refl _, .tup ha hds⟩⟩
    rintro _ H6 ⟨me, rfl, e6, hme⟩
    have eH6 := eH5.trans e6
    -- flags
    refine ⟨fun σ' H' => ∃ U, σ' = [some (.ref fa), some (.ref o), some (.str pf), some (.bl io), some (.str act), some (.bl (decide (act ∈ WWs))), some nn, some co, some de, some re, some te, some me, some (.ref U), none] ∧ Same H6 H' ∧ H' U = some (.tup ((flD pf gs io act).map V.str)), ?_, ?_⟩
    · rw [← fdD_eq]
      unfold fdD
      refine ⟨_, rfl, _, rfl, ?_⟩
      refine ite2 (fun h => ?_) (fun h => ?_)
      · have hG' : Gv pf gs true := by
          rw [← h]
          exact hG
        refine ⟨_, rfl, _, rfl, _, rfl, fa, pf, gs, act, rfl, eH6 _ _ hfa, hG', fun U H' e hU => ⟨U, rfl, e, ?_⟩⟩
        rw [if_pos h]
        exact hU
      · refine ⟨(by show 0 ≤ sizeLine; decide), fun U hU => ⟨U, rfl, same_upd hU, ?_⟩⟩
        rw [upd_same, if_neg h]
        rfl
    rintro _ H7 ⟨U, rfl, e7, hU⟩
    have eH7 := eH6.trans e7
    -- the first seven
    refine ⟨fun σ' H' => ∃ D ki, σ' = [some (.ref fa), some (.ref o), some (.str pf), some (.bl io), some (.str act), some (.bl (decide (act ∈ WWs))), some nn, some co, some de, some re, some te, some me, some (.ref U), some (.ref D)] ∧ Same H7 H' ∧ H' D = some (.lst [.ref U, .str (destOf pf gs io ld), .str act, nn, co, de, ki]) ∧ Dt H' ki (gD ld "kind"), ?_, ?_⟩
    · refine ⟨_, rfl, _, rfl, _, rfl, _, rfl, _, rfl, fa, o, pf, gs, io, kvs, ld, rfl, eH7 _ _ hfa, hG, hO.keep eH7, hN, fun H' e => ?_⟩
      have hO8 := hO.keep (eH7.trans e)
      obtain ⟨ov, g1, g2⟩ := hO8.getN "kind"
      refine ⟨_, rfl, _, rfl, _, rfl, _, rfl, _, rfl, o, rfl, hO8.iD, ov, g1, (by show 7 ≤ sizeLine; decide), fun D hD => ⟨D, _, rfl, e.trans (same_upd hD), upd_same, Dt.mono (same_upd hD) _ _ g2⟩⟩
    rintro _ H8 ⟨D, ki, rfl, e8, hD, hki⟩
    have eH8 := eH7.trans e8
    have hO8 := hO.keep eH8
    obtain ⟨o1, g1, g2⟩ := hO8.getN "choices"
    obtain ⟨o2, g3, g4⟩ := hO8.getN "version"
    refine ⟨_, rfl, _, rfl, o, rfl, hO8.iD, o1, g1, _, rfl, _, rfl, _, rfl, _, rfl, o, rfl, hO8.iD, o2, g3, (by show 5 ≤ sizeLine; decide), fun D2 hD2 => ?_⟩
    have e9 := same_upd (o := .lst [o1.getD .non, re, te, me, o2.getD .non]) hD2
    have hD2' : (upd H8 D2 (.lst [o1.getD .non, re, te, me, o2.getD .non])) D2 = some (.lst [o1.getD .non, re, te, me, o2.getD .non]) := upd_same
    generalize upd H8 D2 (.lst [o1.getD .non, re, te, me, o2.getD .non]) = H9 at e9 hD2'
    refine ⟨D, D2, _, _, rfl, rfl, e9 _ _ hD, hD2', (by show 12 ≤ sizeLine; decide), fun D3 hD3 => ?_⟩
    have e10 := same_upd (o := .lst ([.ref U, .str (destOf pf gs io ld), .str act, nn, co, de, ki] ++ [o1.getD .non, re, te, me, o2.getD .non])) hD3
    have hD3' : (upd H9 D3 (.lst ([.ref U, .str (destOf pf gs io ld), .str act, nn, co, de, ki] ++ [o1.getD .non, re, te, me, o2.getD .non]))) D3 = some (.lst [.ref U, .str (destOf pf gs io ld), .str act, nn, co, de, ki, o1.getD .non, re, te, me, o2.getD .non]) := upd_same
    generalize upd H9 D3 _ = H10 at e10 hD3'
    have a8 := e9.trans e10
    have a7 := e8.trans a8
    have a6 := e7.trans a7
    have a5 := e6.trans a6
    have a4 := e5.trans a5
    have a2 := e3.trans (e4.trans a4)
    have em : Same (emp : Hp) H10 := fun b ob h => (nomatch h)
    refine k D3 H10 (eH8.trans a8) (.lst hD3' (.cons (.tup (a7 _ _ hU) (dts_strs _)) (.cons (.str _) (.cons (.str _) (.cons (Dt.mono em _ _ hnn) (.cons (Dt.mono a2 _ _ hco) (.cons (Dt.mono a4 _ _ hde) (.cons (Dt.mono a8 _ _ hki) (.cons (Dt.mono a8 _ _ g2) (.cons (Dt.mono em _ _ hre) (.cons (Dt.mono em _ _ hte) (.cons (Dt.mono a6 _ _ hme) (.cons (Dt.mono a8 _ _ g4) .nil)))))))))))))
end
end K67

namespace K67
open PySem L2 PyProof.Rows
/-! ### what is told of an argument -/
theorem MeAt.dt {H : Hp} {v : V} {d : PyData} (h : MeAt H v d) : Dt H v d := by
  rcases h with h | ⟨a, l, rfl, rfl, h⟩
  · exact Dt.mono (N := emp) (fun b ob q => by cases q) _ _ h
  · exact .tup h (dts_strs _)
def spTold (CA : Addr) : Sp := fun vs H Q _ => ∃ (A : Addr) (H0 : Hp) (pf : Str) (gs : List Str) (io : Bool) (act : Str) (ld : DD), vs = [.ref A] ∧ ArgX CA H0 H A pf gs io act ld ∧ ∀ (D : Addr) (H' : Hp), Same H H' → Dt H' (.ref D) (.list (dueL pf gs io act ld)) → Q (.ref D) H'
section
variable {P : Program} {w : World} {K : PySem.W.Frag} {mg : Str → Option Value} {base : Heap}
theorem scTold : FnScope ["_law_argument", "_law_found"] ["_law_argument"] (defScope sTold) := ⟨rfl, rfl, rfl, by decide +kernel, rfl, by decide +kernel, by decide +kernel⟩
theorem ok_told {f CA : Addr} {fd : FuncData} (F : Fun K "_law_told" "_law_told" sTold f fd) (cA : ClsN K CA argF) : FnOk P w K mg base CX0 1 f fd ["_law_argument"] (spTold CA) := by
  refine F.ok scTold (fun vs H Q E h => ?_) (fun cdv A0 outer s H vs Q E hr h => ?_)
  · obtain ⟨A, H0, pf, gs, io, act, ld, rfl, _⟩ := h
    rfl
  · obtain ⟨A, H0, pf, gs, io, act, ld, rfl, hX, k⟩ := h
    obtain ⟨dx, U, v, _, hU, hA, hg, hm⟩ := hX.ex
    refine ⟨_, pss_mid (ps_set (i := 1) scTold.nd rfl (Or.inl rfl) (pe_lst (pa_cons (pe_fld (pv 0) rfl) (pa_cons (pe_fld (pv 0) rfl) (pa_cons (pe_fld (pv 0) rfl) (pa_cons (pe_fld (pv 0) rfl) (pa_cons (pe_fld (pv 0) rfl) (pa_cons (pe_fld (pv 0) rfl) pa_nil))))))))
      (pss_mid (ps_set (i := 1) scTold.nd rfl (Or.inl rfl) (pe_op op_cat (pv 1) (pe_lst (pa_cons (pe_fld (pv 0) rfl) (pa_cons (pe_fld (pv 0) rfl) (pa_cons (pe_fld (pv 0) rfl) (pa_cons (pe_fld (pv 0) rfl) (pa_cons (pe_fld (pv 0) rfl) pa_nil))))))))
      (pss_one (ps_ret (pe_op op_cat (pv 1) (pe_lst (pa_cons (pe_fld (pv 0) rfl) pa_nil)))))), ?_⟩
    refine ⟨fun σ' H' => ∃ D, σ' = [some (.ref A), some (.ref D)] ∧ Same H H' ∧ H' D = some (.lst [.ref U, .str (destOf pf gs io ld), .str act, v.nn, v.co, v.de]), ?_, ?_⟩
    · exact ⟨_, rfl, A, CA, dx, _, _, rfl, hA, cA.cl, cA.no _ (by decide +kernel), rfl, _, rfl, A, CA, dx, _, _, rfl, hA, cA.cl, cA.no _ (by decide +kernel), rfl, _, rfl, A, CA, dx, _, _, rfl, hA, cA.cl, cA.no _ (by decide +kernel), rfl, _, rfl, A, CA, dx, _, _, rfl, hA, cA.cl, cA.no _ (by decide +kernel), rfl, _, rfl, A, CA, dx, _, _, rfl, hA, cA.cl, cA.no _ (by decide +kernel), rfl, _, rfl, A, CA, dx, _, _, rfl, hA, cA.cl, cA.no _ (by decide +kernel), rfl, (by show 6 ≤ sizeLine; decide), fun D hD => ⟨D, rfl, same_upd hD, upd_same⟩⟩
    rintro _ H1 ⟨D, rfl, e1, hD⟩
    have hA1 := e1 _ _ hA
    refine ⟨fun σ' H' => ∃ D, σ' = [some (.ref A), some (.ref D)] ∧ Same H1 H' ∧ H' D = some (.lst [.ref U, .str (destOf pf gs io ld), .str act, v.nn, v.co, v.de, v.ki, v.ch, v.re, v.he, v.me]), ?_, ?_⟩
    · refine ⟨_, rfl, _, rfl, A, CA, dx, _, _, rfl, hA1, cA.cl, cA.no _ (by decide +kernel), rfl, _, rfl, A, CA, dx, _, _, rfl, hA1, cA.cl, cA.no _ (by decide +kernel), rfl, _, rfl, A, CA, dx, _, _, rfl, hA1, cA.cl, cA.no _ (by decide +kernel), rfl, _, rfl, A, CA, dx, _, _, rfl, hA1, cA.cl, cA.no _ (by decide +kernel), rfl, _, rfl, A, CA, dx, _, _, rfl, hA1, cA.cl, cA.no _ (by decide +kernel), rfl, (by show 5 ≤ sizeLine; decide), fun D2 hD2 => ?_⟩
      exact ⟨D, D2, _, _, rfl, rfl, same_upd hD2 _ _ hD, upd_same, (by show 11 ≤ sizeLine; decide), fun D3 hD3 => ⟨D3, rfl, same_upd2 (same_upd hD2) hD3, upd_same⟩⟩
    rintro _ H2 ⟨D, rfl, e2, hD⟩
    have hA2 := e2 _ _ hA1
    refine ⟨_, rfl, _, rfl, A, CA, dx, _, _, rfl, hA2, cA.cl, cA.no _ (by decide +kernel), rfl, (by show 1 ≤ sizeLine; decide), fun D2 hD2 => ?_⟩
    refine ⟨D, D2, _, _, rfl, rfl, same_upd hD2 _ _ hD, upd_same, (by show 12 ≤ sizeLine; decide), fun D3 hD3 => ?_⟩
    have a1 := same_upd2 (o := .lst ([.ref U, .str (destOf pf gs io ld), .str act, v.nn, v.co, v.de, v.ki, v.ch, v.re, v.he, v.me] ++ [v.ve])) (e1.trans (e2.trans (same_upd hD2))) hD3
    refine k D3 _ a1 (.lst upd_same ?_)
    have em : ∀ G : Hp, Same (emp : Hp) G := fun G b ob h => by cases h
    exact .cons (.tup (a1 _ _ hU) (dts_strs _)) (.cons (.str _) (.cons (.str _) (.cons (Dt.mono (em _) _ _ (hg.nn (by decide))) (.cons (Dt.mono a1 _ _ (hg.co (by decide)).dt) (.cons (Dt.mono a1 _ _ (hg.de (by decide)).dt) (.cons (Dt.mono a1 _ _ (hg.ki (by decide)).dt) (.cons (Dt.mono a1 _ _ (hg.ch (by decide)).dt) (.cons (Dt.mono (em _) _ _ (hg.re (by decide))) (.cons (Dt.mono (em _) _ _ (hg.he (by decide))) (.cons (Dt.mono a1 _ _ hm.dt) (.cons (Dt.mono (em _) _ _ (hg.ve (by decide))) .nil)))))))))))
end
end K67

namespace K67
open PySem L2 PyProof.Rows
theorem erase_perm {α : Type} : ∀ {l : List α} {k : Nat} (h : k < l.length), (l[k] :: l.eraseIdx k).Perm l
  | [], k, h => absurd h (Nat.not_lt_zero _)
  | a :: l, 0, _ => .refl _
  | a :: l, k + 1, h => by
    have h' : k < l.length := by simpa using h
    have ih := erase_perm h'
    show (l[k] :: a :: l.eraseIdx k).Perm (a :: l)
    exact (List.Perm.swap a l[k] _).trans (ih.cons a)
def spMixed : Sp := fun vs H Q _ => ∃ (st cl a : Addr) (n : Nat) (xs : List V), vs = [.ref st, .ref a] ∧ Strm H st cl n ∧ H a = some (.lst xs) ∧ xs.length ≤ 100 ∧ n ≤ 90000 ∧
  ∀ (D : Addr) (ys : List V) (H' : Hp), H D = none → H' D = some (.lst ys) → ys.Perm xs → Strm H' st cl (n + xs.length) → Kp2 st cl H H' → Q (.ref D) H'
section
variable {P : Program} {w : World} {K : PySem.W.Frag} {mg : Str → Option Value} {base : Heap}
abbrev nMx : List Str := ["_law_stream", "_law_some", "_law_left", "_law_k"]
theorem scMx : FnScope nMx ["_law_stream", "_law_some"] (defScope sMixed) := ⟨rfl, rfl, rfl, by decide +kernel, rfl, by decide +kernel, by decide +kernel⟩
theorem ok_mixed {f fD : Addr} {fd fdD : FuncData} (F : Fun K "_law_mixed" "_law_mixed" sMixed f fd) (T : TxtB mg) (Dr : At P w K mg base "_law_draw" 1 ["_law_stream", "_law_many"] spDraw fD fdD) : FnOk P w K mg base CX0 2 f fd ["_law_stream", "_law_some"] spMixed := by
  refine F.ok scMx (fun vs H Q E h => ?_) (fun cdv A outer s H vs Q E hr h => ?_)
  · obtain ⟨st, cl, a, n, xs, rfl, _⟩ := h
    rfl
  · obtain ⟨st, cl, a, n, xs, rfl, S, ha, hx, hn, k⟩ := h
    refine ⟨_, pss_cons (ps_set (i := 2) scMx.nd rfl (Or.inr rfl) (pe_callTy call_list_of (by rfl) T.list (by decide +kernel) (pa_cons (pv 1) pa_nil)))
      (pss_one (ps_ret (pe_lc (own := [("_law_k", 3)]) (g := gName 3) (tt := tYes) (te := tBM K "list" rPopAt (tVar 2) (tCons (tCall spDraw [] E0 (tCons (tVar 0) (tCons (tCB (fun xs H Q => ∃ p ys, xs = [V.ref p] ∧ (SqL K H p ys ∨ SqT K H p ys) ∧ Q (.int ys.length) H) (tCons (tVar 2) tNil)) tNil))) tNil)) rfl scMx.nd (pi_range1 rfl T.range (pa_cons (pe_callB call_len_seq (by rfl) T.len PySem.boot_len (pa_cons (pv 2) pa_nil)) pa_nil)) (blkOk_by (N := nMx) (sc := defScope sMixed) (by decide +kernel)) (fun _ _ _ _ _ => pg_name (i := 3) scMx.nd rfl (Or.inl rfl)) (fun _ _ _ _ _ => pts_nil)
        (fun _ _ _ _ _ => by exact pe_bm PySem.F.plainAttrs_list PySem.F.slot_list_pop PySem.F.type_list_pop mt_popAt (pv 2) (pa_cons (by exact pe_call Dr.ok (by exact hr) rfl Dr.m Dr.k Dr.b .nil pass0 (pa_cons (pv 0) (pa_cons (pe_callB call_len_seq (by rfl) T.len PySem.boot_len (pa_cons (pv 2) pa_nil)) pa_nil))) pa_nil))))), ?_⟩
    have fr : ∀ {b : Addr}, H b = none → b ≠ st ∧ b ≠ cl := fun {b} h => by
      obtain ⟨o, h1⟩ := S.st
      obtain ⟨u, h2⟩ := S.cl
      exact ⟨(ne_of_none h1 h).symm, (ne_of_none h2 h).symm⟩
    refine ⟨_, rfl, a, xs, rfl, .inl (SqL.of ha), fun l hl => ?_⟩
    have e1 := same_upd (o := .lst xs) hl
    have hl1 := upd_same (H := H) (a := l) (o := .lst xs)
    generalize upd H l (.lst xs) = H1 at e1 hl1
    have nl := fr hl
    refine ⟨_, rfl, l, xs, rfl, .inl (SqL.of hl1), (xs.length : Int), rfl, by omega, by omega, fun D hD => ?_⟩
    have hD0 := Same.free e1 hD
    have nD := fr hD0
    have nlD : l ≠ D := ne_of_none hl1 hD
    refine lc_range (lo := 0) (n := ((xs.length : Int)).toNat) (fun i H' => ∃ (left ys : List V), H' l = some (.lst left) ∧ H' D = some (.lst ys) ∧ (ys ++ left).Perm xs ∧ ys.length = i ∧ Strm H' st cl (n + i) ∧ Kp2 st cl H H')
      ⟨xs, [], same_upd hD _ _ hl1, upd_same, .refl _, rfl, S.keep (same_upd2 e1 hD), Kp2.of_same (same_upd2 e1 hD)⟩ (fun i H' hi h => ?_) (fun H' h => ?_)
    · obtain ⟨left, ys, h1, h2, pp, ly, S', kk⟩ := h
      have ll := pp.length_eq
      rw [List.length_append] at ll
      refine ⟨rfl, _, rfl, .inl ⟨rfl, _, SqL.of h1⟩, _, rfl, _, rfl, l, left, rfl, .inl (SqL.of h1), st, cl, n + i, (left.length : Int), rfl, S', by omega, by omega, by omega, fun j H2 j0 j1 S2 k2 => ?_⟩
      have hj : j.toNat < left.length := by omega
      have q1 := k2 _ _ h1 nl.1 nl.2
      have q2 := k2 _ _ h2 nD.1 nD.2
      refine ⟨l, left, j, j.toNat, left[j.toNat], rfl, rfl, q1, by omega, by omega, ?_, List.getElem?_eq_getElem hj, ?_⟩
      · unfold seqIndex?
        simp
        omega
      refine ⟨ys, by rw [upd_ne nlD.symm]; exact q2, sz_lt1 ly (by omega), left.eraseIdx j.toNat, ys ++ [left[j.toNat]], by rw [upd_ne nlD, upd_same], upd_same, ?_, by rw [List.length_append, ly]; rfl, ?_, ?_⟩
      · rw [List.append_assoc]
        exact (List.Perm.append_left ys (erase_perm hj)).trans pp
      · obtain ⟨c, b, ns, g1, g2, g3⟩ := S2.ex
        exact ⟨c, b, ns, by rw [upd_ne nD.1.symm, upd_ne nl.1.symm]; exact g1, by rw [upd_ne nD.2.symm, upd_ne nl.2.symm]; exact g2, g3⟩
      · intro b o e n1 n2
        rw [upd_ne (ne_of_none e hD0), upd_ne (ne_of_none e hl)]
        exact k2 _ _ (kk _ _ e n1 n2) n1 n2
    · obtain ⟨left, ys, h1, h2, pp, ly, S', kk⟩ := h
      have ll := pp.length_eq
      rw [List.length_append] at ll
      have l0 : left = [] := List.length_eq_zero_iff.mp (by omega)
      subst l0
      rw [List.append_nil] at pp
      exact k D ys H' hD0 h2 pp (by have e : n + ((xs.length : Int)).toNat = n + xs.length := by omega
                                    rw [← e]; exact S') kk
end
end K67

/-! xs[::-1] of a list; a text in place -/
namespace XR
open PySem PySem.Spec PyProof.Rows L2
def tRevL (K : PySem.W.Frag) (te : TE) (tk : TO) : TE := fun σ H Q => te σ H fun x H1 => tk σ H1 fun o H2 => o = some (-1) ∧ ∃ a xs, x = .ref a ∧ SqL K H2 a xs ∧ ∀ p, H2 p = none → Q (.ref p) (upd H2 p (.lst xs.reverse))
theorem vals_reverse : ∀ {xs : List V} {us : List Value}, Vals xs us → Vals xs.reverse us.reverse
  | _, _, .nil => .nil
  | _, _, .cons r t => by
    rw [List.reverse_cons, List.reverse_cons]
    exact (vals_reverse t).append (.cons r .nil)
theorem pe_revL {X : Cx} {e : Expr} {te : TE} {st : Expr} {tk : TO} {pos p2 : Pos} (he : PE X e te) (hk : PO X (some st) tk) (hsub : ∀ a sl : Addr, subscripted (.Slice none none (some st) p2) false (.ref a) (.ref sl) = operate [.ref sl, .ref a] (getItem (.ref a) (.ref sl)) := by intros; with_unfolding_all rfl) : PE X (.Subscript e (.Slice none none (some st) p2) pos) (tRevL X.K te tk) := by
  refine ⟨fun pins s σ H Q I h => ?_⟩
  refine Subscript_ (thn (he.run pins s σ H _ I h) fun v s1 ⟨x, H1, I1, r1, q1⟩ => ?_)
  refine wpAny_Slice ?_
  rw [evalPart_none]
  refine wpAny_pure ?_
  refine wpAny_pure ?_
  refine thn (hk.run pins s1 σ H1 _ I1 q1) fun vk s3 ⟨o, H3, I3, pk, q3⟩ => ?_
  obtain ⟨rfl, a, xs, rfl, hx, q⟩ := q3
  cases r1
  have I4 : Inv X pins σ H3 { s3 with heap := s3.heap.push { cls := .type "slice", data := .fields #[.none, .none, vk] } } := I3.kept (t' := s3.toks) fun b ob q => Heap.get?_push_of_some _ q
  obtain ⟨its, r, ht, hz⟩ := I4.list hx
  have hlen := r.length
  show wpAny (model X.prog X.w) X.A (subscriptTail e (.Slice none none (some st) p2) (.ref a) (.ref s3.heap.objs.size)) (EP X pins σ Q) X.xe { s3 with heap := s3.heap.push { cls := .type "slice", data := .fields #[.none, .none, vk] } }
  refine tail_any (ops := [.ref s3.heap.objs.size, .ref a]) ht.isList.typeIs slot_list_getitem.lookup ?_ (hsub _ _)
  refine wpAny_getItem_list_slice ht.isList (Heap.IsSliceOf.new ..) .none .none pk (by decide) ?_ (by rw [List.size_toArray] <;> omega)
  rw [PySem.W.krv_pick]
  refine ⟨.ref _, _, I4.laid (t' := s3.toks) (o := .lst xs.reverse) (fun b ob q => Heap.get?_push_of_some _ q) (Nat.le_refl _) ?_, rfl, q _ (I4.hok.fresh (Nat.le_refl _))⟩
  exact ⟨by rw [List.length_reverse]; exact hz, _, 0, vals_reverse r, Heap.get?_push_size _ rfl⟩
theorem ip_addS {X : Cx} : PIp X .Add (fun x y H Q => ∃ i j, x = .str i ∧ y = .str j ∧ i.length + j.length ≤ sizeLine ∧ Q (.str (i ++ j)) H) := fun pins s σ H x y v u Q I r1 r2 h => iop_add_str pins s σ H x y v u Q I r1 r2 h
end XR
namespace XR
open PySem PySem.Spec PyProof PyProof.Rows L2
theorem op_mulS {X : Cx} : OpR X (binaryOp .Mult) (fun x y H Q => ∃ a n, x = .str a ∧ y = .int n ∧ MulOk a n ∧ Q (.str (Txt.mul a n)) H) := by
  intro pins s σ H x y v u Q I rx ry h
  obtain ⟨a, n, rfl, rfl, hok, q⟩ := h
  obtain ⟨t, rfl⟩ := rx
  obtain ⟨t', rfl⟩ := ry
  exact SB.mul hok fun t' k => ⟨.str _, H, I.tok _, ⟨_, rfl⟩, q⟩
end XR

namespace K67
open PySem L2 PyProof.Rows
/-! ### lists and tuples beside the stream -/
def Cd (st cl : Addr) (H : Hp) : Hp := fun b => if b = st ∨ b = cl then none else flt H b
theorem cd_sub {st cl : Addr} {H : Hp} : Same (Cd st cl H) H := fun b o h => by
  unfold Cd at h
  split at h
  · cases h
  · exact flt_sub _ _ _ h
theorem cd_at {st cl D : Addr} {H : Hp} {o : HO} (h : H D = some o) (ho : (∃ xs, o = .lst xs) ∨ ∃ xs, o = .tup xs) (n1 : D ≠ st) (n2 : D ≠ cl) : Cd st cl H D = some o := by
  unfold Cd
  rw [if_neg (fun z => z.elim n1 n2)]
  unfold flt
  rw [h]
  rcases ho with ⟨xs, rfl⟩ | ⟨xs, rfl⟩ <;> rfl
theorem cd_is {st cl b : Addr} {H : Hp} {o : HO} (h : Cd st cl H b = some o) : b ≠ st ∧ b ≠ cl ∧ H b = some o ∧ ((∃ xs, o = .lst xs) ∨ ∃ xs, o = .tup xs) := by
  have h1 := cd_sub _ _ h
  unfold Cd at h
  split at h
  · cases h
  · rename_i q
    exact ⟨fun z => q (.inl z), fun z => q (.inr z), h1, flt_is h⟩
theorem cd_kp {st cl : Addr} {H H' : Hp} (k : Kp2 st cl H H') : Same (Cd st cl H) (Cd st cl H') := fun b o h => by
  obtain ⟨n1, n2, h1, h2⟩ := cd_is h
  exact cd_at (k _ _ h1 n1 n2) h2 n1 n2
theorem cd_dk {st cl a : Addr} {H : Hp} {o : HO} {kvs : List (Key × V)} (h : H a = some (.dK kvs)) : Same (Cd st cl H) (Cd st cl (upd H a o)) := fun b u e => by
  obtain ⟨n1, n2, h1, h2⟩ := cd_is e
  have : b ≠ a := fun z => by
    subst z
    rw [h] at h1
    cases h1
    rcases h2 with ⟨xs, q⟩ | ⟨xs, q⟩ <;> cases q
  exact cd_at (by rw [upd_ne this]; exact h1) h2 n1 n2
theorem Strm.fr {H : Hp} {st cl : Addr} {n : Nat} (S : Strm H st cl n) {b : Addr} (h : H b = none) : b ≠ st ∧ b ≠ cl := by
  obtain ⟨o, h1⟩ := S.st
  obtain ⟨u, h2⟩ := S.cl
  exact ⟨(ne_of_none h1 h).symm, (ne_of_none h2 h).symm⟩
/-! ### options that may be -/
abbrev OL := List (Str × Option PyData)
def mkD (l : OL) : DD := l.filterMap fun p => p.2.map fun d => (p.1, d)
def lkO : OL → Str → Option PyData
  | [], _ => none
  | (k0, o) :: r, k => if k0 = k then o else lkO r k
theorem mk_keys {l : OL} {k : Str} (h : k ∈ keysD (mkD l)) : k ∈ l.map (·.1) := by
  unfold keysD mkD at h
  obtain ⟨p, hp, rfl⟩ := List.mem_map.mp h
  obtain ⟨q, hq, e⟩ := List.mem_filterMap.mp hp
  obtain ⟨d, hd, e2⟩ := Option.map_eq_some_iff.mp e
  rw [← e2]
  exact List.mem_map.mpr ⟨q, hq, rfl⟩
theorem look_none {l : DD} {k : Str} (h : k ∉ keysD l) : lookD l k = none := by
  cases e : lookD l k with
  | none => rfl
  | some d => exact absurd (List.mem_map.mpr ⟨_, look_mem e, rfl⟩) h
theorem look_mk : ∀ {l : OL} {k : Str}, (l.map (·.1)).Nodup → lookD (mkD l) k = lkO l k
  | [], k, _ => rfl
  | (k0, none) :: r, k, h => by
    have h' := List.nodup_cons.mp h
    have e : mkD ((k0, none) :: r) = mkD r := rfl
    rw [e]
    show _ = if k0 = k then none else lkO r k
    by_cases q : k0 = k
    · rw [if_pos q]
      subst q
      exact look_none fun z => h'.1 (mk_keys z)
    · rw [if_neg q]
      exact look_mk h'.2
  | (k0, some d) :: r, k, h => by
    have h' := List.nodup_cons.mp h
    have e : mkD ((k0, some d) :: r) = (k0, d) :: mkD r := rfl
    rw [e]
    show _ = if k0 = k then some d else lkO r k
    unfold lookD
    rw [List.find?_cons]
    by_cases q : k0 = k
    · rw [if_pos q, decide_eq_true q]
      rfl
    · rw [if_neg q, decide_eq_false q]
      exact look_mk h'.2
theorem mk_snoc {l : OL} {k : Str} {o : Option PyData} : mkD (l ++ [(k, o)]) = mkD l ++ (match o with | some d => [(k, d)] | none => []) := by
  unfold mkD
  rw [List.filterMap_append]
  cases o <;> rfl
theorem put_mk {l : OL} {k : Str} {d : PyData} (h : k ∉ l.map (·.1)) : putD (mkD l) k d = mkD (l ++ [(k, some d)]) := by
  rw [mk_snoc]
  unfold putD
  rw [if_neg fun z => h (mk_keys (any_key.mp z))]
theorem mk_len (l : OL) : (mkD l).length ≤ l.length := List.length_filterMap_le _ _
theorem mk_mem {l : OL} {p : Str × PyData} (h : p ∈ mkD l) : (p.1, some p.2) ∈ l := by
  unfold mkD at h
  obtain ⟨q, hq, e⟩ := List.mem_filterMap.mp h
  obtain ⟨d, hd, e2⟩ := Option.map_eq_some_iff.mp e
  rw [← e2]
  show (q.1, some d) ∈ l
  rw [← hd]
  exact hq
/-- options in the making: at o, beside the stream -/
structure Dw (st cl o : Addr) (H : Hp) (n : Nat) (l : OL) : Prop where
  S : Strm H st cl n
  ox : ∃ kvs, H o = some (.dK kvs) ∧ Held (Cd st cl H) kvs (mkD l)
theorem Dw.no {st cl o : Addr} {H : Hp} {n : Nat} {l : OL} (d : Dw st cl o H n l) : o ≠ st ∧ o ≠ cl := by
  obtain ⟨kvs, h, _⟩ := d.ox
  obtain ⟨c, a, ns, h1, h2, _⟩ := d.S.ex
  exact ⟨ne_of h h1 (fun z => by cases z), ne_of h h2 (fun z => by cases z)⟩
theorem Dw.kp {st cl o : Addr} {H H' : Hp} {n n' : Nat} {l : OL} (d : Dw st cl o H n l) (S' : Strm H' st cl n') (k : Kp2 st cl H H') : Dw st cl o H' n' l := by
  obtain ⟨kvs, h, he⟩ := d.ox
  exact ⟨S', kvs, k _ _ h d.no.1 d.no.2, held_mono (cd_kp k) he⟩
theorem Dw.same {st cl o : Addr} {H H' : Hp} {n : Nat} {l : OL} (d : Dw st cl o H n l) (e : Same H H') : Dw st cl o H' n l := d.kp (d.S.keep e) (Kp2.of_same e)
theorem Dw.op {st cl o : Addr} {H : Hp} {n : Nat} {l : OL} (d : Dw st cl o H n l) : ∃ kvs, OpH H o kvs (mkD l) := by
  obtain ⟨kvs, h, he⟩ := d.ox
  exact ⟨kvs, h, held_mono cd_sub he⟩
theorem Dw.isD {st cl o : Addr} {H : Hp} {n : Nat} {l : OL} (d : Dw st cl o H n l) : IsD H o := by
  obtain ⟨kvs, h, _⟩ := d.ox
  exact .inl ⟨_, .inl h⟩
/-- options[k] = v -/
theorem Dw.put {st cl o : Addr} {H : Hp} {n : Nat} {l : OL} (dw : Dw st cl o H n l) {k : Str} {v : V} {d : PyData} (hv : Dt (Cd st cl H) v d) (hk : k ∉ l.map (·.1)) (hl : l.length ≤ 100) : ∃ H', DPut H o (.str k) v H' ∧ Dw st cl o H' n (l ++ [(k, some d)]) ∧ ∀ b u, H b = some u → b ≠ o → H' b = some u := by
  obtain ⟨kvs, h, he⟩ := dw.ox
  have hlen := held_len he
  have hm := mk_len l
  refine ⟨_, DPut.k (k := (Sum.inr k : Key)) h (by rw [PySem.sizeLine_eq]; omega), ⟨?_, _, upd_same, ?_⟩, fun b u e nb => by rw [upd_ne nb]; exact e⟩
  · obtain ⟨c, a, ns, h1, h2, h3⟩ := dw.S.ex
    exact ⟨c, a, ns, by rw [upd_ne dw.no.1.symm]; exact h1, by rw [upd_ne dw.no.2.symm]; exact h2, h3⟩
  · rw [← put_mk hk]
    exact held_mono (cd_dk h) (held_put he hv)
/-- all but the stream and the options is kept -/
def Kp3 (st cl o : Addr) (H H' : Hp) : Prop := ∀ q u, H q = some u → q ≠ st → q ≠ cl → q ≠ o → H' q = some u
theorem Kp3.of {st cl o : Addr} {H H' : Hp} (k : Kp2 st cl H H') : Kp3 st cl o H H' := fun q u e n1 n2 _ => k q u e n1 n2
theorem Kp3.trans {st cl o : Addr} {H H1 H2 : Hp} (x : Kp3 st cl o H H1) (y : Kp3 st cl o H1 H2) : Kp3 st cl o H H2 := fun q u e n1 n2 n3 => y q u (x q u e n1 n2 n3) n1 n2 n3
theorem Kp3.new {st cl o : Addr} {H H' : Hp} (k : Kp3 st cl o H H') (h : H o = none) : Kp2 st cl H H' := fun q u e n1 n2 => k q u e n1 n2 (ne_of_none e h)
theorem dts_mem {N : Hp} : ∀ {ds : List PyData} {xs : List V}, DtAll N xs ds → ∀ x ∈ xs, ∃ d ∈ ds, Dt N x d
  | [], _, h, x, hx => by
    cases h
    cases hx
  | d :: ds, _, h, x, hx => by
    cases h with
    | cons a b =>
      rcases List.mem_cons.mp hx with rfl | hx
      · exact ⟨d, List.mem_cons_self, a⟩
      · obtain ⟨d', h1, h2⟩ := dts_mem b x hx
        exact ⟨d', List.mem_cons_of_mem _ h1, h2⟩
end K67

namespace K67
open PySem L2 PyProof PyProof.Rows
/-! ### flags that are right -/
def sgM : List Str := ["-", "+", "-+", "/"]
def posM : List Str := ["x", "name", "two words", "a-b", "5", "=", "n" ++ Txt.mul "m" 9]
def chS (c : Nat) : Str := ⟨#[c]⟩
def lastC (pf : Str) : Nat := pf.cps.toList.getLastD 0
def someF (pf : Str) (c : Nat) : List Str := [chS c ++ "a", Txt.mul (chS c) 2 ++ "long-one", chS c ++ "b", Txt.mul (chS c) 2 ++ "all", chS c ++ "x-y", Txt.mul (chS c) 3 ++ "odd", chS c ++ "1"] ++ (if 1 < pf.length then [chS c ++ chS (lastC pf) ++ "pair", chS (lastC pf) ++ chS c ++ "other-one"] else [])
def RFl (pf : Str) (gs : List Str) (io : Bool) : Prop := (io = false ∧ ∃ g ∈ posM, gs = [g]) ∨ (io = true ∧ gs ≠ [] ∧ gs.length ≤ 3 ∧ ∃ c ∈ pf.cps.toList, ∀ x ∈ gs, x ∈ someF pf c)
theorem some_ok : ∀ pf ∈ sgM, ∀ c ∈ pf.cps.toList, ∀ x ∈ someF pf c, flB pf x = true := by decide +kernel
theorem pos_ok : ∀ pf ∈ sgM, ∀ g ∈ posM, g ≠ "" ∧ g.length ≤ 40 ∧ inP pf (wAt g 0) = false ∧ PyData.strOk g = true := by decide +kernel
theorem sg_ok : ∀ pf ∈ sgM, 1 ≤ pf.length ∧ pf.length ≤ 20 ∧ atI pf.cps.toList (-1) = some (lastC pf) := by decide +kernel
theorem ch_len (c : Nat) : (chS c).length = 1 := rfl
theorem mul_ok (c : Nat) : MulOk (chS c) 2 ∧ MulOk (chS c) 3 := by
  have hl1 : (chS c).length = 1 := rfl
  exact ⟨⟨by decide, fun _ _ => by rw [hl1]; decide, fun _ _ => by rw [hl1]; decide +kernel⟩, ⟨by decide, fun _ _ => by rw [hl1]; decide, fun _ _ => by rw [hl1]; decide +kernel⟩⟩
theorem mul_len : ∀ pf ∈ sgM, ∀ c ∈ pf.cps.toList, (Txt.mul (chS c) 2).length = 2 ∧ (Txt.mul (chS c) 3).length = 3 := by decide +kernel
theorem mulm_ok : MulOk "m" 9 ∧ (Txt.mul "m" 9).length = 9 := by unfold MulOk; decide +kernel
theorem RFl.gv {pf : Str} {gs : List Str} {io : Bool} (h : RFl pf gs io) (hp : pf ∈ sgM) : Gv pf gs io := by
  have hs := sg_ok pf hp
  rcases h with ⟨rfl, g, hg, rfl⟩ | ⟨rfl, h0, hl, c, hc, hx⟩
  · exact ⟨(fun z => nomatch z), fun _ => .inr ⟨g, rfl, pos_ok pf hp g hg⟩, (by show 1 ≤ 20; decide), hs.2.1⟩
  · exact ⟨fun _ => ⟨h0, fun x q => flB_ok (some_ok pf hp c hc x (hx x q))⟩, (fun z => nomatch z), by omega, hs.2.1⟩
def spRFl : Sp := fun vs H Q _ => ∃ (st cl : Addr) (n : Nat) (pf : Str), vs = [.ref st, .str pf] ∧ Strm H st cl n ∧ pf ∈ sgM ∧ n ≤ 80000 ∧ ∀ (t fa : Addr) (gs : List Str) (io : Bool) (n' : Nat) (H' : Hp), H fa = none → H' t = some (.tup [.ref fa, .bl io]) → H' fa = some (.lst (gs.map V.str)) → RFl pf gs io → n' ≤ n + 20 → Strm H' st cl n' → Kp2 st cl H H' → Q (.ref t) H'
section
variable {P : Program} {w : World} {K : PySem.W.Frag} {mg : Str → Option Value} {base : Heap}
abbrev nRFl : List Str := ["_law_stream", "_law_signs", "_law_one", "_law_some"]
theorem scRFl : FnScope nRFl ["_law_stream", "_law_signs"] (defScope sRFl) := ⟨rfl, rfl, rfl, by decide +kernel, rfl, by decide +kernel, by decide +kernel⟩
theorem ok_rFl {f fD fP fM : Addr} {fd fdD fdP fdM : FuncData} (F : Fun K "_law_right_flags" "_law_right_flags" sRFl f fd) (T : TxtB mg) (Dr : At P w K mg base "_law_draw" 1 ["_law_stream", "_law_many"] spDraw fD fdD) (Pk : At P w K mg base "_law_pick" 2 ["_law_stream", "_law_some"] spPick fP fdP) (Mx : At P w K mg base "_law_mixed" 2 ["_law_stream", "_law_some"] spMixed fM fdM) :
    FnOk P w K mg base CX0 3 f fd ["_law_stream", "_law_signs"] spRFl := by
  refine F.ok scRFl (fun vs H Q E h => ?_) (fun cdv A outer s H vs Q E hr h => ?_)
  · obtain ⟨st, cl, n, pf, rfl, _⟩ := h
    rfl
  · obtain ⟨st, cl, n, pf, rfl, S, hpf, hn, k⟩ := h
    have r1 : Room 1 (A.deeper (PyProof.Rows.envOfC "_law_right_flags" (defScope sRFl) s.heap.objs.size f cdv)) := hr.mono (by decide)
    obtain ⟨p1, p2, p3⟩ := sg_ok pf hpf
    refine ⟨_, (pss_cons (ps_if (pt_cmpR op_eq (pe_call Dr.ok r1 rfl Dr.m Dr.k Dr.b .nil pass0 (pa_cons (pv 0) (pa_cons pe_int pa_nil))) pe_int (nomark _)) (pss_one (ps_ret (pe_tup (pa_cons (pe_lst (pa_cons (pe_call Pk.ok hr rfl Pk.m Pk.k Pk.b .nil pass0 (pa_cons (pv 0) (pa_cons (pe_lst (pa_cons pe_str (pa_cons pe_str (pa_cons pe_str (pa_cons pe_str (pa_cons pe_str (pa_cons pe_str (pa_cons (pe_op op_add_str pe_str (pe_op XR.op_mulS pe_str pe_int)) pa_nil)))))))) pa_nil))) pa_nil)) (pa_cons pe_bl pa_nil))))) pss_nil)
      (pss_mid (ps_set (i := 2) scRFl.nd rfl (Or.inl rfl) (pe_ix ix_str (pv 1) (pe_call Dr.ok r1 rfl Dr.m Dr.k Dr.b .nil pass0 (pa_cons (pv 0) (pa_cons (pe_callB call_len_str (by rfl) T.len PySem.boot_len (pa_cons (pv 1) pa_nil)) pa_nil))) (fun _ _ => rfl)))
      (pss_mid (ps_set (i := 3) scRFl.nd rfl (Or.inl rfl) (pe_lst (pa_cons (pe_op op_add_str (pv 2) pe_str) (pa_cons (pe_op op_add_str (pe_op XR.op_mulS (pv 2) pe_int) pe_str) (pa_cons (pe_op op_add_str (pv 2) pe_str) (pa_cons (pe_op op_add_str (pe_op XR.op_mulS (pv 2) pe_int) pe_str) (pa_cons (pe_op op_add_str (pv 2) pe_str) (pa_cons (pe_op op_add_str (pe_op XR.op_mulS (pv 2) pe_int) pe_str) (pa_cons (pe_op op_add_str (pv 2) pe_str) pa_nil)))))))))
      (pss_mid (ps_if (pt_cmpR op_gt (pe_callB call_len_str (by rfl) T.len PySem.boot_len (pa_cons (pv 1) pa_nil)) pe_int (nomark _)) (pss_one (ps_set (i := 3) scRFl.nd rfl (Or.inl rfl) (pe_op op_cat (pv 3) (pe_lst (pa_cons (pe_op op_add_str (pe_op op_add_str (pv 2) (pe_ix ix_str (pv 1) (pe_un un_neg pe_int) (fun _ _ => rfl))) pe_str) (pa_cons (pe_op op_add_str (pe_op op_add_str (pe_ix ix_str (pv 1) (pe_un un_neg pe_int) (fun _ _ => rfl)) (pv 2)) pe_str) pa_nil)))))) pss_nil)
      (pss_one (ps_ret (pe_tup (pa_cons (pe_slice sl_list (pe_call Mx.ok hr rfl Mx.m Mx.k Mx.b .nil pass0 (pa_cons (pv 0) (pa_cons (pv 3) pa_nil))) po_none (po_some (pe_op op_add pe_int (pe_call Dr.ok r1 rfl Dr.m Dr.k Dr.b .nil pass0 (pa_cons (pv 0) (pa_cons pe_int pa_nil)))))) (pa_cons pe_bl pa_nil))))))))), ?_⟩
    refine ⟨_, rfl, st, cl, n, 3, rfl, S, by decide, by decide, by omega, fun j H1 j0 j1 S1 k1 => ?_⟩
    refine ⟨rfl, _, rfl, ?_⟩
    refine ite2 (fun hc => ?_) (fun hc => ?_)
    · refine ⟨_, rfl, _, _, rfl, rfl, mulm_ok.1, _, _, rfl, rfl, (by rw [mulm_ok.2, PySem.sizeLine_eq]; decide), (by show 7 ≤ sizeLine; decide), fun a ha => ?_⟩
      have na := S1.fr ha
      have e1 := same_upd (o := .lst (posM.map V.str)) ha
      refine ⟨st, cl, n + 1, a, posM.map V.str, rfl, S1.keep e1, upd_same, na.1, na.2, (fun z => nomatch z), (by decide), (by omega), fun x H2 hx S2 k2 => ?_⟩
      obtain ⟨g, hg, rfl⟩ := List.mem_map.mp hx
      refine ⟨(by show 1 ≤ sizeLine; decide), fun fa hfa => ⟨(by show 2 ≤ sizeLine; decide), fun t ht => ?_⟩⟩
      have kk := (k1.trans (Kp2.of_same e1)).trans k2
      have e2 := same_upd (o := .lst [V.str g]) hfa
      have nfa := S2.fr hfa
      have nf : H fa = none := by
        cases q : H fa with
        | none => rfl
        | some o =>
          rw [kk _ _ q nfa.1 nfa.2] at hfa
          cases hfa
      refine k t fa [g] false (n + 2) _ nf upd_same (by rw [upd_ne (ne_of_none upd_same ht), upd_same]; rfl) (.inl ⟨rfl, g, hg, rfl⟩) (by omega) (S2.keep (same_upd2 e2 ht)) (kk.trans (Kp2.of_same (same_upd2 e2 ht)))
    · refine ⟨fun σ' H' => ∃ c ∈ pf.cps.toList, σ' = [some (.ref st), some (.str pf), some (.str (chS c)), none] ∧ Strm H' st cl (n + 2) ∧ Kp2 st cl H H', ?_, ?_⟩
      · refine ⟨_, rfl, _, rfl, _, rfl, pf, rfl, (by rw [PySem.sizeLine_eq]; omega), st, cl, n + 1, (pf.length : Int), rfl, S1, (by omega), (by omega), (by omega), fun i H2 i0 i1 S2 k2 => ?_⟩
        have hl : pf.cps.toList.length = pf.length := by simp [PySem.Str.length]
        have hi : i.toNat < pf.cps.toList.length := by omega
        have ei : ((i.toNat : Nat) : Int) = i := by omega
        have q := atI_nat (xs := pf.cps.toList) (j := i.toNat) (List.getElem?_eq_getElem hi)
        rw [ei] at q
        exact ⟨pf, i, _, rfl, rfl, (by rw [PySem.sizeLine_eq]; omega), q, _, List.getElem_mem hi, rfl, S2, k1.trans k2⟩
      rintro _ H2 ⟨c, hcm, rfl, S2, k2⟩
      have m2 := (mul_len pf hpf c hcm).1
      have m3 := (mul_len pf hpf c hcm).2
      have mo := mul_ok c
      have l1 : (chS c).length = 1 := rfl
      refine ⟨fun σ' H' => ∃ D, σ' = [some (.ref st), some (.str pf), some (.str (chS c)), some (.ref D)] ∧ Same H2 H' ∧ H' D = some (.lst ([chS c ++ "a", Txt.mul (chS c) 2 ++ "long-one", chS c ++ "b", Txt.mul (chS c) 2 ++ "all", chS c ++ "x-y", Txt.mul (chS c) 3 ++ "odd", chS c ++ "1"].map V.str)), ?_, ?_⟩
      · exact ⟨_, rfl, _, _, rfl, rfl, (by rw [l1, PySem.sizeLine_eq]; decide), _, rfl, _, _, rfl, rfl, mo.1, _, _, rfl, rfl, (by rw [m2, PySem.sizeLine_eq]; decide), _, rfl, _, _, rfl, rfl, (by rw [l1, PySem.sizeLine_eq]; decide), _, rfl, _, _, rfl, rfl, mo.1, _, _, rfl, rfl, (by rw [m2, PySem.sizeLine_eq]; decide), _, rfl, _, _, rfl, rfl, (by rw [l1, PySem.sizeLine_eq]; decide), _, rfl, _, _, rfl, rfl, mo.2, _, _, rfl, rfl, (by rw [m3, PySem.sizeLine_eq]; decide), _, rfl, _, _, rfl, rfl, (by rw [l1, PySem.sizeLine_eq]; decide), (by show 7 ≤ sizeLine; decide), fun D hD => ⟨D, rfl, same_upd hD, upd_same⟩⟩
      rintro _ H3 ⟨D, rfl, e3, hD⟩
      refine ⟨fun σ' H' => ∃ D, σ' = [some (.ref st), some (.str pf), some (.str (chS c)), some (.ref D)] ∧ Same H3 H' ∧ H' D = some (.lst ((someF pf c).map V.str)), ?_, ?_⟩
      · refine ⟨_, rfl, pf, rfl, (by rw [PySem.sizeLine_eq]; omega), _, _, rfl, rfl, _, rfl, ?_⟩
        refine ite2 (fun hq => ?_) (fun hq => ?_)
        · have hq' : 1 < pf.length := by
            have := of_decide_eq_true hq
            omega
          have l2 : (chS c ++ chS (lastC pf)).length = 2 := rfl
          have l3 : (chS (lastC pf) ++ chS c).length = 2 := rfl
          have l4 : (chS (lastC pf)).length = 1 := rfl
          refine ⟨_, rfl, _, rfl, _, rfl, _, rfl, pf, -1, _, rfl, rfl, (by rw [PySem.sizeLine_eq]; omega), p3, _, _, rfl, rfl, (by rw [PySem.sizeLine_eq]; show 1 + 1 ≤ 16777216; decide), _, _, rfl, rfl, (by rw [PySem.sizeLine_eq]; show 2 + 4 ≤ 16777216; decide), _, rfl, _, rfl, pf, -1, _, rfl, rfl, (by rw [PySem.sizeLine_eq]; omega), p3, _, rfl, _, _, rfl, rfl, (by rw [PySem.sizeLine_eq]; show 1 + 1 ≤ 16777216; decide), _, _, rfl, rfl, (by rw [PySem.sizeLine_eq]; show 2 + 9 ≤ 16777216; decide), (by show 2 ≤ sizeLine; decide), fun D2 hD2 => ?_⟩
          refine ⟨D, D2, _, _, rfl, rfl, same_upd hD2 _ _ hD, upd_same, (by rw [PySem.sizeLine_eq]; show 7 + 2 ≤ 16777216; decide), fun D3 hD3 => ⟨D3, rfl, same_upd2 (same_upd hD2) hD3, ?_⟩⟩
          rw [upd_same]
          unfold someF
          rw [if_pos hq', List.map_append]
          rfl
        · refine ⟨D, rfl, Same.refl _, ?_⟩
          have hq' : ¬ 1 < pf.length := fun z => hq (decide_eq_true (by omega))
          unfold someF
          rw [if_neg hq', List.append_nil]
          exact hD
      rintro _ H4 ⟨D4, rfl, e4, hD4⟩
      have S4 := S2.keep (e3.trans e4)
      have k4 := k2.trans (Kp2.of_same (e3.trans e4))
      have hsl : ((someF pf c).map V.str).length ≤ 9 := by
        rw [List.length_map]
        unfold someF
        rw [List.length_append]
        split
        · show 7 + 2 ≤ 9
          decide
        · show 7 + 0 ≤ 9
          decide
      refine ⟨_, rfl, _, rfl, st, cl, D4, n + 2, (someF pf c).map V.str, rfl, S4, hD4, (by omega), (by omega), fun D5 ys H5 hD5 hD5' hp S5 k5 => ?_⟩
      refine ⟨_, rfl, st, cl, n + 2 + ((someF pf c).map V.str).length, 3, rfl, S5, (by decide), (by decide), (by omega), fun i H6 i0 i1 S6 k6 => ?_⟩
      have kk := (k4.trans k5).trans k6
      have nD5 := S4.fr hD5
      have hD6 := k6 _ _ hD5' nD5.1 nD5.2
      obtain ⟨zs, rfl⟩ : ∃ zs : List Str, ys = zs.map V.str := by
        have : ∀ y ∈ ys, ∃ z : Str, y = V.str z := fun y hy => by
          obtain ⟨z, _, rfl⟩ := List.mem_map.mp (hp.mem_iff.mp hy)
          exact ⟨z, rfl⟩
        clear hp hD5' hD6
        induction ys with
        | nil => exact ⟨[], rfl⟩
        | cons y ys ih =>
          obtain ⟨z, rfl⟩ := this y List.mem_cons_self
          obtain ⟨zs, rfl⟩ := ih fun w hw => this w (List.mem_cons_of_mem _ hw)
          exact ⟨z :: zs, rfl⟩
      have hzm : ∀ z ∈ zs, z ∈ someF pf c := fun z hz => by
        have := hp.mem_iff.mp (List.mem_map.mpr ⟨z, hz, rfl⟩)
        obtain ⟨w, hw, e⟩ := List.mem_map.mp this
        rw [← V.str.inj e]
        exact hw
      have hzl : 7 ≤ zs.length := by
        have h1 := hp.length_eq
        rw [List.length_map, List.length_map] at h1
        rw [h1]
        unfold someF
        rw [List.length_append]
        show 7 ≤ 7 + _
        omega
      have ei : (1 + i : Int) = ((1 + i.toNat : Nat) : Int) := by omega
      refine ⟨1, i, rfl, rfl, _, rfl, D5, _, rfl, SqL.of hD6, fun fa hfa => ⟨(by show 2 ≤ sizeLine; decide), fun t ht => ?_⟩⟩
      have nfa := S6.fr hfa
      have nf : H fa = none := by
        cases q : H fa with
        | none => rfl
        | some o =>
          rw [kk _ _ q nfa.1 nfa.2] at hfa
          cases hfa
      have ef := same_upd (o := .lst (cutV (zs.map V.str) none (some (1 + i)))) hfa
      refine k t fa (zs.take (1 + i.toNat)) true (n + 2 + ((someF pf c).map V.str).length + 1) _ nf upd_same ?_ (.inr ⟨rfl, ?_, ?_, c, hcm, fun x hx => hzm x (List.mem_of_mem_take hx)⟩) (by omega) (S6.keep (same_upd2 ef ht)) (kk.trans (Kp2.of_same (same_upd2 ef ht)))
      · rw [upd_ne (ne_of_none upd_same ht), upd_same, ei, cut_take (by rw [List.length_map]; omega), List.map_take]
      · intro z
        have := congrArg List.length z
        rw [List.length_take] at this
        show False
        have h2 : ([] : List Str).length = 0 := rfl
        omega
      · rw [List.length_take]
        omega
end
end K67

/-! d.get(k, x) where k may be None (the keys ints and texts) -/
namespace XGetN
open PySem PySem.Spec PyProof.Rows L2
section
variable {X : Cx} {pins : List (Addr × Obj)} {σ : L2.St} {H : Hp} {s : Shared} {a : Addr} {kvs : List (Key × V)} {A : Around} {E : Value → Shared → Prop} {d : V} {r : Value}
theorem d_get2None {Q : Value → Shared → Prop} (I : Inv X pins σ H s) (e : Rd H a (.dK kvs)) (rd : RelV d r) (h : ∀ w' s', Inv X pins σ H s' → RelV d w' → Q w' s') : wpAny (model X.prog X.w) A (call (.builtin "dict.get") [.ref a, .none, r]) Q E s := by
  obtain ⟨_, hd, vs, _, dd⟩ := dk_rd I.hok e
  obtain ⟨f, hm, hf⟩ := none_map dd
  refine call_meetsIn PySem.F.slot_dict_get dd.typeIs PySem.F.entry_dict_get (PySem.F.args_dict_get_3 _ _ _) (meets_dict_get_default (noneKind X.prog X.w) a (show (noneKind X.prog X.w).is none .none = true from rfl) hd r) ⟨_, hm, h _ _ (I.tok _) ?_⟩
  rw [hf]
  exact rd
end
def tDGet2N (td ty tx : TE) : TE := fun σ H Q => td σ H fun x H1 => ∃ a, x = .ref a ∧ IsD H1 a ∧ ty σ H1 fun y H2 => tx σ H2 fun z H3 => (∃ o, DGet H3 a y o ∧ Q (o.getD z) H3) ∨ ∃ kvs, y = .non ∧ Rd H3 a (.dK kvs) ∧ Q z H3
section
variable {X : Cx} {o e f : Expr} {apos cpos : Pos} {td ty tx : TE}
theorem pe_dget2N (hu : X.A.units + 1 < cLine) (ho : PE X o td) (he : PE X e ty) (hf : PE X f tx) (m : M2 X o "get" apos e f cpos) : PE X (.Call (.Attribute o "get" apos) [e, f] [] cpos) (tDGet2N td ty tx) := by
  refine ⟨fun pins s σ H Q I h => ?_⟩
  refine wpAny_Call_method m.base m.few m.line PySem.F.plainAttrs_dict PySem.F.slot_dict_get PySem.F.type_dict_get (thn (ho.run pins s σ H _ I h) fun u s1 ⟨x, H1, I1, rx, a, ex, d, q1⟩ => ?_)
  subst ex
  obtain rfl : u = Value.ref a := rx
  obtain ⟨t1, t2, _⟩ := isD_at I1 d
  refine ⟨t1, t2, ?_⟩
  rw [m.trees]
  refine Calls.callWith_builtin rfl (Calls.evalArgs_plain (Calls.spliced_cons (thn (he.run pins s1 σ H1 _ I1 q1) fun iv s2 ⟨y, H2, I2, ry, q2⟩ =>
    Calls.spliced_cons (thn (hf.run pins s2 σ H2 _ I2 q2) fun fv s3 ⟨z, H3, I3, rz, q3⟩ => Calls.spliced_nil ?_))))
  rcases q3 with ⟨ov, g, q3⟩ | ⟨kvs, ey, g, q3⟩
  · exact d_get2 hu I3 g ry rz fun w' s4 I4 rw' => ⟨_, H3, I4, rw', q3⟩
  · subst ey
    obtain rfl : iv = Value.none := ry
    exact d_get2None I3 g rz fun w' s4 I4 rw' => ⟨_, H3, I4, rw', q3⟩
end
end XGetN

namespace K67
open PySem L2 PyProof PyProof.Rows
/-! ### actions, options of words -/
theorem cd_new {st cl D : Addr} {H : Hp} {n : Nat} {o : HO} (S : Strm H st cl n) (h : H D = none) (ho : (∃ xs, o = .lst xs) ∨ ∃ xs, o = .tup xs) : Cd st cl (upd H D o) D = some o := cd_at upd_same ho (S.fr h).1 (S.fr h).2
theorem cd_upd {st cl D : Addr} {H : Hp} {o : HO} (h : H D = none) : Same (Cd st cl H) (Cd st cl (upd H D o)) := cd_kp (Kp2.of_same (same_upd h))
theorem kp2_upd {st cl D : Addr} {H H1 : Hp} {o : HO} (k : Kp2 st cl H H1) (h : H1 D = none) : Kp2 st cl H (upd H1 D o) := k.trans (Kp2.of_same (same_upd h))
theorem kp3_put {st cl o : Addr} {H H1 H2 : Hp} (k : Kp3 st cl o H H1) (h : ∀ b u, H1 b = some u → b ≠ o → H2 b = some u) : Kp3 st cl o H H2 := fun q u e n1 n2 n3 => h _ _ (k q u e n1 n2 n3) n3
theorem Strm.upd {H : Hp} {st cl D : Addr} {n : Nat} {o : HO} (S : Strm H st cl n) (h : H D = none) : Strm (upd H D o) st cl n := S.keep (same_upd h)
def spSomeA : Sp := fun vs H Q _ => ∃ (st cl : Addr) (n : Nat) (io : Bool), vs = [.ref st, .bl io] ∧ Strm H st cl n ∧ n ≤ 90000 ∧ ∀ (act : Str) (H' : Hp), act ∈ acts12 → (io = false → act ∈ WWs) → Strm H' st cl (n + 1) → Kp2 st cl H H' → Q (.str act) H'
def act8 : List Str := ["store_const", "append_const", "store_true", "store_false", "count", "yes_no", "help", "version"]
def act4 : List Str := ["store", "store", "append", "extend"]
/-- what stands in options of words -/
def coM : List PyData := [.str "c", .int 5, .none, .list [.str "l"]]
def kiM : List PyData := [.none, .str "str", .str "int"]
def chM : List PyData := [.none, .list [.str "a", .int 1], .tuple [.int 2, .str "b"], .list []]
structure WO (act : Str) (nv : V) (o1 o2 o3 o4 o5 : Option PyData) : Prop where
  nm : nv ∈ nMenu
  n1 : o1.getD .none = scD nv
  ex : act = "extend" → nv ≠ .non ∧ nv ≠ .str "?"
  co : o2.isSome = true → nv = .str "?"
  cm : ∀ d, o2 = some d → d ∈ coM
  km : ∀ d, o3 = some d → d ∈ kiM
  hm : ∀ d, o4 = some d → d ∈ chM
  mv : ∀ d, o5 = some d → d = .none ∨ d = .str "M" ∨ ∃ m : Nat, m ≤ 10 ∧ (if nv = .str "*" then m = 1 ∨ m = 2 else m = wantN nv) ∧ (d = .tuple ((List.replicate m ("A" : Str)).map PyData.str) ∨ d = .list ((List.replicate m ("B" : Str)).map PyData.str))
def wOL (o1 o2 o3 o4 o5 : Option PyData) : OL := [("nargs", o1), ("const", o2), ("kind", o3), ("choices", o4), ("metavar", o5)]
def spWOp : Sp := fun vs H Q _ => ∃ (st cl : Addr) (n : Nat) (act : Str), vs = [.ref st, .str act] ∧ Strm H st cl n ∧ act ∈ WWs ∧ n ≤ 80000 ∧ ∀ (o : Addr) (n' : Nat) (nv : V) (o1 o2 o3 o4 o5 : Option PyData) (H' : Hp), H o = none → WO act nv o1 o2 o3 o4 o5 → n' ≤ n + 20 → Dw st cl o H' n' (wOL o1 o2 o3 o4 o5) → Kp2 st cl H H' → Q (.ref o) H'
def cntA : List V := [.non, .str "?", .str "*", .str "+", .str "...", .int 1, .int 2, .int 3]
def cntE : List V := [.str "*", .str "+", .str "...", .int 1, .int 4]
def cntM (act : Str) : List V := if act ≠ "extend" then cntA else cntE
theorem cnt_ok : ∀ act ∈ WWs, ∀ nv ∈ cntM act, nv ∈ nMenu ∧ (act = "extend" → nv ≠ .non ∧ nv ≠ .str "?") := by decide +kernel
theorem dt_sc {N : Hp} {nv : V} (h : nv ∈ nMenu) : Dt N nv (scD nv) := by
  simp only [nMenu, List.mem_cons, List.not_mem_nil, or_false] at h
  rcases h with rfl | rfl | rfl | rfl | rfl | rfl | rfl | rfl | rfl
  · exact .non
  · exact .str _
  · exact .str _
  · exact .str _
  · exact .str _
  · exact .int _
  · exact .int _
  · exact .int _
  · exact .int _
section
variable {P : Program} {w : World} {K : PySem.W.Frag} {mg : Str → Option Value} {base : Heap}
abbrev nSA : List Str := ["_law_stream", "_law_is_option", "_law_some", "_law_more"]
theorem scSA : FnScope nSA ["_law_stream", "_law_is_option"] (defScope sSomeA) := ⟨rfl, rfl, rfl, by decide +kernel, rfl, by decide +kernel, by decide +kernel⟩
theorem ok_someA {f fP : Addr} {fd fdP : FuncData} (F : Fun K "_law_some_action" "_law_some_action" sSomeA f fd) (T : TxtB mg) (Pk : At P w K mg base "_law_pick" 2 ["_law_stream", "_law_some"] spPick fP fdP) :
    FnOk P w K mg base CX0 3 f fd ["_law_stream", "_law_is_option"] spSomeA := by
  refine F.ok scSA (fun vs H Q E h => ?_) (fun cdv A outer s H vs Q E hr h => ?_)
  · obtain ⟨st, cl, n, io, rfl, _⟩ := h
    rfl
  · obtain ⟨st, cl, n, io, rfl, S, hn, k⟩ := h
    refine ⟨_, pss_mid (ps_set (i := 2) scSA.nd rfl (Or.inl rfl) (pe_lst (pa_cons pe_str (pa_cons pe_str (pa_cons pe_str (pa_cons pe_str pa_nil))))))
      (pss_mid (ps_set (i := 3) scSA.nd rfl (Or.inl rfl) (pe_lst (pa_cons pe_str (pa_cons pe_str (pa_cons pe_str (pa_cons pe_str (pa_cons pe_str (pa_cons pe_str (pa_cons pe_str (pa_cons pe_str pa_nil))))))))))
      (pss_one (ps_ret (pe_call Pk.ok hr rfl Pk.m Pk.k Pk.b .nil pass0 (pa_cons (pv 0) (pa_cons (pe_op op_cat (pv 2) (pe_op op_rep (pv 3) (pe_callTy call_int1 (by rfl) T.int (by decide +kernel) (pa_cons (pv 1) pa_nil)))) pa_nil)))))), ?_⟩
    refine ⟨fun σ' H' => ∃ D, σ' = [some (.ref st), some (.bl io), some (.ref D), none] ∧ Same H H' ∧ H' D = some (.lst (act4.map V.str)), ?_, ?_⟩
    · exact ⟨(by show 4 ≤ sizeLine; decide), fun D hD => ⟨D, rfl, same_upd hD, upd_same⟩⟩
    rintro _ H1 ⟨D, rfl, e1, hD⟩
    refine ⟨fun σ' H' => ∃ D2, σ' = [some (.ref st), some (.bl io), some (.ref D), some (.ref D2)] ∧ Same H1 H' ∧ H' D2 = some (.lst (act8.map V.str)), ?_, ?_⟩
    · exact ⟨(by show 8 ≤ sizeLine; decide), fun D2 hD2 => ⟨D2, rfl, same_upd hD2, upd_same⟩⟩
    rintro _ H2 ⟨D2, rfl, e2, hD2⟩
    refine ⟨_, rfl, _, rfl, _, rfl, _, rfl, .inr ⟨io, rfl, D2, _, _, rfl, rfl, hD2, ?_, ?_, ?_, fun p hp => ?_⟩⟩
    · split <;> decide
    · split <;> decide
    · show 8 * _ ≤ _
      rw [PySem.sizeLine_eq]
      split <;> decide
    have e3 := same_upd (o := .lst (List.replicate (if io = true then (1 : Int) else 0).toNat (act8.map V.str)).flatten) hp
    refine ⟨D, p, _, _, rfl, rfl, e3 _ _ (e2 _ _ hD), upd_same, ?_, fun q hq => ?_⟩
    · rw [PySem.sizeLine_eq]
      cases io <;> decide
    have ee := (e1.trans e2).trans e3
    have nq := (S.keep ee).fr hq
    have eq := same_upd (o := .lst (act4.map V.str ++ (List.replicate (if io = true then (1 : Int) else 0).toNat (act8.map V.str)).flatten)) hq
    refine ⟨st, cl, n, q, _, rfl, (S.keep ee).keep eq, upd_same, nq.1, nq.2, (fun z => nomatch z), ?_, (by omega), fun x H' hx S' k' => ?_⟩
    · cases io <;> decide
    have hk := (Kp2.of_same (a := st) (b := cl) (ee.trans eq)).trans k'
    cases io with
    | true =>
      have hx' : x ∈ (act4 ++ act8).map V.str := hx
      obtain ⟨act, ha, rfl⟩ := List.mem_map.mp hx'
      exact k act H' ((by decide +kernel : ∀ a ∈ act4 ++ act8, a ∈ acts12) act ha) (fun z => nomatch z) S' hk
    | false =>
      have hx' : x ∈ act4.map V.str := hx
      obtain ⟨act, ha, rfl⟩ := List.mem_map.mp hx'
      exact k act H' ((by decide +kernel : ∀ a ∈ act4, a ∈ acts12) act ha) (fun _ => (by decide +kernel : ∀ a ∈ act4, a ∈ WWs) act ha) S' hk
end
end K67

namespace K67
open PySem L2 PyProof PyProof.Rows
/-! ### options of words -/
def JW (st cl o : Addr) (act : Str) (D : Addr) (nv : V) (H : Hp) (n : Nat) (l : OL) : L2.St → Hp → Prop := fun σ' H' => ∃ n', σ' = [some (.ref st), some (.str act), some (.ref D), some nv, some (.ref o), none] ∧ n' ≤ n ∧ Dw st cl o H' n' l ∧ Kp3 st cl o H H'
theorem jw_same {st cl o : Addr} {H H1 H2 : Hp} (k : Kp3 st cl o H H1) (q : Kp2 st cl H1 H2) : Kp3 st cl o H H2 := k.trans (Kp3.of q)
def coV (l : Addr) : List V := [.str "c", .int 5, .non, .ref l]
def chV (a b c : Addr) : List V := [.non, .ref a, .ref b, .ref c]
def meV (a b : Addr) : List V := [.non, .str "M", .ref a, .ref b]
def meM (m : Nat) : List PyData := [.none, .str "M", .tuple ((List.replicate m ("A" : Str)).map PyData.str), .list ((List.replicate m ("B" : Str)).map PyData.str)]
theorem rep_strs (m : Nat) (x : Str) : (List.replicate m ([V.str x])).flatten = (List.replicate m x).map V.str := by
  induction m with
  | zero => rfl
  | succ m ih => rw [List.replicate_succ, List.flatten_cons, ih, List.replicate_succ]; rfl
theorem me_cases {m : Nat} {d : PyData} (h : d ∈ meM m) : d = .none ∨ d = .str "M" ∨ d = .tuple ((List.replicate m ("A" : Str)).map PyData.str) ∨ d = .list ((List.replicate m ("B" : Str)).map PyData.str) := by
  unfold meM at h
  simpa only [List.mem_cons, List.not_mem_nil, or_false] using h
theorem nm_cases {nv : V} (h : nv ∈ nMenu) : nv = .non ∨ (∃ x, nv = .str x) ∨ ∃ i : Int, nv = .int i ∧ (i = 1 ∨ i = 2 ∨ i = 3 ∨ i = 4) := by
  simp only [nMenu, List.mem_cons, List.not_mem_nil, or_false] at h
  rcases h with rfl | rfl | rfl | rfl | rfl | rfl | rfl | rfl | rfl
  · exact .inl rfl
  · exact .inr (.inl ⟨_, rfl⟩)
  · exact .inr (.inl ⟨_, rfl⟩)
  · exact .inr (.inl ⟨_, rfl⟩)
  · exact .inr (.inl ⟨_, rfl⟩)
  · exact .inr (.inr ⟨1, rfl, .inl rfl⟩)
  · exact .inr (.inr ⟨2, rfl, .inr (.inl rfl)⟩)
  · exact .inr (.inr ⟨3, rfl, .inr (.inr (.inl rfl))⟩)
  · exact .inr (.inr ⟨4, rfl, .inr (.inr (.inr rfl))⟩)
section
variable {P : Program} {w : World} {K : PySem.W.Frag} {mg : Str → Option Value} {base : Heap}
abbrev nWO : List Str := ["_law_stream", "_law_action", "_law_counts", "_law_nargs", "_law_options", "_law_many"]
theorem scWO : FnScope nWO ["_law_stream", "_law_action"] (defScope sWOp) := ⟨rfl, rfl, rfl, by decide +kernel, rfl, by decide +kernel, by decide +kernel⟩
theorem ok_wOp {f fD fP : Addr} {fd fdD fdP : FuncData} (F : Fun K "_law_word_options" "_law_word_options" sWOp f fd) (T : TxtB mg) (Dr : At P w K mg base "_law_draw" 1 ["_law_stream", "_law_many"] spDraw fD fdD) (Pk : At P w K mg base "_law_pick" 2 ["_law_stream", "_law_some"] spPick fP fdP) :
    FnOk P w K mg base CX0 3 f fd ["_law_stream", "_law_action"] spWOp := by
  refine F.ok scWO (fun vs H Q E h => ?_) (fun cdv A outer s H vs Q E hr h => ?_)
  · obtain ⟨st, cl, n, act, rfl, _⟩ := h
    rfl
  · obtain ⟨st, cl, n, act, rfl, S, hact, hn, k⟩ := h
    have hu1 := hu_of hr
    have r1 : Room 1 (A.deeper (PyProof.Rows.envOfC "_law_word_options" (defScope sWOp) s.heap.objs.size f cdv)) := hr.mono (by decide)
    refine ⟨_, (pss_mid (ps_set (i := 2) scWO.nd rfl (Or.inl rfl) (pe_ifExp (pt_cmpR op_ne (pv 1) pe_str (nomark _)) (pe_lst (pa_cons pe_non (pa_cons pe_str (pa_cons pe_str (pa_cons pe_str (pa_cons pe_str (pa_cons pe_int (pa_cons pe_int (pa_cons pe_int pa_nil))))))))) (pe_lst (pa_cons pe_str (pa_cons pe_str (pa_cons pe_str (pa_cons pe_int (pa_cons pe_int pa_nil))))))))
      (pss_mid (ps_par (i := 3) (j := 4) (by rfl) scWO.nd rfl rfl (by decide) rfl rfl (pa_cons (pe_call Pk.ok hr rfl Pk.m Pk.k Pk.b .nil pass0 (pa_cons (pv 0) (pa_cons (pv 2) pa_nil))) (pa_cons pe_dnewK pa_nil)) (by rfl))
      (pss_mid (ps_if (PW.pt (pw_or (pt_cmp (pc_notN (pv 3))) (pw_or1 (pt_cmpR op_eq (pe_call Dr.ok r1 rfl Dr.m Dr.k Dr.b .nil pass0 (pa_cons (pv 0) (pa_cons pe_int pa_nil))) pe_int (nomark _))))) (pss_one (ps_dput hu1 (pv 4) pe_str (pv 3) rfl)) pss_nil)
      (pss_mid (ps_if (PW.pt (pw_and (pt_cmpR op_eq (pv 3) pe_str (nomark _)) (pw_and1 (pt_cmpR op_eq (pe_call Dr.ok r1 rfl Dr.m Dr.k Dr.b .nil pass0 (pa_cons (pv 0) (pa_cons pe_int pa_nil))) pe_int (nomark _))))) (pss_one (ps_dput hu1 (pv 4) pe_str (pe_call Pk.ok hr rfl Pk.m Pk.k Pk.b .nil pass0 (pa_cons (pv 0) (pa_cons (pe_lst (pa_cons pe_str (pa_cons pe_int (pa_cons pe_non (pa_cons (pe_lst (pa_cons pe_str pa_nil)) pa_nil))))) pa_nil))) rfl)) pss_nil)
      (pss_mid (ps_if (pt_cmpR op_eq (pe_call Dr.ok r1 rfl Dr.m Dr.k Dr.b .nil pass0 (pa_cons (pv 0) (pa_cons pe_int pa_nil))) pe_int (nomark _)) (pss_one (ps_dput hu1 (pv 4) pe_str (pe_call Pk.ok hr rfl Pk.m Pk.k Pk.b .nil pass0 (pa_cons (pv 0) (pa_cons (pe_lst (pa_cons pe_non (pa_cons pe_str (pa_cons pe_str pa_nil)))) pa_nil))) rfl)) pss_nil)
      (pss_mid (ps_if (pt_cmpR op_eq (pe_call Dr.ok r1 rfl Dr.m Dr.k Dr.b .nil pass0 (pa_cons (pv 0) (pa_cons pe_int pa_nil))) pe_int (nomark _)) (pss_one (ps_dput hu1 (pv 4) pe_str (pe_call Pk.ok hr rfl Pk.m Pk.k Pk.b .nil pass0 (pa_cons (pv 0) (pa_cons (pe_lst (pa_cons pe_non (pa_cons (pe_lst (pa_cons pe_str (pa_cons pe_int pa_nil))) (pa_cons (pe_tup (pa_cons pe_int (pa_cons pe_str pa_nil))) (pa_cons (pe_lst pa_nil) pa_nil))))) pa_nil))) rfl)) pss_nil)
      (pss_mid (ps_if (pt_cmpR op_eq (pe_call Dr.ok r1 rfl Dr.m Dr.k Dr.b .nil pass0 (pa_cons (pv 0) (pa_cons pe_int pa_nil))) pe_int (nomark _)) (pss_mid (ps_set (i := 5) scWO.nd rfl (Or.inl rfl) (pe_ifExp (pt_val (pe_callB call_isi (by rfl) T.isinstance (by decide +kernel) (pa_cons (pv 3) (pa_cons (pe_bltn (v := .ty "int") (by rfl) T.int (by decide +kernel) rfl) pa_nil)))) (pv 3) (XGetN.pe_dget2N hu1 (pe_disp (pps_cons pe_str pe_int (pps_cons pe_str (pe_op op_add pe_int (pe_call Dr.ok r1 rfl Dr.m Dr.k Dr.b .nil pass0 (pa_cons (pv 0) (pa_cons pe_int pa_nil)))) pps_nil)) (by rfl) (by rfl) (fun z => by cases z) (by decide)) (pv 3) pe_int ⟨rfl, rfl, rfl, rfl⟩))) (pss_one (ps_dput hu1 (pv 4) pe_str (pe_call Pk.ok hr rfl Pk.m Pk.k Pk.b .nil pass0 (pa_cons (pv 0) (pa_cons (pe_lst (pa_cons pe_non (pa_cons pe_str (pa_cons (pe_callTy call_tuple_of (by rfl) T.tuple (by decide +kernel) (pa_cons (pe_op op_rep (pe_lst (pa_cons pe_str pa_nil)) (pv 5)) pa_nil)) (pa_cons (pe_op op_rep (pe_lst (pa_cons pe_str pa_nil)) (pv 5)) pa_nil))))) pa_nil))) rfl))) pss_nil)
      (pss_one (ps_ret (pv 4)))))))))), ?_⟩
    refine ⟨fun σ' H' => ∃ D, H D = none ∧ σ' = [some (.ref st), some (.str act), some (.ref D), none, none, none] ∧ Same H H' ∧ H' D = some (.lst (cntM act)), ?_, ?_⟩
    · refine ⟨_, rfl, rfl, _, rfl, ?_⟩
      have hx : ∀ c : Bool, (c = true ↔ act ≠ "extend") → cntM act = if c = true then cntA else cntE := fun c hc => by
        unfold cntM
        by_cases q : act ≠ "extend"
        · rw [if_pos q, if_pos (hc.mpr q)]
        · rw [if_neg q, if_neg (fun z => q (hc.mp z))]
      have hb : (!decide (V.str act = V.str "extend")) = true ↔ act ≠ "extend" := by
        rw [Bool.not_eq_true', decide_eq_false_iff_not]
        exact ⟨fun z q => z (congrArg V.str q), fun z q => z (V.str.inj q)⟩
      have hm := hx _ hb
      refine ite2 (fun h => ?_) (fun h => ?_)
      · rw [if_pos h] at hm
        exact ⟨(by show 8 ≤ sizeLine; decide), fun D hD => ⟨D, hD, rfl, same_upd hD, by rw [hm]; exact upd_same⟩⟩
      · rw [if_neg h] at hm
        exact ⟨(by show 5 ≤ sizeLine; decide), fun D hD => ⟨D, hD, rfl, same_upd hD, by rw [hm]; exact upd_same⟩⟩
    rintro _ H1 ⟨D, hD0, rfl, e1, hD⟩
    have S1 := S.keep e1
    refine ⟨fun σ' H' => ∃ nv o, nv ∈ cntM act ∧ H o = none ∧ JW st cl o act D nv H (n + 1) [] σ' H', ?_, ?_⟩
    · have nDs := S.fr hD0
      refine ⟨_, rfl, _, rfl, st, cl, n, D, cntM act, rfl, S1, hD, nDs.1, nDs.2, ?_, ?_, (by omega), fun x H2 hx S2 k2 => ?_⟩
      · unfold cntM
        split <;> (intro z; cases z)
      · unfold cntM
        split <;> decide
      refine fun o ho => ⟨x, .ref o, rfl, ?_⟩
      have nfa := S2.fr ho
      have kk := (Kp2.of_same e1).trans k2
      have nf : H o = none := by
        cases q : H o with
        | none => rfl
        | some u =>
          rw [kk _ _ q nfa.1 nfa.2] at ho
          cases ho
      have eo := same_upd (o := .dK []) ho
      exact ⟨x, o, hx, nf, n + 1, rfl, Nat.le_refl _, ⟨S2.keep eo, [], upd_same, .nil⟩, Kp3.of (kk.trans (Kp2.of_same eo))⟩
    rintro _ H2 ⟨nv, o, hnv, ho0, n2, rfl, hn2, W2, kp2⟩
    obtain ⟨hnm, hex⟩ := cnt_ok act hact nv hnv
    -- nargs
    refine ⟨fun σ' H' => ∃ od, (∃ d, od.getD .none = d ∧ d = scD nv) ∧ JW st cl o act D nv H (n + 2) [("nargs", od)] σ' H', ?_, ?_⟩
    · have fin : ∀ (H3 : Hp) (n3 : Nat), n3 ≤ n + 2 → Dw st cl o H3 n3 [] → Kp3 st cl o H H3 → ∃ a H4, V.ref o = .ref a ∧ DPut H3 a (.str "nargs") nv H4 ∧ ∃ od, (∃ d, od.getD .none = d ∧ d = scD nv) ∧ JW st cl o act D nv H (n + 2) [("nargs", od)] [some (.ref st), some (.str act), some (.ref D), some nv, some (.ref o), none] H4 := fun H3 n3 h3 W3 k3 => by
        obtain ⟨H4, p1, p2, p3⟩ := W3.put (k := "nargs") (dt_sc (N := Cd st cl H3) hnm) (fun z => nomatch z) (by show 0 ≤ 100; decide)
        exact ⟨o, H4, rfl, p1, some (scD nv), ⟨_, rfl, rfl⟩, n3, rfl, h3, p2, kp3_put k3 p3⟩
      refine ⟨_, rfl, _, rfl, ?_⟩
      refine ite2 (fun hc => iteT ⟨_, rfl, _, rfl, fin H2 n2 (by omega) W2 kp2⟩) (fun hc => ?_)
      have hnn : nv = .non := by
        cases q : decide (nv = .non) with
        | true => exact of_decide_eq_true q
        | false => exact absurd (by rw [q]; rfl) hc
      refine ⟨_, rfl, st, cl, n2, 2, rfl, W2.S, by decide, by decide, by omega, fun j H1 j0 j1 S1 k1 => ⟨rfl, _, rfl, ?_⟩⟩
      refine ite2 (fun hj => ⟨_, rfl, _, rfl, fin H1 (n2 + 1) (by omega) (W2.kp S1 k1) (jw_same kp2 k1)⟩) (fun hj => ?_)
      exact ⟨none, ⟨_, rfl, by rw [hnn]; rfl⟩, n2 + 1, rfl, (by omega), ⟨S1, (W2.kp S1 k1).ox⟩, jw_same kp2 k1⟩
    rintro _ H3 ⟨o1, ⟨_, ho1, rfl⟩, n3, rfl, hn3, W3, kp3⟩
    -- const
    refine ⟨fun σ' H' => ∃ od : Option PyData, ((od.isSome = true → nv = .str "?") ∧ ∀ d, od = some d → d ∈ coM) ∧ JW st cl o act D nv H (n + 4) [("nargs", o1), ("const", od)] σ' H', ?_, ?_⟩
    · refine ⟨_, rfl, (by rcases nm_cases hnm with rfl | ⟨x, rfl⟩ | ⟨i, rfl, _⟩ <;> rfl), _, rfl, ?_⟩
      refine ite2 (fun hc => ?_) (fun hc => iteF ⟨none, ⟨(fun z => nomatch z), (fun _ z => nomatch z)⟩, n3, rfl, (by omega), ⟨W3.S, W3.ox⟩, kp3⟩)
      have hq : nv = .str "?" := of_decide_eq_true hc
      have fin : ∀ (H4 : Hp) (n4 : Nat) (x : V) (d : PyData), n4 ≤ n + 4 → d ∈ coM → Dt (Cd st cl H4) x d → Dw st cl o H4 n4 [("nargs", o1)] → Kp3 st cl o H H4 → ∃ a H5, V.ref o = .ref a ∧ DPut H4 a (.str "const") x H5 ∧ ∃ od : Option PyData, ((od.isSome = true → nv = .str "?") ∧ ∀ d, od = some d → d ∈ coM) ∧ JW st cl o act D nv H (n + 4) [("nargs", o1), ("const", od)] [some (.ref st), some (.str act), some (.ref D), some nv, some (.ref o), none] H5 := fun H4 n4 x d h4 hd hx W4 k4 => by
        obtain ⟨H5, p1, p2, p3⟩ := W4.put (k := "const") hx (by show ¬ _ ∈ (["nargs"] : List Str); decide) (by show 1 ≤ 100; decide)
        exact ⟨o, H5, rfl, p1, some d, ⟨fun _ => hq, fun d' q => by cases q; exact hd⟩, n4, rfl, h4, p2, kp3_put k4 p3⟩
      refine ⟨_, rfl, st, cl, n3, 2, rfl, W3.S, by decide, by decide, by omega, fun j H1 j0 j1 S1 k1 => ⟨rfl, _, rfl, ?_⟩⟩
      refine ite2 (fun hj => ?_) (fun hj => ⟨none, ⟨(fun z => nomatch z), (fun _ z => nomatch z)⟩, n3 + 1, rfl, (by omega), ⟨S1, (W3.kp S1 k1).ox⟩, jw_same kp3 k1⟩)
      have W4 := W3.kp S1 k1
      refine ⟨_, rfl, (by show 1 ≤ sizeLine; decide), fun D1 h1 => ⟨(by show 4 ≤ sizeLine; decide), fun a ha => ?_⟩⟩
      have e1 := same_upd (o := .lst [.str "l"]) h1
      have e2 := same_upd (o := .lst (coV D1)) ha
      have SS := (S1.keep e1).keep e2
      have na := (S1.keep e1).fr ha
      have hN : Dt (Cd st cl (upd (upd H1 D1 (.lst [.str "l"])) a (.lst (coV D1)))) (.ref D1) (.list [.str "l"]) := .lst (cd_upd ha _ _ (cd_new S1 h1 (.inl ⟨_, rfl⟩))) (.cons (.str _) .nil)
      have hA : DtAll (Cd st cl (upd (upd H1 D1 (.lst [.str "l"])) a (.lst (coV D1)))) (coV D1) coM := .cons (.str _) (.cons (.int _) (.cons .non (.cons hN .nil)))
      refine ⟨st, cl, n3 + 1, a, coV D1, rfl, SS, upd_same, na.1, na.2, (fun z => nomatch z), (by show 4 < 1000; decide), (by omega), fun x H4 hx S4 k4 => ?_⟩
      obtain ⟨d, hd, hxd⟩ := dts_mem hA x hx
      have kk := k1.trans ((Kp2.of_same (e1.trans e2)).trans k4)
      exact ⟨_, rfl, fin H4 (n3 + 2) x d (by omega) hd (Dt.mono (cd_kp k4) _ _ hxd) (W3.kp S4 kk) (jw_same kp3 kk)⟩
    rintro _ H4 ⟨o2, ⟨ho2, hm2⟩, n4, rfl, hn4, W4, kp4⟩
    -- kind
    refine ⟨fun σ' H' => ∃ od : Option PyData, (∀ d, od = some d → d ∈ kiM) ∧ JW st cl o act D nv H (n + 6) [("nargs", o1), ("const", o2), ("kind", od)] σ' H', ?_, ?_⟩
    · have fin : ∀ (H4 : Hp) (n4 : Nat) (x : V) (d : PyData), n4 ≤ n + 6 → d ∈ kiM → Dt (Cd st cl H4) x d → Dw st cl o H4 n4 [("nargs", o1), ("const", o2)] → Kp3 st cl o H H4 → ∃ a H5, V.ref o = .ref a ∧ DPut H4 a (.str "kind") x H5 ∧ ∃ od : Option PyData, (∀ d, od = some d → d ∈ kiM) ∧ JW st cl o act D nv H (n + 6) [("nargs", o1), ("const", o2), ("kind", od)] [some (.ref st), some (.str act), some (.ref D), some nv, some (.ref o), none] H5 := fun H4 n4 x d h4 hd hx W4 k4 => by
        obtain ⟨H5, p1, p2, p3⟩ := W4.put (k := "kind") hx (by show ¬ _ ∈ (["nargs", "const"] : List Str); decide) (by show 2 ≤ 100; decide)
        exact ⟨o, H5, rfl, p1, some d, (fun d' q => by cases q; exact hd), n4, rfl, h4, p2, kp3_put k4 p3⟩
      refine ⟨_, rfl, st, cl, n4, 3, rfl, W4.S, by decide, by decide, by omega, fun j H1 j0 j1 S1 k1 => ⟨rfl, _, rfl, ?_⟩⟩
      refine ite2 (fun hj => ?_) (fun hj => ⟨none, (fun _ z => nomatch z), n4 + 1, rfl, (by omega), ⟨S1, (W4.kp S1 k1).ox⟩, jw_same kp4 k1⟩)
      refine ⟨_, rfl, (by show 3 ≤ sizeLine; decide), fun a ha => ?_⟩
      have ee := same_upd (o := .lst [.non, .str "str", .str "int"]) ha
      have na := S1.fr ha
      have hA : DtAll (Cd st cl (upd H1 a (.lst [.non, .str "str", .str "int"]))) [.non, .str "str", .str "int"] kiM := .cons .non (.cons (.str _) (.cons (.str _) .nil))
      refine ⟨st, cl, n4 + 1, a, _, rfl, S1.keep ee, upd_same, na.1, na.2, (fun z => nomatch z), (by show 3 < 1000; decide), (by omega), fun x H4 hx S4 k4 => ?_⟩
      obtain ⟨d, hd, hxd⟩ := dts_mem hA x hx
      have kk := k1.trans ((Kp2.of_same ee).trans k4)
      exact ⟨_, rfl, fin H4 (n4 + 2) x d (by omega) hd (Dt.mono (cd_kp k4) _ _ hxd) (W4.kp S4 kk) (jw_same kp4 kk)⟩
    rintro _ H5 ⟨o3, hm3, n5, rfl, hn5, W5, kp5⟩
    -- choices
    refine ⟨fun σ' H' => ∃ od : Option PyData, (∀ d, od = some d → d ∈ chM) ∧ JW st cl o act D nv H (n + 8) [("nargs", o1), ("const", o2), ("kind", o3), ("choices", od)] σ' H', ?_, ?_⟩
    · have fin : ∀ (H4 : Hp) (n4 : Nat) (x : V) (d : PyData), n4 ≤ n + 8 → d ∈ chM → Dt (Cd st cl H4) x d → Dw st cl o H4 n4 [("nargs", o1), ("const", o2), ("kind", o3)] → Kp3 st cl o H H4 → ∃ a H5, V.ref o = .ref a ∧ DPut H4 a (.str "choices") x H5 ∧ ∃ od : Option PyData, (∀ d, od = some d → d ∈ chM) ∧ JW st cl o act D nv H (n + 8) [("nargs", o1), ("const", o2), ("kind", o3), ("choices", od)] [some (.ref st), some (.str act), some (.ref D), some nv, some (.ref o), none] H5 := fun H4 n4 x d h4 hd hx W4 k4 => by
        obtain ⟨H5, p1, p2, p3⟩ := W4.put (k := "choices") hx (by show ¬ _ ∈ (["nargs", "const", "kind"] : List Str); decide) (by show 3 ≤ 100; decide)
        exact ⟨o, H5, rfl, p1, some d, (fun d' q => by cases q; exact hd), n4, rfl, h4, p2, kp3_put k4 p3⟩
      refine ⟨_, rfl, st, cl, n5, 3, rfl, W5.S, by decide, by decide, by omega, fun j H1 j0 j1 S1 k1 => ⟨rfl, _, rfl, ?_⟩⟩
      refine ite2 (fun hj => ?_) (fun hj => ⟨none, (fun _ z => nomatch z), n5 + 1, rfl, (by omega), ⟨S1, (W5.kp S1 k1).ox⟩, jw_same kp5 k1⟩)
      refine ⟨_, rfl, (by show 2 ≤ sizeLine; decide), fun D1 h1 => ⟨(by show 2 ≤ sizeLine; decide), fun D2 h2 => ⟨(by show 0 ≤ sizeLine; decide), fun D3 h3 => ⟨(by show 4 ≤ sizeLine; decide), fun a ha => ?_⟩⟩⟩⟩
      have e1 := same_upd (o := .lst [.str "a", .int 1]) h1
      have e2 := same_upd (o := .tup [.int 2, .str "b"]) h2
      have e3 := same_upd (o := .lst []) h3
      have e4 := same_upd (o := .lst (chV D1 D2 D3)) ha
      have ee := ((e1.trans e2).trans e3).trans e4
      have na := (((S1.keep e1).keep e2).keep e3).fr ha
      have c1 := (cd_upd (o := .lst (chV D1 D2 D3)) ha) _ _ ((cd_upd (o := .lst []) h3) _ _ ((cd_upd (o := .tup [.int 2, .str "b"]) h2) _ _ (cd_new (o := .lst [.str "a", .int 1]) S1 h1 (.inl ⟨_, rfl⟩))))
      have c2 := (cd_upd (o := .lst (chV D1 D2 D3)) ha) _ _ ((cd_upd (o := .lst []) h3) _ _ (cd_new (o := .tup [.int 2, .str "b"]) (S1.keep e1) h2 (.inr ⟨_, rfl⟩)))
      have c3 := (cd_upd (o := .lst (chV D1 D2 D3)) ha) _ _ (cd_new (o := .lst []) ((S1.keep e1).keep e2) h3 (.inl ⟨_, rfl⟩))
      have hA : DtAll (Cd st cl (upd (upd (upd (upd H1 D1 (.lst [.str "a", .int 1])) D2 (.tup [.int 2, .str "b"])) D3 (.lst [])) a (.lst (chV D1 D2 D3)))) (chV D1 D2 D3) chM := .cons .non (.cons (.lst c1 (.cons (.str _) (.cons (.int _) .nil))) (.cons (.tup c2 (.cons (.int _) (.cons (.str _) .nil))) (.cons (.lst c3 .nil) .nil)))
      refine ⟨st, cl, n5 + 1, a, chV D1 D2 D3, rfl, (((S1.keep e1).keep e2).keep e3).keep e4, upd_same, na.1, na.2, (fun z => nomatch z), (by show 4 < 1000; decide), (by omega), fun x H4 hx S4 k4 => ?_⟩
      obtain ⟨d, hd, hxd⟩ := dts_mem hA x hx
      have kk := k1.trans ((Kp2.of_same ee).trans k4)
      exact ⟨_, rfl, fin H4 (n5 + 2) x d (by omega) hd (Dt.mono (cd_kp k4) _ _ hxd) (W5.kp S4 kk) (jw_same kp5 kk)⟩
    rintro _ H6 ⟨o4, hm4, n6, rfl, hn6, W6, kp6⟩
    -- metavar
    refine ⟨fun σ' H' => ∃ od : Option PyData, (∀ d, od = some d → ∃ m : Nat, m ≤ 10 ∧ (if nv = .str "*" then m = 1 ∨ m = 2 else m = wantN nv) ∧ d ∈ meM m) ∧ ∃ n' σ5, σ' = [some (.ref st), some (.str act), some (.ref D), some nv, some (.ref o), σ5] ∧ n' ≤ n + 12 ∧ Dw st cl o H' n' [("nargs", o1), ("const", o2), ("kind", o3), ("choices", o4), ("metavar", od)] ∧ Kp3 st cl o H H', ?_, ?_⟩
    · refine ⟨_, rfl, st, cl, n6, 3, rfl, W6.S, by decide, by decide, by omega, fun j H1 j0 j1 S1 k1 => ⟨rfl, _, rfl, ?_⟩⟩
      refine ite2 (fun hj => ?_) (fun hj => ⟨none, (fun _ z => nomatch z), n6 + 1, none, rfl, (by omega), ⟨S1, (W6.kp S1 k1).ox⟩, jw_same kp6 k1⟩)
      refine ⟨fun σ' H' => ∃ (m : Nat) (n' : Nat), σ' = [some (.ref st), some (.str act), some (.ref D), some nv, some (.ref o), some (.int m)] ∧ m ≤ 10 ∧ (if nv = .str "*" then m = 1 ∨ m = 2 else m = wantN nv) ∧ n' ≤ n6 + 2 ∧ Strm H' st cl n' ∧ Kp2 st cl H1 H', ?_, ?_⟩
      · rcases nm_cases hnm with hv | ⟨x, hv⟩ | ⟨i, hv, hi⟩
        · subst hv
          refine ⟨_, rfl, _, .ty "int", _, _, false, rfl, .ty _, .base (.non), kit_ty (by decide +kernel), _, rfl, iteF ?_⟩
          intro p hp
          have ep := same_upd (o := .dK []) hp
          refine ⟨_, rfl, st, cl, n6 + 1, 2, rfl, S1.keep ep, (by decide), (by decide), (by omega), fun j2 H4 j2a j2b S4 k4 => ⟨1, j2, rfl, rfl, ?_⟩⟩
          have np := S1.fr hp
          have hp4 : H4 p = some (.dK []) := k4 _ _ upd_same np.1 np.2
          refine ⟨hp4, [((Sum.inr ("+" : Str) : Key), .int 2), (Sum.inr "*", .int (1 + j2))], rfl, (by show 2 ≤ 15; decide), ?_⟩
          have SS : Strm (upd H4 p (.dK (mergeK [] [((Sum.inr ("+" : Str) : Key), .int 2), (Sum.inr "*", .int (1 + j2))]))) st cl (n6 + 2) := by
            obtain ⟨c, a, ns, h1, h2, h3⟩ := S4.ex
            exact ⟨c, a, ns, by rw [upd_ne np.1.symm]; exact h1, by rw [upd_ne np.2.symm]; exact h2, h3⟩
          have kk : Kp2 st cl H1 (upd H4 p (.dK (mergeK [] [((Sum.inr ("+" : Str) : Key), .int 2), (Sum.inr "*", .int (1 + j2))]))) := fun q u e q1 q2 => by
            rw [upd_ne (ne_of_none e hp)]
            exact k4 _ _ (ep _ _ e) q1 q2
          refine ⟨_, rfl, .inl ⟨_, .inl upd_same⟩, _, rfl, ?_⟩
          exact .inr ⟨_, rfl, .inl upd_same, 1, n6 + 2, rfl, (by decide), (by rw [if_neg (fun z => nomatch z)]; rfl), Nat.le_refl _, SS, kk⟩
        · subst hv
          refine ⟨_, rfl, _, .ty "int", _, _, false, rfl, .ty _, .base (.str x), kit_ty (by decide +kernel), _, rfl, iteF ?_⟩
          intro p hp
          have ep := same_upd (o := .dK []) hp
          refine ⟨_, rfl, st, cl, n6 + 1, 2, rfl, S1.keep ep, (by decide), (by decide), (by omega), fun j2 H4 j2a j2b S4 k4 => ⟨1, j2, rfl, rfl, ?_⟩⟩
          have np := S1.fr hp
          have hp4 : H4 p = some (.dK []) := k4 _ _ upd_same np.1 np.2
          refine ⟨hp4, [((Sum.inr ("+" : Str) : Key), .int 2), (Sum.inr "*", .int (1 + j2))], rfl, (by show 2 ≤ 15; decide), ?_⟩
          have SS : Strm (upd H4 p (.dK (mergeK [] [((Sum.inr ("+" : Str) : Key), .int 2), (Sum.inr "*", .int (1 + j2))]))) st cl (n6 + 2) := by
            obtain ⟨c, a, ns, h1, h2, h3⟩ := S4.ex
            exact ⟨c, a, ns, by rw [upd_ne np.1.symm]; exact h1, by rw [upd_ne np.2.symm]; exact h2, h3⟩
          have kk : Kp2 st cl H1 (upd H4 p (.dK (mergeK [] [((Sum.inr ("+" : Str) : Key), .int 2), (Sum.inr "*", .int (1 + j2))]))) := fun q u e q1 q2 => by
            rw [upd_ne (ne_of_none e hp)]
            exact k4 _ _ (ep _ _ e) q1 q2
          refine ⟨_, rfl, .inl ⟨_, .inl upd_same⟩, _, rfl, ?_⟩
          refine .inl ⟨_, DGet.k (k := (Sum.inr x : Key)) upd_same, ?_⟩
          rw [val2, if_neg (by decide)]
          by_cases h1 : x = "+"
          · subst h1
            exact ⟨2, n6 + 2, rfl, (by decide), (by rw [if_neg (by decide)]; rfl), Nat.le_refl _, SS, kk⟩
          · by_cases h2 : x = "*"
            · subst h2
              refine ⟨(1 + j2).toNat, n6 + 2, ?_, (by omega), (by rw [if_pos rfl]; omega), Nat.le_refl _, SS, kk⟩
              rw [if_neg h1, if_pos rfl]
              have : ((1 + j2).toNat : Int) = 1 + j2 := by omega
              rw [this]
              rfl
            · refine ⟨1, n6 + 2, ?_, (by decide), ?_, Nat.le_refl _, SS, kk⟩
              · rw [if_neg h1, if_neg h2]
                rfl
              · rw [if_neg (fun z => h2 (V.str.inj z))]
                show 1 = if x = "+" then 2 else 1
                rw [if_neg h1]
        · subst hv
          refine ⟨_, rfl, _, .ty "int", _, _, true, rfl, .ty _, .base (.int i), kit_ty (by decide +kernel), _, rfl, iteT ⟨_, rfl, i.toNat, n6 + 1, ?_, (by omega), (by rw [if_neg (fun z => nomatch z)]; rfl), (by omega), S1, fun _ _ q _ _ => q⟩⟩
          have : (i.toNat : Int) = i := by omega
          rw [this]
          rfl
      rintro _ H4 ⟨m, n4', rfl, hm, hmw, hn4', S4, k4⟩
      have S4 := S4
      have fin : ∀ (H5 : Hp) (n5 : Nat) (x : V) (d : PyData), n5 ≤ n + 12 → d ∈ meM m → Dt (Cd st cl H5) x d → Dw st cl o H5 n5 [("nargs", o1), ("const", o2), ("kind", o3), ("choices", o4)] → Kp3 st cl o H H5 → ∃ a H6, V.ref o = .ref a ∧ DPut H5 a (.str "metavar") x H6 ∧ ∃ od : Option PyData, (∀ d, od = some d → ∃ m : Nat, m ≤ 10 ∧ (if nv = .str "*" then m = 1 ∨ m = 2 else m = wantN nv) ∧ d ∈ meM m) ∧ ∃ n' σ5, ([some (.ref st), some (.str act), some (.ref D), some nv, some (.ref o), some (.int m)] : L2.St) = [some (.ref st), some (.str act), some (.ref D), some nv, some (.ref o), σ5] ∧ n' ≤ n + 12 ∧ Dw st cl o H6 n' [("nargs", o1), ("const", o2), ("kind", o3), ("choices", o4), ("metavar", od)] ∧ Kp3 st cl o H H6 := fun H5 n5 x d h5 hd hx W5 k5 => by
        obtain ⟨H6, p1, p2, p3⟩ := W5.put (k := "metavar") hx (by show ¬ _ ∈ (["nargs", "const", "kind", "choices"] : List Str); decide) (by show 4 ≤ 100; decide)
        exact ⟨o, H6, rfl, p1, some d, (fun d' q => by cases q; exact ⟨m, hm, hmw, hd⟩), n5, _, rfl, h5, p2, kp3_put k5 p3⟩
      have m63 : -(2 ^ 63) ≤ (m : Int) ∧ (m : Int) < 2 ^ 63 := by omega
      have msz : 1 * ((m : Int)).toNat ≤ sizeLine := by rw [PySem.sizeLine_eq]; omega
      refine ⟨_, rfl, (by show 1 ≤ sizeLine; decide), fun D1 h1 => ⟨_, rfl, D1, (m : Int), _, rfl, rfl, upd_same, m63.1, m63.2, msz, fun D2 h2 => ⟨D2, _, rfl, .inl ⟨SqL.of upd_same, fun D3 h3 => ?_⟩⟩⟩⟩
      have e1 := same_upd (o := .lst [.str "A"]) h1
      have e2 := same_upd (o := .lst (List.replicate (m : Int).toNat [V.str "A"]).flatten) h2
      have e3 := same_upd (o := .tup (List.replicate (m : Int).toNat [V.str "A"]).flatten) h3
      have S5 := ((S4.keep e1).keep e2)
      have c3 := cd_new (o := .tup (List.replicate (m : Int).toNat [V.str "A"]).flatten) S5 h3 (.inr ⟨_, rfl⟩)
      have eA := (e1.trans e2).trans e3
      generalize upd (upd (upd H4 D1 (.lst [.str "A"])) D2 (.lst (List.replicate (m : Int).toNat [V.str "A"]).flatten)) D3 (.tup (List.replicate (m : Int).toNat [V.str "A"]).flatten) = G at eA c3
      have SG := S4.keep eA
      refine ⟨(by show 1 ≤ sizeLine; decide), fun D4 h4 => ⟨_, rfl, D4, (m : Int), _, rfl, rfl, upd_same, m63.1, m63.2, msz, fun D5 h5 => ⟨(by show 4 ≤ sizeLine; decide), fun a ha => ?_⟩⟩⟩
      have e4 := same_upd (o := .lst [.str "B"]) h4
      have e5 := same_upd (o := .lst (List.replicate (m : Int).toNat [V.str "B"]).flatten) h5
      have e6 := same_upd (o := .lst (meV D3 D5)) ha
      have c5 := (cd_upd (o := .lst (meV D3 D5)) ha) _ _ (cd_new (o := .lst (List.replicate (m : Int).toNat [V.str "B"]).flatten) (SG.keep e4) h5 (.inl ⟨_, rfl⟩))
      have c3' := (cd_upd (o := .lst (meV D3 D5)) ha) _ _ ((cd_upd (o := .lst (List.replicate (m : Int).toNat [V.str "B"]).flatten) h5) _ _ ((cd_upd (o := .lst [.str "B"]) h4) _ _ c3))
      have na := ((SG.keep e4).keep e5).fr ha
      have mn : (m : Int).toNat = m := by omega
      have hA : DtAll (Cd st cl (upd (upd (upd G D4 (.lst [.str "B"])) D5 (.lst (List.replicate (m : Int).toNat [V.str "B"]).flatten)) a (.lst (meV D3 D5)))) (meV D3 D5) (meM m) := by
        refine .cons .non (.cons (.str _) (.cons (.tup c3' ?_) (.cons (.lst c5 ?_) .nil)))
        · rw [mn, rep_strs m "A"]
          exact dts_strs _
        · rw [mn, rep_strs]
          exact dts_strs _
      refine ⟨st, cl, n4', a, meV D3 D5, rfl, ((SG.keep e4).keep e5).keep e6, upd_same, na.1, na.2, (fun z => nomatch z), (by show 4 < 1000; decide), (by omega), fun x H8 hx S8 k8 => ?_⟩
      obtain ⟨d, hd, hxd⟩ := dts_mem hA x hx
      have kk := (k1.trans k4).trans ((Kp2.of_same (((eA.trans e4).trans e5).trans e6)).trans k8)
      exact ⟨_, rfl, fin H8 (n4' + 1) x d (by omega) hd (Dt.mono (cd_kp k8) _ _ hxd) (W6.kp S8 kk) (jw_same kp6 kk)⟩
    rintro _ H7 ⟨o5, hm5, n7, σ5, rfl, hn7, W7, kp7⟩
    refine ⟨_, rfl, k o n7 nv o1 o2 o3 o4 o5 H7 ho0 ⟨hnm, ho1, hex, ho2, hm2, hm3, hm4, fun d q => ?_⟩ (by omega) W7 (kp7.new ho0)⟩
    obtain ⟨m, a1, a2, a3⟩ := hm5 d q
    rcases me_cases a3 with h | h | h | h
    · exact .inl h
    · exact .inr (.inl h)
    · exact .inr (.inr ⟨m, a1, a2, .inl h⟩)
    · exact .inr (.inr ⟨m, a1, a2, .inr h⟩)
end
end K67


namespace K67
open PySem L2 PyProof PyProof.Rows
/-! ### right options -/
def JR (st cl o : Addr) (act : Str) (io : Bool) (H : Hp) (n : Nat) (l : OL) : L2.St → Hp → Prop := fun σ' H' => ∃ n' σ4, σ' = [some (.ref st), some (.str act), some (.bl io), some (.ref o), σ4] ∧ n' ≤ n ∧ Dw st cl o H' n' l ∧ Kp3 st cl o H H'
theorem Dw.put2 {st cl o : Addr} {H : Hp} {n : Nat} {L0 r : OL} (dw : Dw st cl o H n (L0 ++ r)) {k : Str} {v : V} {d : PyData} (hv : Dt (Cd st cl H) v d) (hk : k ∉ (L0 ++ r).map (·.1)) (hl : (L0 ++ r).length ≤ 100) : ∃ H', DPut H o (.str k) v H' ∧ Dw st cl o H' n (L0 ++ (r ++ [(k, some d)])) ∧ ∀ b u, H b = some u → b ≠ o → H' b = some u := by
  rw [← List.append_assoc]
  exact dw.put hv hk hl
theorem Dw.non {st cl o : Addr} {H : Hp} {n : Nat} {L0 r : OL} (dw : Dw st cl o H n (L0 ++ r)) (k : Str) : Dw st cl o H n (L0 ++ (r ++ [(k, none)])) := by
  rw [← List.append_assoc]
  obtain ⟨S, kvs, h, he⟩ := dw
  refine ⟨S, kvs, h, ?_⟩
  rw [mk_snoc]
  show Held _ _ (_ ++ [])
  rw [List.append_nil]
  exact he
def n5 : List Str := ["nargs", "const", "kind", "choices", "metavar"]
theorem key_no {L0 r : OL} {k : Str} (hL : ∀ x ∈ L0.map (·.1), x ∈ n5) (h5 : k ∉ n5) (hr : k ∉ r.map (·.1)) : k ∉ (L0 ++ r).map (·.1) := by
  rw [List.map_append]
  intro z
  rcases List.mem_append.mp z with z | z
  · exact h5 (hL _ z)
  · exact hr z
/-- the put behind a draw -/
theorem jr_put {st cl o : Addr} {act : Str} {io : Bool} {H H4 : Hp} {n n4 b : Nat} {L0 r : OL} {k : Str} {x : V} {d : PyData} {σ4 : Option V} {C : Option PyData → Prop} (hL : ∀ x ∈ L0.map (·.1), x ∈ n5) (hl : L0.length ≤ 10) (h5 : k ∉ n5) (hr : k ∉ r.map (·.1)) (hrl : r.length ≤ 10)
    (h4 : n4 ≤ n + b) (hx : Dt (Cd st cl H4) x d) (W4 : Dw st cl o H4 n4 (L0 ++ r)) (k4 : Kp3 st cl o H H4) (hc : C (some d)) :
    ∃ a H5, V.ref o = .ref a ∧ DPut H4 a (.str k) x H5 ∧ ∃ od : Option PyData, C od ∧ JR st cl o act io H (n + b) (L0 ++ (r ++ [(k, od)])) [some (.ref st), some (.str act), some (.bl io), some (.ref o), σ4] H5 := by
  obtain ⟨H5, p1, p2, p3⟩ := W4.put2 (k := k) hx (key_no hL h5 hr) (by rw [List.length_append]; omega)
  exact ⟨o, H5, rfl, p1, some d, hc, n4, σ4, rfl, h4, p2, kp3_put k4 p3⟩
def cM2 : List PyData := [.int 3, .none, .str "k", .list [.int 1, .list [.int 2]]]
def dMl : List PyData := [.none, .list [.str "d"], .str SUP]
def dMo : List PyData := [.int 7, .str "t", .tuple [.int 1, .int 2]]
def dM (act : Str) : List PyData := dMl ++ if act ∈ LLs then [] else dMo
def vM : List PyData := [.str "", .str "V 1", .str "{prog}"]
def heM : List PyData := [.none, .str "", .str "some help", .str SUP]
def deM : List PyData := [.str "d", .str "a b", .str "x-y", .str SUP]
def hv2 (act : Str) : Prop := act ≠ "help" ∧ act ≠ "version"
/-- the first options -/
def L0ok (act : Str) (L0 : OL) : Prop := (act ∈ WWs ∧ ∃ (nv : V) (o1 o2 o3 o4 o5 : Option PyData), L0 = wOL o1 o2 o3 o4 o5 ∧ WO act nv o1 o2 o3 o4 o5) ∨ (act ∉ WWs ∧ ∃ oc : Option PyData, L0 = ([("const", oc)] : OL) ∧ ∀ d, oc = some d → act ∈ WCs ∧ d ∈ cM2)
theorem L0ok.ks {act : Str} {L0 : OL} (h : L0ok act L0) : (∀ x ∈ L0.map (·.1), x ∈ n5) ∧ L0.length ≤ 10 := by
  rcases h with ⟨_, nv, o1, o2, o3, o4, o5, rfl, _⟩ | ⟨_, oc, rfl, _⟩
  · exact ⟨(by show ∀ x ∈ n5, x ∈ n5; exact fun _ h => h), (by show 5 ≤ 10; decide)⟩
  · exact ⟨(by show ∀ x ∈ (["const"] : List Str), x ∈ n5; decide), (by show 1 ≤ 10; decide)⟩
structure RO (act : Str) (io : Bool) (L0 : OL) (od orq ov oh ode oa : Option PyData) : Prop where
  l0 : L0ok act L0
  de : ∀ d, od = some d → hv2 act ∧ d ∈ dM act
  rq : ∀ d, orq = some d → io = true ∧ hv2 act ∧ ∃ b, d = .bool b
  ve : (act = "version" → ∃ d ∈ vM, ov = some d) ∧ (act ≠ "version" → ov = none)
  he : ∀ d, oh = some d → d ∈ heM
  ds : ∀ d, ode = some d → io = true ∧ d ∈ deM
  ac : oa.getD (.str "store") = .str act
def rOL (od orq ov oh ode oa : Option PyData) : OL := [("default", od), ("required", orq), ("version", ov), ("help", oh), ("dest", ode), ("action", oa)]
def spROp : Sp := fun vs H Q _ => ∃ (st cl : Addr) (n : Nat) (act : Str) (io : Bool), vs = [.ref st, .str act, .bl io] ∧ Strm H st cl n ∧ act ∈ acts12 ∧ (io = false → act ∈ WWs) ∧ n ≤ 70000 ∧ ∀ (o : Addr) (n' : Nat) (L0 : OL) (od orq ov oh ode oa : Option PyData) (H' : Hp), H o = none → RO act io L0 od orq ov oh ode oa → n' ≤ n + 60 → Dw st cl o H' n' (L0 ++ rOL od orq ov oh ode oa) → Kp2 st cl H H' → Q (.ref o) H'
def HVs : List Str := ["help", "version"]
theorem hv_of {act : Str} (h : (!decide (act ∈ HVs)) = true) : hv2 act := by
  rw [Bool.not_eq_true', decide_eq_false_iff_not] at h
  exact ⟨fun z => h (by rw [z]; decide), fun z => h (by rw [z]; decide)⟩
theorem none_of {H H' : Hp} (e : Same H H') {b : Addr} (h : H' b = none) : H b = none := by
  cases q : H b with
  | none => rfl
  | some o =>
    rw [e _ _ q] at h
    cases h
theorem eqS (act x : Str) : decide (V.str act = V.str x) = decide (act = x) := by
  by_cases h : act = x
  · rw [decide_eq_true h, decide_eq_true (congrArg V.str h)]
  · rw [decide_eq_false h, decide_eq_false (fun z => h (V.str.inj z))]
section
variable {P : Program} {w : World} {K : PySem.W.Frag} {mg : Str → Option Value} {base : Heap}
abbrev nRO : List Str := ["_law_stream", "_law_action", "_law_is_option", "_law_options", "_law_lists"]
theorem scRO : FnScope nRO ["_law_stream", "_law_action", "_law_is_option"] (defScope sROp) := ⟨rfl, rfl, rfl, by decide +kernel, rfl, by decide +kernel, by decide +kernel⟩
theorem ok_rOp {f fD fP fW aW aC aO aN aL aA : Addr} {fd fdD fdP fdW : FuncData} (F : Fun K "_law_right_options" "_law_right_options" sROp f fd) (T : TxtB mg) (Z : TxtK K mg aW aC aO aN aL aA) (Dr : At P w K mg base "_law_draw" 1 ["_law_stream", "_law_many"] spDraw fD fdD) (Pk : At P w K mg base "_law_pick" 2 ["_law_stream", "_law_some"] spPick fP fdP) (Wo : At P w K mg base "_law_word_options" 3 ["_law_stream", "_law_action"] spWOp fW fdW) :
    FnOk P w K mg base CX0 4 f fd ["_law_stream", "_law_action", "_law_is_option"] spROp := by
  refine F.ok scRO (fun vs H Q E h => ?_) (fun cdv A outer s H vs Q E hr h => ?_)
  · obtain ⟨st, cl, n, act, io, rfl, _⟩ := h
    rfl
  · obtain ⟨st, cl, n, act, io, rfl, S, hact, hio, hn, k⟩ := h
    have hu1 := hu_of hr
    have hr3 := hr
    have r2 : Room 2 (A.deeper (PyProof.Rows.envOfC "_law_right_options" (defScope sROp) s.heap.objs.size f cdv)) := hr.mono (by decide)
    have r1 : Room 1 (A.deeper (PyProof.Rows.envOfC "_law_right_options" (defScope sROp) s.heap.objs.size f cdv)) := hr.mono (by decide)
    obtain ⟨tsup, hsup⟩ := Z.sup
    refine ⟨_, (pss_mid (ps_set (i := 3) scRO.nd rfl (Or.inl rfl) (pe_ifExp (pt_cmpR op_in_seq (pv 1) (pe_tup (pa_cons pe_str (pa_cons pe_str (pa_cons pe_str pa_nil)))) (by rfl)) (pe_call Wo.ok hr3 rfl Wo.m Wo.k Wo.b .nil pass0 (pa_cons (pv 0) (pa_cons (pv 1) pa_nil))) pe_dnewK))
      (pss_mid (ps_if (PW.pt (pw_and (pt_cmpR op_in_seq (pv 1) (pe_tup (pa_cons pe_str (pa_cons pe_str pa_nil))) (by rfl)) (pw_and1 (pt_cmpR op_gt (pe_call Dr.ok r1 rfl Dr.m Dr.k Dr.b .nil pass0 (pa_cons (pv 0) (pa_cons pe_int pa_nil))) pe_int (nomark _))))) (pss_one (ps_dput hu1 (pv 3) pe_str (pe_call Pk.ok r2 rfl Pk.m Pk.k Pk.b .nil pass0 (pa_cons (pv 0) (pa_cons (pe_lst (pa_cons pe_int (pa_cons pe_non (pa_cons pe_str (pa_cons (pe_lst (pa_cons pe_int (pa_cons (pe_lst (pa_cons pe_int pa_nil)) pa_nil))) pa_nil))))) pa_nil))) rfl)) pss_nil)
      (pss_mid (ps_if (PW.pt (pw_and (pt_cmpR op_notIn_seq (pv 1) (pe_tup (pa_cons pe_str (pa_cons pe_str pa_nil))) (by rfl)) (pw_and1 (pt_cmpR op_eq (pe_call Dr.ok r1 rfl Dr.m Dr.k Dr.b .nil pass0 (pa_cons (pv 0) (pa_cons pe_int pa_nil))) pe_int (nomark _))))) (pss_mid (ps_set (i := 4) scRO.nd rfl (Or.inl rfl) (pe_cmpR op_in_seq (pv 1) (pe_tup (pa_cons pe_str (pa_cons pe_str (pa_cons pe_str pa_nil)))) (by rfl))) (pss_one (ps_dput hu1 (pv 3) pe_str (pe_call Pk.ok r2 rfl Pk.m Pk.k Pk.b .nil pass0 (pa_cons (pv 0) (pa_cons (pe_op op_cat (pe_lst (pa_cons pe_non (pa_cons (pe_lst (pa_cons pe_str pa_nil)) (pa_cons (pe_glob (v := .str SUP) rfl hsup ⟨tsup, rfl⟩) pa_nil)))) (pe_op op_rep (pe_lst (pa_cons pe_int (pa_cons pe_str (pa_cons (pe_tup (pa_cons pe_int (pa_cons pe_int pa_nil))) pa_nil)))) (pe_callTy call_int1 (by rfl) T.int (by decide +kernel) (pa_cons (pe_not (pv 4)) pa_nil)))) pa_nil))) rfl))) pss_nil)
      (pss_mid (ps_if (PW.pt (pw_and (pt_val (pv 2)) (pw_and (pt_cmpR op_notIn_seq (pv 1) (pe_tup (pa_cons pe_str (pa_cons pe_str pa_nil))) (by rfl)) (pw_and1 (pt_cmpR op_eq (pe_call Dr.ok r1 rfl Dr.m Dr.k Dr.b .nil pass0 (pa_cons (pv 0) (pa_cons pe_int pa_nil))) pe_int (nomark _)))))) (pss_one (ps_dput hu1 (pv 3) pe_str (pe_cmpR op_eq (pe_call Dr.ok r1 rfl Dr.m Dr.k Dr.b .nil pass0 (pa_cons (pv 0) (pa_cons pe_int pa_nil))) pe_int (nomark _)) rfl)) pss_nil)
      (pss_mid (ps_if (pt_cmpR op_eq (pv 1) pe_str (nomark _)) (pss_one (ps_dput hu1 (pv 3) pe_str (pe_call Pk.ok r2 rfl Pk.m Pk.k Pk.b .nil pass0 (pa_cons (pv 0) (pa_cons (pe_lst (pa_cons pe_str (pa_cons pe_str (pa_cons pe_str pa_nil)))) pa_nil))) rfl)) pss_nil)
      (pss_mid (ps_if (pt_cmpR op_eq (pe_call Dr.ok r1 rfl Dr.m Dr.k Dr.b .nil pass0 (pa_cons (pv 0) (pa_cons pe_int pa_nil))) pe_int (nomark _)) (pss_one (ps_dput hu1 (pv 3) pe_str (pe_call Pk.ok r2 rfl Pk.m Pk.k Pk.b .nil pass0 (pa_cons (pv 0) (pa_cons (pe_lst (pa_cons pe_non (pa_cons pe_str (pa_cons pe_str (pa_cons (pe_glob (v := .str SUP) rfl hsup ⟨tsup, rfl⟩) pa_nil))))) pa_nil))) rfl)) pss_nil)
      (pss_mid (ps_if (PW.pt (pw_and (pt_val (pv 2)) (pw_and1 (pt_cmpR op_eq (pe_call Dr.ok r1 rfl Dr.m Dr.k Dr.b .nil pass0 (pa_cons (pv 0) (pa_cons pe_int pa_nil))) pe_int (nomark _))))) (pss_one (ps_dput hu1 (pv 3) pe_str (pe_call Pk.ok r2 rfl Pk.m Pk.k Pk.b .nil pass0 (pa_cons (pv 0) (pa_cons (pe_lst (pa_cons pe_str (pa_cons pe_str (pa_cons pe_str (pa_cons (pe_glob (v := .str SUP) rfl hsup ⟨tsup, rfl⟩) pa_nil))))) pa_nil))) rfl)) pss_nil)
      (pss_mid (ps_if (PW.pt (pw_or (pt_cmpR op_ne (pv 1) pe_str (nomark _)) (pw_or1 (pt_cmpR op_eq (pe_call Dr.ok r1 rfl Dr.m Dr.k Dr.b .nil pass0 (pa_cons (pv 0) (pa_cons pe_int pa_nil))) pe_int (nomark _))))) (pss_one (ps_dput hu1 (pv 3) pe_str (pv 1) rfl)) pss_nil)
      (pss_one (ps_ret (pv 3))))))))))), ?_⟩
    -- the first
    refine ⟨fun σ' H' => ∃ o L0, H o = none ∧ ((act ∈ WWs ∧ L0ok act L0) ∨ (act ∉ WWs ∧ L0 = [])) ∧ JR st cl o act io H (n + 20) L0 σ' H', ?_, ?_⟩
    · refine ⟨_, rfl, ?_⟩
      refine ⟨(by show 3 ≤ sizeLine; decide), fun q hq => ?_⟩
      have eq := same_upd (o := .tup [.str "store", .str "append", .str "extend"]) hq
      have hq1 : (upd H q (.tup [.str "store", .str "append", .str "extend"])) q = some (.tup (WWs.map V.str)) := upd_same
      generalize upd H q (.tup [.str "store", .str "append", .str "extend"]) = G at eq hq1
      refine ⟨q, _, rfl, .inr (SqT.of hq1), rfl, flat_strs _, ?_⟩
      rw [if_neg Bool.false_ne_true, inV_strs]
      refine ⟨_, rfl, ?_⟩
      have SG := S.keep eq
      refine ite2 (fun hc => ?_) (fun hc => ?_)
      · have hw := of_decide_eq_true hc
        refine ⟨_, rfl, _, rfl, st, cl, n, act, rfl, SG, hw, (by omega), fun o n' nv o1 o2 o3 o4 o5 H' ho hW hn' W' k' => ?_⟩
        exact ⟨o, wOL o1 o2 o3 o4 o5, none_of eq ho, .inl ⟨hw, .inl ⟨hw, nv, o1, o2, o3, o4, o5, rfl, hW⟩⟩, n', _, rfl, hn', W', Kp3.of ((Kp2.of_same eq).trans k')⟩
      · have hw : act ∉ WWs := fun z => hc (decide_eq_true z)
        refine fun o ho => ?_
        have eo := same_upd (o := .dK []) ho
        exact ⟨o, [], none_of eq ho, .inr ⟨hw, rfl⟩, n, _, rfl, (by omega), ⟨SG.keep eo, [], upd_same, .nil⟩, Kp3.of (Kp2.of_same (eq.trans eo))⟩
    rintro _ H1 ⟨o, L00, ho0, hL00, n1, σ1, rfl, hn1, W1, kp1⟩
    -- const
    refine ⟨fun σ' H' => ∃ L0, L0ok act L0 ∧ JR st cl o act io H (n + 24) L0 σ' H', ?_, ?_⟩
    · have hno : act ∉ WCs → ∀ (H4 : Hp) (n4 : Nat) (σ4 : Option V), n4 ≤ n + 24 → Dw st cl o H4 n4 L00 → Kp3 st cl o H H4 → ∃ L0, L0ok act L0 ∧ JR st cl o act io H (n + 24) L0 [some (.ref st), some (.str act), some (.bl io), some (.ref o), σ4] H4 := fun hcn H4 n4 σ4 h4 W4 k4 => by
        rcases hL00 with ⟨hw, hL⟩ | ⟨hw, rfl⟩
        · exact ⟨L00, hL, n4, σ4, rfl, h4, W4, k4⟩
        · exact ⟨[("const", none)], .inr ⟨hw, none, rfl, fun _ z => nomatch z⟩, n4, σ4, rfl, h4, ⟨W4.S, W4.ox⟩, k4⟩
      refine ⟨_, rfl, (by show 2 ≤ sizeLine; decide), fun q hq => ?_⟩
      have eq := same_upd (o := .tup [.str "store_const", .str "append_const"]) hq
      have hq1 : (upd H1 q (.tup [.str "store_const", .str "append_const"])) q = some (.tup (WCs.map V.str)) := upd_same
      generalize upd H1 q (.tup [.str "store_const", .str "append_const"]) = G at eq hq1
      refine ⟨q, _, rfl, .inr (SqT.of hq1), rfl, flat_strs _, ?_⟩
      rw [if_neg Bool.false_ne_true, inV_strs]
      have WG := W1.same eq
      have kG := kp1.trans (Kp3.of (Kp2.of_same eq))
      refine ⟨_, rfl, ?_⟩
      refine ite2 (fun hc => ?_) (fun hc => iteF (hno (fun z => hc (decide_eq_true z)) _ n1 _ (by omega) WG kG))
      have hcc := of_decide_eq_true hc
      have hw : act ∉ WWs := (by decide +kernel : ∀ a ∈ WCs, a ∉ WWs) act hcc
      obtain rfl : L00 = [] := by
        rcases hL00 with ⟨z, _⟩ | ⟨_, z⟩
        · exact absurd z hw
        · exact z
      refine ⟨_, rfl, st, cl, n1, 3, rfl, WG.S, by decide, by decide, by omega, fun j HJ j0 j1 SJ kJ => ?_⟩
      refine ⟨j, 0, rfl, rfl, _, rfl, ?_⟩
      have WJ := WG.kp SJ kJ
      have kpJ := jw_same kG kJ
      refine ite2 (fun hj => ?_) (fun hj => ⟨[("const", none)], .inr ⟨hw, none, rfl, fun _ z => nomatch z⟩, n1 + 1, _, rfl, (by omega), ⟨WJ.S, WJ.ox⟩, kpJ⟩)
      refine ⟨_, rfl, (by show 1 ≤ sizeLine; decide), fun D1 h1 => ⟨(by show 2 ≤ sizeLine; decide), fun D2 h2 => ⟨(by show 4 ≤ sizeLine; decide), fun a ha => ?_⟩⟩⟩
      have e1 := same_upd (o := .lst [.int 2]) h1
      have e2 := same_upd (o := .lst [.int 1, .ref D1]) h2
      have e3 := same_upd (o := .lst [.int 3, .non, .str "k", .ref D2]) ha
      have ee := (e1.trans e2).trans e3
      have na := ((SJ.keep e1).keep e2).fr ha
      have c1 := (cd_upd (o := .lst [.int 3, .non, .str "k", .ref D2]) ha) _ _ ((cd_upd (o := .lst [.int 1, .ref D1]) h2) _ _ (cd_new (o := .lst [.int 2]) SJ h1 (.inl ⟨_, rfl⟩)))
      have c2 := (cd_upd (o := .lst [.int 3, .non, .str "k", .ref D2]) ha) _ _ (cd_new (o := .lst [.int 1, .ref D1]) (SJ.keep e1) h2 (.inl ⟨_, rfl⟩))
      have hA : DtAll (Cd st cl (upd (upd (upd HJ D1 (.lst [.int 2])) D2 (.lst [.int 1, .ref D1])) a (.lst [.int 3, .non, .str "k", .ref D2]))) [.int 3, .non, .str "k", .ref D2] cM2 := .cons (.int _) (.cons .non (.cons (.str _) (.cons (.lst c2 (.cons (.int _) (.cons (.lst c1 (.cons (.int _) .nil)) .nil))) .nil)))
      refine ⟨st, cl, n1 + 1, a, _, rfl, SJ.keep ee, upd_same, na.1, na.2, (fun z => nomatch z), (by show 4 < 1000; decide), (by omega), fun x H4 hx S4 k4 => ?_⟩
      obtain ⟨d, hd, hxd⟩ := dts_mem hA x hx
      have kk := (Kp2.of_same ee).trans k4
      obtain ⟨H5, p1, p2, p3⟩ := (WJ.kp S4 kk).put (k := "const") (Dt.mono (cd_kp k4) _ _ hxd) (fun z => nomatch z) (by show 0 ≤ 100; decide)
      exact ⟨_, rfl, o, H5, rfl, p1, [("const", some d)], .inr ⟨hw, some d, rfl, fun d' q => by cases q; exact ⟨hcc, hd⟩⟩, n1 + 2, _, rfl, (by omega), p2, kp3_put (jw_same kpJ kk) p3⟩
    rintro _ H2 ⟨L0, hL0, n2, σ2, rfl, hn2, W2, kp2⟩
    obtain ⟨hLk, hLl⟩ := hL0.ks
    rw [← List.append_nil L0] at W2
    have gio : (if io = true then true else false) = io := by cases io <;> rfl
    -- default
    refine ⟨fun σ' H' => ∃ oz : Option PyData, (∀ d, oz = some d → hv2 act ∧ d ∈ dM act) ∧ JR st cl o act io H (n + 28) (L0 ++ ([("default", oz)] : OL)) σ' H', ?_, ?_⟩
    · refine ⟨_, rfl, (by show 2 ≤ sizeLine; decide), fun q hq => ?_⟩
      have eq := same_upd (o := .tup [.str "help", .str "version"]) hq
      have hq1 : (upd H2 q (.tup [.str "help", .str "version"])) q = some (.tup (HVs.map V.str)) := upd_same
      generalize upd H2 q (.tup [.str "help", .str "version"]) = G at eq hq1
      refine ⟨q, _, rfl, .inr (SqT.of hq1), rfl, flat_strs _, ?_⟩
      rw [if_pos rfl, inV_strs]
      have WG := W2.same eq
      have kG := kp2.trans (Kp3.of (Kp2.of_same eq))
      refine ⟨_, rfl, ?_⟩
      refine ite2 (fun hc => ?_) (fun hc => iteF ⟨none, (fun _ z => nomatch z), n2, _, rfl, (by omega), (WG).non "default", kG⟩)
      have hh : hv2 act := hv_of hc
      refine ⟨_, rfl, st, cl, n2, 3, rfl, WG.S, by decide, by decide, by omega, fun j HJ j0 j1 SJ kJ => ?_⟩
      refine ⟨rfl, _, rfl, ?_⟩
      have WJ := WG.kp SJ kJ
      have kpJ := jw_same kG kJ
      refine ite2 (fun hj => ?_) (fun hj => ⟨none, (fun _ z => nomatch z), n2 + 1, _, rfl, (by omega), (WJ).non "default", kpJ⟩)
      refine ⟨fun σ' H' => ∃ hl : Bool, hl = decide (act ∈ LLs) ∧ σ' = [some (.ref st), some (.str act), some (.bl io), some (.ref o), some (.bl hl)] ∧ Same HJ H', ?_, ?_⟩
      · refine ⟨_, rfl, (by show 3 ≤ sizeLine; decide), fun q hq => ?_⟩
        have eL := same_upd (o := .tup [.str "append", .str "append_const", .str "extend"]) hq
        have hq1 : (upd HJ q (.tup [.str "append", .str "append_const", .str "extend"])) q = some (.tup (LLs.map V.str)) := upd_same
        generalize upd HJ q (.tup [.str "append", .str "append_const", .str "extend"]) = GL at eL hq1
        refine ⟨q, _, rfl, .inr (SqT.of hq1), rfl, flat_strs _, ?_⟩
        rw [if_neg Bool.false_ne_true, inV_strs]
        exact ⟨_, rfl, rfl, eL⟩
      rintro _ HL ⟨hl, hle, rfl, eL⟩
      have SL := SJ.keep eL
      refine ⟨_, rfl, (by show 1 ≤ sizeLine; decide), fun D1 h1 => ⟨(by show 3 ≤ sizeLine; decide), fun D2 h2 => ⟨(by show 2 ≤ sizeLine; decide), fun T3 h3 => ⟨(by show 3 ≤ sizeLine; decide), fun D4 h4 => ?_⟩⟩⟩⟩
      have e1 := same_upd (o := .lst [.str "d"]) h1
      have e2 := same_upd (o := .lst [.non, .ref D1, .str SUP]) h2
      have e3 := same_upd (o := .tup [.int 1, .int 2]) h3
      have e4 := same_upd (o := .lst [.int 7, .str "t", .ref T3]) h4
      have c1 := (cd_upd (o := .lst [.int 7, .str "t", .ref T3]) h4) _ _ ((cd_upd (o := .tup [.int 1, .int 2]) h3) _ _ ((cd_upd (o := .lst [.non, .ref D1, .str SUP]) h2) _ _ (cd_new (o := .lst [.str "d"]) SL h1 (.inl ⟨_, rfl⟩))))
      have c3 := (cd_upd (o := .lst [.int 7, .str "t", .ref T3]) h4) _ _ (cd_new (o := .tup [.int 1, .int 2]) ((SL.keep e1).keep e2) h3 (.inr ⟨_, rfl⟩))
      have g2 := e4 _ _ (e3 _ _ (upd_same : (upd (upd HL D1 (.lst [.str "d"])) D2 (.lst [.non, .ref D1, .str SUP])) D2 = _))
      have g4 : (upd (upd (upd (upd HL D1 (.lst [.str "d"])) D2 (.lst [.non, .ref D1, .str SUP])) T3 (.tup [.int 1, .int 2])) D4 (.lst [.int 7, .str "t", .ref T3])) D4 = _ := upd_same
      have eA := ((e1.trans e2).trans e3).trans e4
      generalize upd (upd (upd (upd HL D1 (.lst [.str "d"])) D2 (.lst [.non, .ref D1, .str SUP])) T3 (.tup [.int 1, .int 2])) D4 (.lst [.int 7, .str "t", .ref T3]) = G4 at eA c1 c3 g2 g4
      have SA := SL.keep eA
      refine ⟨_, rfl, hl, rfl, .inr ⟨!hl, rfl, D4, _, _, rfl, rfl, g4, ?_, ?_, ?_, fun p hp => ?_⟩⟩
      · cases hl <;> decide
      · cases hl <;> decide
      · show 3 * _ ≤ _
        rw [PySem.sizeLine_eq]
        cases hl <;> decide
      have e5 := same_upd (o := .lst (List.replicate (if (!hl) = true then (1 : Int) else 0).toNat [V.int 7, .str "t", .ref T3]).flatten) hp
      refine ⟨D2, p, _, _, rfl, rfl, e5 _ _ g2, upd_same, ?_, fun q hq => ?_⟩
      · rw [PySem.sizeLine_eq]
        cases hl with
        | true => show 3 + 0 ≤ 16777216; decide
        | false => show 3 + 3 ≤ 16777216; decide
      have e6 := same_upd (o := .lst ([.non, .ref D1, .str SUP] ++ (List.replicate (if (!hl) = true then (1 : Int) else 0).toNat [V.int 7, .str "t", .ref T3]).flatten)) hq
      have nq := ((SA.keep e5)).fr hq
      have gq : (upd (upd G4 p (.lst (List.replicate (if (!hl) = true then (1 : Int) else 0).toNat [V.int 7, .str "t", .ref T3]).flatten)) q (.lst ([.non, .ref D1, .str SUP] ++ (List.replicate (if (!hl) = true then (1 : Int) else 0).toNat [V.int 7, .str "t", .ref T3]).flatten))) q = _ := upd_same
      have eF := e5.trans e6
      generalize upd (upd G4 p (.lst (List.replicate (if (!hl) = true then (1 : Int) else 0).toNat [V.int 7, .str "t", .ref T3]).flatten)) q (.lst ([.non, .ref D1, .str SUP] ++ (List.replicate (if (!hl) = true then (1 : Int) else 0).toNat [V.int 7, .str "t", .ref T3]).flatten)) = GF at eF gq
      have c1F := cd_kp (Kp2.of_same (a := st) (b := cl) eF) _ _ c1
      have c3F := cd_kp (Kp2.of_same (a := st) (b := cl) eF) _ _ c3
      have hA : DtAll (Cd st cl GF) ([.non, .ref D1, .str SUP] ++ (List.replicate (if (!hl) = true then (1 : Int) else 0).toNat [V.int 7, .str "t", .ref T3]).flatten) (dM act) := by
        cases hl with
        | true =>
          have hin : act ∈ LLs := of_decide_eq_true hle.symm
          unfold dM
          rw [if_pos hin]
          exact .cons .non (.cons (.lst c1F (.cons (.str _) .nil)) (.cons (.str _) .nil))
        | false =>
          have hin : act ∉ LLs := of_decide_eq_false hle.symm
          unfold dM
          rw [if_neg hin]
          exact .cons .non (.cons (.lst c1F (.cons (.str _) .nil)) (.cons (.str _) (.cons (.int _) (.cons (.str _) (.cons (.tup c3F (.cons (.int _) (.cons (.int _) .nil))) .nil)))))
      refine ⟨st, cl, n2 + 1, q, _, rfl, SA.keep eF, gq, nq.1, nq.2, (fun z => nomatch z), ?_, (by omega), fun x H4 hx S4 k4 => ?_⟩
      · cases hl with
        | true => show 3 < 1000; decide
        | false => show 6 < 1000; decide
      obtain ⟨d, hd, hxd⟩ := dts_mem hA x hx
      have kk := (Kp2.of_same ((eL.trans eA).trans eF)).trans k4
      exact ⟨_, rfl, jr_put (r := ([] : OL)) (k := "default") (b := 28) (C := fun oz => ∀ d, oz = some d → hv2 act ∧ d ∈ dM act) hLk hLl (by decide) (by show ¬ _ ∈ ([] : List Str); decide) (by show 0 ≤ 10; decide) ((by omega)) (Dt.mono (cd_kp k4) _ _ hxd) (WJ.kp S4 kk) (jw_same kpJ kk) ((fun d' q => by cases q; exact ⟨hh, hd⟩))⟩
    rintro _ H3 ⟨od, hod, n3, σ3, rfl, hn3, W3, kp3⟩
    -- required
    refine ⟨fun σ' H' => ∃ oz : Option PyData, (∀ d, oz = some d → io = true ∧ hv2 act ∧ ∃ b, d = .bool b) ∧ JR st cl o act io H (n + 34) (L0 ++ ([("default", od), ("required", oz)] : OL)) σ' H', ?_, ?_⟩
    · refine ⟨_, rfl, io, rfl, ?_⟩
      refine ite2 (fun hi => ?_) (fun hi => iteF ⟨none, (fun _ z => nomatch z), n3, _, rfl, (by omega), (W3).non "required", kp3⟩)
      refine ⟨_, rfl, (by show 2 ≤ sizeLine; decide), fun q hq => ?_⟩
      have eq := same_upd (o := .tup [.str "help", .str "version"]) hq
      have hq1 : (upd H3 q (.tup [.str "help", .str "version"])) q = some (.tup (HVs.map V.str)) := upd_same
      generalize upd H3 q (.tup [.str "help", .str "version"]) = G at eq hq1
      refine ⟨q, _, rfl, .inr (SqT.of hq1), rfl, flat_strs _, ?_⟩
      rw [if_pos rfl, inV_strs]
      have WG := W3.same eq
      have kG := kp3.trans (Kp3.of (Kp2.of_same eq))
      refine ⟨_, rfl, ?_⟩
      refine ite2 (fun hc => ?_) (fun hc => iteF ⟨none, (fun _ z => nomatch z), n3, _, rfl, (by omega), (WG).non "required", kG⟩)
      have hh : hv2 act := hv_of hc
      refine ⟨_, rfl, st, cl, n3, 4, rfl, WG.S, by decide, by decide, by omega, fun j HJ j0 j1 SJ kJ => ?_⟩
      refine ⟨rfl, _, rfl, ?_⟩
      have WJ := WG.kp SJ kJ
      have kpJ := jw_same kG kJ
      refine ite2 (fun hj => ?_) (fun hj => ⟨none, (fun _ z => nomatch z), n3 + 1, _, rfl, (by omega), (WJ).non "required", kpJ⟩)
      refine ⟨_, rfl, st, cl, n3 + 1, 2, rfl, SJ, by decide, by decide, by omega, fun j2 H4 j20 j21 S4 k4 => ?_⟩
      exact ⟨rfl, _, rfl, jr_put (r := ([("default", od)] : OL)) (k := "required") (b := 34) (C := fun oz => ∀ d, oz = some d → io = true ∧ hv2 act ∧ ∃ b, d = .bool b) hLk hLl (by decide) (by show ¬ _ ∈ (["default"] : List Str); decide) (by show 1 ≤ 10; decide) ((by omega)) (Dt.bl _) (WJ.kp S4 k4) (jw_same kpJ k4) ((fun d' q => by cases q; exact ⟨hi, hh, _, rfl⟩))⟩
    rintro _ H4 ⟨orq, horq, n4, σ4, rfl, hn4, W4, kp4⟩
    -- version
    refine ⟨fun σ' H' => ∃ oz : Option PyData, ((act = "version" → ∃ d ∈ vM, oz = some d) ∧ (act ≠ "version" → oz = none)) ∧ JR st cl o act io H (n + 36) (L0 ++ ([("default", od), ("required", orq), ("version", oz)] : OL)) σ' H', ?_, ?_⟩
    · refine ⟨_, rfl, rfl, _, rfl, ?_⟩
      refine ite2 (fun hc => ?_) (fun hc => ⟨none, ⟨fun z => absurd (decide_eq_true (congrArg V.str z)) hc, fun _ => rfl⟩, n4, _, rfl, (by omega), (W4).non "version", kp4⟩)
      have hv : act = "version" := V.str.inj (of_decide_eq_true hc)
      refine ⟨_, rfl, (by show 3 ≤ sizeLine; decide), fun a ha => ?_⟩
      have ee := same_upd (o := .lst [.str "", .str "V 1", .str "{prog}"]) ha
      have na := W4.S.fr ha
      have hA : DtAll (Cd st cl (upd H4 a (.lst [.str "", .str "V 1", .str "{prog}"]))) [.str "", .str "V 1", .str "{prog}"] vM := .cons (.str _) (.cons (.str _) (.cons (.str _) .nil))
      refine ⟨st, cl, n4, a, _, rfl, W4.S.keep ee, upd_same, na.1, na.2, (fun z => nomatch z), (by show 3 < 1000; decide), (by omega), fun x H5 hx S5 k5 => ?_⟩
      obtain ⟨d, hd, hxd⟩ := dts_mem hA x hx
      have kk := (Kp2.of_same ee).trans k5
      exact ⟨_, rfl, jr_put (r := ([("default", od), ("required", orq)] : OL)) (k := "version") (b := 36) (C := fun oz => (act = "version" → ∃ d ∈ vM, oz = some d) ∧ (act ≠ "version" → oz = none)) hLk hLl (by decide) (by show ¬ _ ∈ (["default", "required"] : List Str); decide) (by show 2 ≤ 10; decide) ((by omega)) (Dt.mono (cd_kp k5) _ _ hxd) (W4.kp S5 kk) (jw_same kp4 kk) (⟨fun _ => ⟨d, hd, rfl⟩, fun z => absurd hv z⟩)⟩
    rintro _ H5 ⟨ov, hov, n5, σ5, rfl, hn5, W5, kp5⟩
    -- help
    refine ⟨fun σ' H' => ∃ oz : Option PyData, (∀ d, oz = some d → d ∈ heM) ∧ JR st cl o act io H (n + 38) (L0 ++ ([("default", od), ("required", orq), ("version", ov), ("help", oz)] : OL)) σ' H', ?_, ?_⟩
    · refine ⟨_, rfl, st, cl, n5, 4, rfl, W5.S, by decide, by decide, by omega, fun j HJ j0 j1 SJ kJ => ?_⟩
      refine ⟨rfl, _, rfl, ?_⟩
      have WJ := W5.kp SJ kJ
      have kpJ := jw_same kp5 kJ
      refine ite2 (fun hj => ?_) (fun hj => ⟨none, (fun _ z => nomatch z), n5 + 1, _, rfl, (by omega), (WJ).non "help", kpJ⟩)
      refine ⟨_, rfl, (by show 4 ≤ sizeLine; decide), fun a ha => ?_⟩
      have ee := same_upd (o := .lst [.non, .str "", .str "some help", .str SUP]) ha
      have na := SJ.fr ha
      have hA : DtAll (Cd st cl (upd HJ a (.lst [.non, .str "", .str "some help", .str SUP]))) [.non, .str "", .str "some help", .str SUP] heM := .cons .non (.cons (.str _) (.cons (.str _) (.cons (.str _) .nil)))
      refine ⟨st, cl, n5 + 1, a, _, rfl, SJ.keep ee, upd_same, na.1, na.2, (fun z => nomatch z), (by show 4 < 1000; decide), (by omega), fun x H5 hx S5 k5 => ?_⟩
      obtain ⟨d, hd, hxd⟩ := dts_mem hA x hx
      have kk := (Kp2.of_same ee).trans k5
      exact ⟨_, rfl, jr_put (r := ([("default", od), ("required", orq), ("version", ov)] : OL)) (k := "help") (b := 38) (C := fun oz => ∀ d, oz = some d → d ∈ heM) hLk hLl (by decide) (by show ¬ _ ∈ (["default", "required", "version"] : List Str); decide) (by show 3 ≤ 10; decide) ((by omega)) (Dt.mono (cd_kp k5) _ _ hxd) (WJ.kp S5 kk) (jw_same kpJ kk) ((fun d' q => by cases q; exact hd))⟩
    rintro _ H6 ⟨oh, hoh, n6, σ6, rfl, hn6, W6, kp6⟩
    -- dest
    refine ⟨fun σ' H' => ∃ oz : Option PyData, (∀ d, oz = some d → io = true ∧ d ∈ deM) ∧ JR st cl o act io H (n + 40) (L0 ++ ([("default", od), ("required", orq), ("version", ov), ("help", oh), ("dest", oz)] : OL)) σ' H', ?_, ?_⟩
    · refine ⟨_, rfl, io, rfl, ?_⟩
      refine ite2 (fun hi => ?_) (fun hi => iteF ⟨none, (fun _ z => nomatch z), n6, _, rfl, (by omega), (W6).non "dest", kp6⟩)
      refine ⟨_, rfl, st, cl, n6, 5, rfl, W6.S, by decide, by decide, by omega, fun j HJ j0 j1 SJ kJ => ?_⟩
      refine ⟨rfl, _, rfl, ?_⟩
      have WJ := W6.kp SJ kJ
      have kpJ := jw_same kp6 kJ
      refine ite2 (fun hj => ?_) (fun hj => ⟨none, (fun _ z => nomatch z), n6 + 1, _, rfl, (by omega), (WJ).non "dest", kpJ⟩)
      refine ⟨_, rfl, (by show 4 ≤ sizeLine; decide), fun a ha => ?_⟩
      have ee := same_upd (o := .lst [.str "d", .str "a b", .str "x-y", .str SUP]) ha
      have na := SJ.fr ha
      have hA : DtAll (Cd st cl (upd HJ a (.lst [.str "d", .str "a b", .str "x-y", .str SUP]))) [.str "d", .str "a b", .str "x-y", .str SUP] deM := .cons (.str _) (.cons (.str _) (.cons (.str _) (.cons (.str _) .nil)))
      refine ⟨st, cl, n6 + 1, a, _, rfl, SJ.keep ee, upd_same, na.1, na.2, (fun z => nomatch z), (by show 4 < 1000; decide), (by omega), fun x H5 hx S5 k5 => ?_⟩
      obtain ⟨d, hd, hxd⟩ := dts_mem hA x hx
      have kk := (Kp2.of_same ee).trans k5
      exact ⟨_, rfl, jr_put (r := ([("default", od), ("required", orq), ("version", ov), ("help", oh)] : OL)) (k := "dest") (b := 40) (C := fun oz => ∀ d, oz = some d → io = true ∧ d ∈ deM) hLk hLl (by decide) (by show ¬ _ ∈ (["default", "required", "version", "help"] : List Str); decide) (by show 4 ≤ 10; decide) ((by omega)) (Dt.mono (cd_kp k5) _ _ hxd) (WJ.kp S5 kk) (jw_same kpJ kk) ((fun d' q => by cases q; exact ⟨hi, hd⟩))⟩
    rintro _ H7 ⟨ode, hode, n7, σ7, rfl, hn7, W7, kp7⟩
    -- action
    refine ⟨fun σ' H' => ∃ oz : Option PyData, (oz.getD (.str "store") = .str act) ∧ JR st cl o act io H (n + 42) (L0 ++ ([("default", od), ("required", orq), ("version", ov), ("help", oh), ("dest", ode), ("action", oz)] : OL)) σ' H', ?_, ?_⟩
    · refine ⟨_, rfl, rfl, _, rfl, ?_⟩
      refine ite2 (fun hc => iteT ⟨_, rfl, _, rfl, jr_put (r := ([("default", od), ("required", orq), ("version", ov), ("help", oh), ("dest", ode)] : OL)) (k := "action") (b := 42) (C := fun oz => oz.getD (.str "store") = .str act) hLk hLl (by decide) (by show ¬ _ ∈ (["default", "required", "version", "help", "dest"] : List Str); decide) (by show 5 ≤ 10; decide) ((by omega)) (Dt.str _) (W7) (kp7) (rfl)⟩) (fun hc => ?_)
      have hs : act = "store" := by
        cases q : decide (V.str act = V.str "store") with
        | true => exact V.str.inj (of_decide_eq_true q)
        | false => exact absurd (by rw [q]; rfl) hc
      refine ⟨_, rfl, st, cl, n7, 2, rfl, W7.S, by decide, by decide, by omega, fun j HJ j0 j1 SJ kJ => ?_⟩
      refine ⟨rfl, _, rfl, ?_⟩
      have WJ := W7.kp SJ kJ
      have kpJ := jw_same kp7 kJ
      refine ite2 (fun hj => ⟨_, rfl, _, rfl, jr_put (r := ([("default", od), ("required", orq), ("version", ov), ("help", oh), ("dest", ode)] : OL)) (k := "action") (b := 42) (C := fun oz => oz.getD (.str "store") = .str act) hLk hLl (by decide) (by show ¬ _ ∈ (["default", "required", "version", "help", "dest"] : List Str); decide) (by show 5 ≤ 10; decide) ((by omega)) (Dt.str _) (WJ) (kpJ) (rfl)⟩) (fun hj => ⟨none, (by rw [hs]; rfl), n7 + 1, _, rfl, (by omega), (WJ).non "action", kpJ⟩)
    rintro _ H8 ⟨oa, hoa, n8, σ8, rfl, hn8, W8, kp8⟩
    exact ⟨_, rfl, k o n8 L0 od orq ov oh ode oa H8 ho0 ⟨hL0, hod, horq, hov, hoh, hode, hoa⟩ (by omega) W8 (kp8.new ho0)⟩
end
end K67


namespace K67
open PySem L2 PyProof PyProof.Rows
/-! ### options drawn are right -/
theorem keys_o' : ∀ act ∈ acts12, ∀ k ∈ (["const", "default", "required", "version", "help", "dest", "action"] : List Str), act ∈ WWs ∨ (k = "const" ∧ act ∉ WCs) ∨ (k = "version" ∧ act ≠ "version") ∨ ((k = "default" ∨ k = "required") ∧ (act = "help" ∨ act = "version")) ∨ k ∈ keysS act := by decide +kernel
theorem keys_o (act : Str) (h1 : act ∈ acts12) (h2 : act ∉ WWs) (k : Str) (hk : k ∈ (["const", "default", "required", "version", "help", "dest", "action"] : List Str)) (c1 : k = "const" → act ∈ WCs) (c2 : k = "version" → act = "version") (c3 : k = "default" ∨ k = "required" → act ≠ "help" ∧ act ≠ "version") : k ∈ keysS act := by
  rcases keys_o' act h1 k hk with h | ⟨h, q⟩ | ⟨h, q⟩ | ⟨h, q⟩ | h
  · exact absurd h h2
  · exact absurd (c1 h) q
  · exact absurd (c2 h) q
  · rcases q with q | q
    · exact absurd q (c3 h).1
    · exact absurd q (c3 h).2
  · exact h
theorem keys_w : ∀ act ∈ WWs, ∀ k ∈ (["nargs", "const", "kind", "choices", "metavar", "default", "required", "help", "dest", "action"] : List Str), k ∈ keysS act := by decide +kernel
def okd (d : PyData) : Prop := PyData.depth d ≤ 2 ∧ small d = true ∧ SeqAt.shaped d = true
theorem okd_m : (∀ d ∈ coM, okd d) ∧ (∀ d ∈ kiM, okd d) ∧ (∀ d ∈ chM, okd d) ∧ (∀ d ∈ cM2, okd d) ∧ (∀ d ∈ dMl, okd d) ∧ (∀ d ∈ dMo, okd d) ∧ (∀ d ∈ vM, okd d) ∧ (∀ d ∈ heM, okd d) ∧ (∀ d ∈ deM, okd d) := by
  unfold okd
  decide +kernel
theorem okd_b (b : Bool) : okd (.bool b) := ⟨by show 0 ≤ 2; decide, rfl, rfl⟩
theorem okd_s (x : Str) (h : PyData.strOk x = true) : okd (.str x) := ⟨by show 0 ≤ 2; decide, rfl, by unfold SeqAt.shaped; rw [Bool.and_eq_true]; exact ⟨h, decide_eq_true (Nat.zero_le _)⟩⟩
theorem okd_a : ∀ a ∈ acts12, okd (.str a) := by
  unfold okd
  decide +kernel
theorem okd_n : ∀ nv ∈ nMenu, okd (scD nv) := by
  unfold okd
  decide +kernel
theorem okd_r : ∀ m ≤ 10, okd (.tuple ((List.replicate m ("A" : Str)).map PyData.str)) ∧ okd (.list ((List.replicate m ("B" : Str)).map PyData.str)) := by
  intro m hm
  have : m = 0 ∨ m = 1 ∨ m = 2 ∨ m = 3 ∨ m = 4 ∨ m = 5 ∨ m = 6 ∨ m = 7 ∨ m = 8 ∨ m = 9 ∨ m = 10 := by omega
  unfold okd
  rcases this with rfl | rfl | rfl | rfl | rfl | rfl | rfl | rfl | rfl | rfl | rfl <;> decide +kernel
theorem okd_dM {act : Str} : ∀ d ∈ dM act, okd d := fun d hd => by
  unfold dM at hd
  rcases List.mem_append.mp hd with h | h
  · exact okd_m.2.2.2.2.1 d h
  · split at h
    · cases h
    · exact okd_m.2.2.2.2.2.1 d h
theorem fits_of {act : Str} {nv : V} {o1 o2 o3 o4 o5 : Option PyData} (h : WO act nv o1 o2 o3 o4 o5) : FitsM (o5.getD .none) nv ∧ ∀ d, o5 = some d → okd d := by
  have h5 := h.mv
  cases o5 with
  | none => exact ⟨.inl rfl, fun _ z => nomatch z⟩
  | some d =>
    rcases h5 d rfl with rfl | rfl | ⟨m, hm, hw, hd⟩
    · exact ⟨.inl rfl, fun _ z => by cases z; exact ⟨by show 0 ≤ 2; decide, rfl, rfl⟩⟩
    · exact ⟨.inr (.inl ⟨"M", rfl, by decide⟩), fun _ z => by cases z; exact okd_s _ (by decide +kernel)⟩
    · have ok := okd_r m hm
      rcases hd with rfl | rfl
      · refine ⟨.inr (.inr ⟨_, .inr rfl, fun x hx => ?_, by rw [List.length_replicate]; exact hm, by rw [List.length_replicate]; exact hw⟩), fun _ z => by cases z; exact ok.1⟩
        rw [List.eq_of_mem_replicate hx]
        decide
      · refine ⟨.inr (.inr ⟨_, .inl rfl, fun x hx => ?_, by rw [List.length_replicate]; exact hm, by rw [List.length_replicate]; exact hw⟩), fun _ z => by cases z; exact ok.2⟩
        rw [List.eq_of_mem_replicate hx]
        decide
theorem n1_ok {nv : V} {o1 : Option PyData} (h : o1.getD .none = scD nv) (hn : nv ∈ nMenu) : ∀ d, o1 = some d → okd d := fun d e => by
  rw [e] at h
  have h' : d = scD nv := h
  rw [h']
  exact okd_n nv hn
theorem de_l {act : Str} {od : Option PyData} (h : ∀ d, od = some d → hv2 act ∧ d ∈ dM act) (hl : act ∈ LLs) : od.getD .none = .none ∨ od.getD .none = .str SUP ∨ ∃ l, od.getD .none = .list l := by
  cases od with
  | none => exact .inl rfl
  | some d =>
    have hd := (h d rfl).2
    unfold dM at hd
    rw [if_pos hl, List.append_nil] at hd
    simp only [dMl, List.mem_cons, List.not_mem_nil, or_false] at hd
    rcases hd with rfl | rfl | rfl
    · exact .inl rfl
    · exact .inr (.inr ⟨_, rfl⟩)
    · exact .inr (.inl rfl)
theorem he_l {oh : Option PyData} (h : ∀ d, oh = some d → d ∈ heM) : oh.getD .none = .none ∨ ∃ z, oh.getD .none = .str z := by
  cases oh with
  | none => exact .inl rfl
  | some d =>
    have hd := h d rfl
    simp only [heM, List.mem_cons, List.not_mem_nil, or_false] at hd
    rcases hd with rfl | rfl | rfl | rfl
    · exact .inl rfl
    · exact .inr ⟨_, rfl⟩
    · exact .inr ⟨_, rfl⟩
    · exact .inr ⟨_, rfl⟩
theorem ch_l {o : Option PyData} (h : ∀ d, o = some d → d ∈ chM) : o.getD .none = .none ∨ (∃ l, o.getD .none = .list l) ∨ ∃ l, o.getD .none = .tuple l := by
  cases o with
  | none => exact .inl rfl
  | some d =>
    have hd := h d rfl
    simp only [chM, List.mem_cons, List.not_mem_nil, or_false] at hd
    rcases hd with rfl | rfl | rfl | rfl
    · exact .inl rfl
    · exact .inr (.inl ⟨_, rfl⟩)
    · exact .inr (.inr ⟨_, rfl⟩)
    · exact .inr (.inl ⟨_, rfl⟩)
theorem ki_l {o : Option PyData} (h : ∀ d, o = some d → d ∈ kiM) : ∃ kv ∈ kindsV, o.getD .none = scD kv := by
  cases o with
  | none => exact ⟨.non, by decide, rfl⟩
  | some d =>
    have hd := h d rfl
    simp only [kiM, List.mem_cons, List.not_mem_nil, or_false] at hd
    rcases hd with rfl | rfl | rfl
    · exact ⟨.non, by decide, rfl⟩
    · exact ⟨.str "str", by decide, rfl⟩
    · exact ⟨.str "int", by decide, rfl⟩
theorem ro_ok {act : Str} {io : Bool} {L0 : OL} {od orq ov oh ode oa : Option PyData} (h : RO act io L0 od orq ov oh ode oa) (hact : act ∈ acts12) (hio : io = false → act ∈ WWs) :
    OkO io act (mkD (L0 ++ rOL od orq ov oh ode oa)) ∧ (mkD (L0 ++ rOL od orq ov oh ode oa)).length ≤ 12 ∧ lookD (mkD (L0 ++ rOL od orq ov oh ode oa)) "dest" = ode := by
  obtain ⟨hL, hde, hrq, hve, hhe, hds, hac⟩ := h
  obtain ⟨m1, m2, m3, m4, m5, m6, m7, m8, m9⟩ := okd_m
  have okv : ∀ d, ov = some d → okd d := fun d e => by
    by_cases hv : act = "version"
    · obtain ⟨d', hd', e'⟩ := hve.1 hv
      rw [e'] at e
      cases e
      exact m7 _ hd'
    · rw [hve.2 hv] at e
      cases e
  have oka : ∀ d, oa = some d → okd d := fun d e => by
    rw [e] at hac
    have h' : d = .str act := hac
    rw [h']
    exact okd_a _ hact
  have okr : ∀ d, orq = some d → okd d := fun d e => by
    obtain ⟨_, _, b, rfl⟩ := hrq d e
    exact okd_b b
  have hrq' : ∀ d, orq = some d → io = true ∧ ∃ b, d = .bool b := fun d e => ⟨(hrq d e).1, (hrq d e).2.2⟩
  rcases hL with ⟨hw, nv, o1, o2, o3, o4, o5, rfl, hW⟩ | ⟨hw, oc, rfl, hoc⟩
  · have hnv : act ≠ "version" := fun z => (by decide +kernel : ∀ a ∈ WWs, a ≠ "version") act hw z
    have eL : wOL o1 o2 o3 o4 o5 ++ rOL od orq ov oh ode oa = ([("nargs", o1), ("const", o2), ("kind", o3), ("choices", o4), ("metavar", o5), ("default", od), ("required", orq), ("version", ov), ("help", oh), ("dest", ode), ("action", oa)] : OL) := rfl
    rw [eL]
    have hl : ∀ k, lookD (mkD ([("nargs", o1), ("const", o2), ("kind", o3), ("choices", o4), ("metavar", o5), ("default", od), ("required", orq), ("version", ov), ("help", oh), ("dest", ode), ("action", oa)] : OL)) k = lkO ([("nargs", o1), ("const", o2), ("kind", o3), ("choices", o4), ("metavar", o5), ("default", od), ("required", orq), ("version", ov), ("help", oh), ("dest", ode), ("action", oa)] : OL) k := fun k => look_mk (by show (["nargs", "const", "kind", "choices", "metavar", "default", "required", "version", "help", "dest", "action"] : List Str).Nodup; decide +kernel)
    obtain ⟨hfm, hfo⟩ := fits_of hW
    refine ⟨⟨?_, hact, hio, ?_, ?_, fun z => absurd z hnv, fun _ => ⟨nv, hW.nm, ?_, hW.ex, ?_, ?_⟩, fun _ => ?_, ?_, fun hll => ?_, ?_, ?_, ?_⟩, Nat.le_trans (mk_len _) (by show 11 ≤ 12; decide), ?_⟩
    · rw [hl]
      exact hac
    · intro k hk
      have hk2 := mk_keys hk
      obtain ⟨d, hd⟩ := look_key hk
      rw [hl] at hd
      have hk3 : k ∈ (["nargs", "const", "kind", "choices", "metavar", "default", "required", "version", "help", "dest", "action"] : List Str) := hk2
      by_cases hkv : k = "version"
      · subst hkv
        have hd' : ov = some d := hd
        rw [hve.2 hnv] at hd'
        cases hd'
      · refine keys_w act hw k ?_
        simp only [List.mem_cons, List.not_mem_nil, or_false] at hk3 ⊢
        rcases hk3 with q | q | q | q | q | q | q | q | q | q | q
        · exact .inl q
        · exact .inr (.inl q)
        · exact .inr (.inr (.inl q))
        · exact .inr (.inr (.inr (.inl q)))
        · exact .inr (.inr (.inr (.inr (.inl q))))
        · exact .inr (.inr (.inr (.inr (.inr (.inl q)))))
        · exact .inr (.inr (.inr (.inr (.inr (.inr (.inl q))))))
        · exact absurd q hkv
        · exact .inr (.inr (.inr (.inr (.inr (.inr (.inr (.inl q)))))))
        · exact .inr (.inr (.inr (.inr (.inr (.inr (.inr (.inr (.inl q))))))))
        · exact .inr (.inr (.inr (.inr (.inr (.inr (.inr (.inr (.inr q))))))))
    · intro d hd
      rw [hl] at hd
      exact hrq' d hd
    · unfold gD
      rw [hl]
      exact hW.n1
    · intro q
      rw [hl] at q
      exact hW.co q
    · unfold gD
      rw [hl]
      exact hfm
    · unfold gD
      rw [hl]
      exact ki_l hW.km
    · unfold gD
      rw [hl]
      exact ch_l hW.hm
    · unfold gD
      rw [hl]
      exact de_l hde hll
    · unfold gD
      rw [hl]
      exact he_l hhe
    · intro p hp
      have hm := mk_mem hp
      generalize p.1 = k at hm
      generalize p.2 = d at hm
      simp only [List.mem_cons, List.not_mem_nil, or_false, Prod.mk.injEq] at hm
      rcases hm with ⟨_, q⟩ | ⟨_, q⟩ | ⟨_, q⟩ | ⟨_, q⟩ | ⟨_, q⟩ | ⟨_, q⟩ | ⟨_, q⟩ | ⟨_, q⟩ | ⟨_, q⟩ | ⟨_, q⟩ | ⟨_, q⟩
      · exact n1_ok hW.n1 hW.nm d q.symm
      · exact m1 d (hW.cm d q.symm)
      · exact m2 d (hW.km d q.symm)
      · exact m3 d (hW.hm d q.symm)
      · exact hfo d q.symm
      · exact okd_dM d (hde d q.symm).2
      · exact okr d q.symm
      · exact okv d q.symm
      · exact m8 d (hhe d q.symm)
      · exact m9 d (hds d q.symm).2
      · exact oka d q.symm
    · exact Nat.le_trans (mk_len _) (by show 11 ≤ 20; decide)
    · rw [hl]
      rfl
  · have hio' : io = true := by
      cases io with
      | true => rfl
      | false => exact absurd (hio rfl) hw
    have eL : ([("const", oc)] : OL) ++ rOL od orq ov oh ode oa = ([("const", oc), ("default", od), ("required", orq), ("version", ov), ("help", oh), ("dest", ode), ("action", oa)] : OL) := rfl
    rw [eL]
    have hl : ∀ k, lookD (mkD ([("const", oc), ("default", od), ("required", orq), ("version", ov), ("help", oh), ("dest", ode), ("action", oa)] : OL)) k = lkO ([("const", oc), ("default", od), ("required", orq), ("version", ov), ("help", oh), ("dest", ode), ("action", oa)] : OL) k := fun k => look_mk (by show (["const", "default", "required", "version", "help", "dest", "action"] : List Str).Nodup; decide +kernel)
    refine ⟨⟨?_, hact, hio, ?_, ?_, fun hv => ?_, fun z => absurd z hw, fun z => absurd z hw, .inl ?_, fun hll => ?_, ?_, ?_, ?_⟩, Nat.le_trans (mk_len _) (by show 7 ≤ 12; decide), ?_⟩
    · rw [hl]
      exact hac
    · intro k hk
      have hk2 : k ∈ (["const", "default", "required", "version", "help", "dest", "action"] : List Str) := mk_keys hk
      obtain ⟨d, hd⟩ := look_key hk
      rw [hl] at hd
      refine keys_o act hact hw k hk2 (fun q => ?_) (fun q => ?_) (fun q => ?_)
      · subst q
        exact (hoc d hd).1
      · subst q
        by_cases hv : act = "version"
        · exact hv
        · have hd' : ov = some d := hd
          rw [hve.2 hv] at hd'
          cases hd'
      · rcases q with rfl | rfl
        · exact (hde d hd).1
        · exact (hrq d hd).2.1
    · intro d hd
      rw [hl] at hd
      exact hrq' d hd
    · rw [hl]
      obtain ⟨d, hd, e⟩ := hve.1 hv
      simp only [vM, List.mem_cons, List.not_mem_nil, or_false] at hd
      show ∃ z, ov = some (.str z)
      rw [e]
      rcases hd with rfl | rfl | rfl <;> exact ⟨_, rfl⟩
    · unfold gD
      rw [hl]
      rfl
    · unfold gD
      rw [hl]
      exact de_l hde hll
    · unfold gD
      rw [hl]
      exact he_l hhe
    · intro p hp
      have hm := mk_mem hp
      generalize p.1 = k at hm
      generalize p.2 = d at hm
      simp only [List.mem_cons, List.not_mem_nil, or_false, Prod.mk.injEq] at hm
      rcases hm with ⟨_, q⟩ | ⟨_, q⟩ | ⟨_, q⟩ | ⟨_, q⟩ | ⟨_, q⟩ | ⟨_, q⟩ | ⟨_, q⟩
      · exact m4 d (hoc d q.symm).2
      · exact okd_dM d (hde d q.symm).2
      · exact okr d q.symm
      · exact okv d q.symm
      · exact m8 d (hhe d q.symm)
      · exact m9 d (hds d q.symm).2
      · exact oka d q.symm
    · exact Nat.le_trans (mk_len _) (by show 7 ≤ 20; decide)
    · rw [hl]
      rfl
/-- a positional told by its dest: the dest is put behind all -/
theorem ok_dest {act : Str} {ld : DD} {z : Str} (hz : PyData.strOk z = true) (h : OkO false act ld) (hl : ld.length ≤ 12) : OkO false act (putD ld "dest" (.str z)) := by
  have hw := h.ap rfl
  have e : ∀ k : Str, k ≠ "dest" → lookD (putD ld "dest" (.str z)) k = lookD ld k := fun k hk => by rw [look_put, if_neg hk]
  have g : ∀ k : Str, k ≠ "dest" → gD (putD ld "dest" (.str z)) k = gD ld k := fun k hk => by unfold gD; rw [e k hk]
  obtain ⟨nv, n1, n2, n3, n4, n5⟩ := h.na hw
  refine ⟨?_, h.am, h.ap, ?_, ?_, fun q => ?_, fun q => ⟨nv, n1, ?_, n3, ?_, ?_⟩, fun q => ?_, ?_, fun q => ?_, ?_, all_put h.sm (okd_s z hz), Nat.le_trans len_put (by omega)⟩
  · rw [e _ (by decide)]
    exact h.al
  · intro k hk
    rw [keys_put] at hk
    split at hk
    · exact h.ks k hk
    · rcases List.mem_append.mp hk with hk | hk
      · exact h.ks k hk
      · rw [List.mem_singleton.mp hk]
        exact keys_w act hw _ (by decide)
  · rw [e _ (by decide)]
    exact h.rq
  · rw [e _ (by decide)]
    exact h.ve q
  · rw [g _ (by decide)]
    exact n2
  · rw [e _ (by decide)]
    exact n4
  · rw [g _ (by decide)]
    exact n5
  · rw [g _ (by decide)]
    exact h.ki q
  · rw [g _ (by decide)]
    exact h.ch
  · rw [g _ (by decide)]
    exact h.de q
  · rw [g _ (by decide)]
    exact h.he
end K67

/-! d != {} -/
namespace XNeE
open PySem PySem.Spec PyProof.Rows L2
def rNeE : R2 := fun x y H Q => ∃ (a b : Addr) (ks : List (Key × V)), x = .ref a ∧ y = .ref b ∧ H a = some (.dK ks) ∧ H b = some (.dK []) ∧ Q (.bl (!ks.isEmpty)) H
section
variable {X : Cx}
theorem op_ne_empty (hu : X.A.units < cLine) : OpR X (compareOp .NotEq) rNeE := by
  intro pins s σ H x y v u Q I rx ry h
  obtain ⟨a, b, ks, rfl, rfl, ea, eb, q⟩ := h
  obtain rfl : v = Value.ref a := rx
  obtain rfl : u = Value.ref b := ry
  obtain ⟨_, ya, va, ra, da⟩ := (show ObjOk X.prog X.w H s.heap a (.dK ks) from I.hok a _ ea)
  obtain ⟨_, yb, vb, rb, db⟩ := (show ObjOk X.prog X.w H s.heap b (.dK []) from I.hok b _ eb)
  have hb : vb = [] := by cases rb; rfl
  subst hb
  cases ks with
  | nil =>
    have ha : va = [] := by cases ra; rfl
    subst ha
    exact PySem.W.keq_ne (knd := mixKind X.prog X.w) (r := true) ya yb da db hu (fun _ => .nil) (fin_bl I q rfl)
  | cons p ks =>
    cases ra with
    | cons h t => exact PySem.W.keq_ne (knd := mixKind X.prog X.w) (r := true) ya yb da db hu (fun z => by simp at z) (fin_bl I q (by simp))
end
end XNeE

namespace K67
open PySem L2 PyProof PyProof.Rows
/-! ### what is due is small -/
def okd2 (d : PyData) : Prop := PyData.depth d ≤ 2 ∧ small d = true
theorem depthAll_le {k : Nat} : ∀ {ds : List PyData}, (∀ d ∈ ds, PyData.depth d ≤ k) → PyData.depthAll ds ≤ k
  | [], _ => Nat.zero_le _
  | d :: ds, h => by
    show max (PyData.depth d) (PyData.depthAll ds) ≤ k
    exact Nat.max_le.mpr ⟨h d List.mem_cons_self, depthAll_le fun x hx => h x (List.mem_cons_of_mem _ hx)⟩
theorem smallAll_of : ∀ {ds : List PyData}, (∀ d ∈ ds, small d = true) → smallAll ds = true
  | [], _ => rfl
  | d :: ds, h => by
    show (small d && smallAll ds) = true
    rw [Bool.and_eq_true]
    exact ⟨h d List.mem_cons_self, smallAll_of fun x hx => h x (List.mem_cons_of_mem _ hx)⟩
theorem okd2_b (b : Bool) : okd2 (.bool b) := ⟨Nat.zero_le _, rfl⟩
theorem okd2_i (b : Int) : okd2 (.int b) := ⟨Nat.zero_le _, rfl⟩
theorem okd2_s (b : Str) : okd2 (.str b) := ⟨Nat.zero_le _, rfl⟩
theorem okd2_n : okd2 .none := ⟨Nat.zero_le _, rfl⟩
theorem okd2_strs {l : List Str} (h : l.length ≤ 1000) : okd2 (.tuple (l.map PyData.str)) := by
  constructor
  · show PyData.depthAll (l.map PyData.str) + 1 ≤ 2
    have : PyData.depthAll (l.map PyData.str) ≤ 0 := depthAll_le fun d hd => by
      obtain ⟨x, _, rfl⟩ := List.mem_map.mp hd
      exact Nat.le_refl _
    omega
  · show (decide ((l.map PyData.str).length ≤ 1000) && smallAll (l.map PyData.str)) = true
    rw [Bool.and_eq_true]
    refine ⟨decide_eq_true (by rw [List.length_map]; exact h), smallAll_of fun d hd => ?_⟩
    obtain ⟨x, _, rfl⟩ := List.mem_map.mp hd
    rfl
theorem OkO.g2 {io : Bool} {act : Str} {ld : DD} (h : OkO io act ld) (k : Str) : okd2 (gD ld k) := ⟨(h.get k).1, (h.get k).2.1⟩
theorem due_ok {pf : Str} {gs : List Str} {io : Bool} {act : Str} {ld : DD} (h : OkO io act ld) (g : Gv pf gs io) : PyData.depth (.list (dueL pf gs io act ld)) ≤ 3 ∧ small (.list (dueL pf gs io act ld)) = true := by
  have all : ∀ d ∈ dueL pf gs io act ld, okd2 d := by
    have a1 : okd2 (nnD act ld) := by
      unfold nnD
      split
      · exact h.g2 _
      · exact okd2_i _
    have a2 : okd2 (coD act ld) := by
      unfold coD
      split
      · exact okd2_b _
      · exact h.g2 _
    have a3 : okd2 (deD act ld) := by
      unfold deD
      cases e : lookD ld "default" with
      | some d =>
        have := h.sm _ (look_mem e)
        exact ⟨this.1, this.2.1⟩
      | none =>
        dsimp only
        split
        · exact okd2_s _
        · split
          · exact okd2_b _
          · exact okd2_n
    have a4 : okd2 (reD io act ld) := by
      unfold reD
      split
      · cases e : lookD ld "required" with
        | some d =>
          have := h.sm _ (look_mem e)
          exact ⟨this.1, this.2.1⟩
        | none => exact okd2_b _
      · exact okd2_b _
    have a5 : okd2 (heD act ld) := by
      unfold heD
      have := h.g2 "help"
      generalize gD ld "help" = d at this
      cases d with
      | none =>
        dsimp only
        split
        · exact okd2_s _
        · exact okd2_n
      | _ => exact this
    have a6 : okd2 (meD ld) := by
      unfold meD
      have := h.g2 "metavar"
      generalize gD ld "metavar" = d at this
      cases d with
      | list l => exact this
      | _ => exact this
    intro d hd
    unfold dueL at hd
    simp only [List.mem_cons, List.not_mem_nil, or_false] at hd
    rcases hd with rfl | rfl | rfl | rfl | rfl | rfl | rfl | rfl | rfl | rfl | rfl | rfl
    · exact okd2_strs (Nat.le_trans (flD_len g) (by decide))
    · exact okd2_s _
    · exact okd2_s _
    · exact a1
    · exact a2
    · exact a3
    · exact h.g2 _
    · exact h.g2 _
    · exact a4
    · exact a5
    · exact a6
    · exact h.g2 _
  refine ⟨?_, ?_⟩
  · show PyData.depthAll (dueL pf gs io act ld) + 1 ≤ 3
    have := depthAll_le (k := 2) fun d hd => (all d hd).1
    omega
  · show (decide ((dueL pf gs io act ld).length ≤ 1000) && smallAll (dueL pf gs io act ld)) = true
    rw [Bool.and_eq_true]
    exact ⟨decide_eq_true (by show 12 ≤ 1000; decide), smallAll_of fun d hd => (all d hd).2⟩
theorem sgs_ok : ∀ pf ∈ sgM, SgOk pf ∧ pf ≠ "" := by
  intro pf h
  simp only [sgM, List.mem_cons, List.not_mem_nil, or_false] at h
  rcases h with rfl | rfl | rfl | rfl <;> exact ⟨⟨by decide +kernel, by decide +kernel, by decide +kernel, by decide +kernel⟩, by decide⟩
/-! ### lists that are changed later -/
structure LoI (N : Hp) (vs : List V) (H10 H' : Hp) (i : Nat) : Prop where
  kp : ∀ b u, H10 b = some u → (¬ ∃ xs, V.ref b ∈ vs ∧ N b = some (.lst xs)) → H' b = some u
  ls : ∀ b xs, V.ref b ∈ vs → N b = some (.lst xs) → ∃ ys, H' b = some (.lst ys) ∧ ys.length ≤ 2000 + i
theorem LoI.step {N : Hp} {vs : List V} {H10 H' : Hp} {i : Nat} {b : Addr} {xs ys : List V} {y : V} (h : LoI N vs H10 H' i) (hm : V.ref b ∈ vs) (hb : N b = some (.lst xs)) (e : H' b = some (.lst ys)) (hl : ys.length ≤ 2000 + i) : LoI N vs H10 (upd H' b (.lst (ys ++ [y]))) (i + 1) := by
  refine ⟨fun c u hc nc => ?_, fun c zs hc hz => ?_⟩
  · have : c ≠ b := fun z => nc ⟨xs, by rw [z]; exact ⟨hm, hb⟩⟩
    rw [upd_ne this]
    exact h.kp c u hc nc
  · by_cases q : c = b
    · subst q
      exact ⟨_, upd_same, by rw [List.length_append]; show ys.length + 1 ≤ _; omega⟩
    · obtain ⟨ws, h1, h2⟩ := h.ls c zs hc hz
      exact ⟨ws, by rw [upd_ne q]; exact h1, by omega⟩
theorem LoI.up {N : Hp} {vs : List V} {H10 H' : Hp} {i : Nat} (h : LoI N vs H10 H' i) : LoI N vs H10 H' (i + 1) := ⟨h.kp, fun b xs h1 h2 => by
  obtain ⟨ys, a, c⟩ := h.ls b xs h1 h2
  exact ⟨ys, a, by omega⟩⟩
theorem held_vals {N : Hp} : ∀ {kvs : List (Key × V)} {ld : DD}, Held N kvs ld → ∀ v ∈ kvs.map (·.2), ∃ p ∈ ld, Dt N v p.2
  | _, _, .nil, v, h => nomatch h
  | _, _, @PySem.Paired.cons _ _ _ p q ps qs h t, v, hv => by
    rcases List.mem_cons.mp hv with rfl | hv
    · exact ⟨q, List.mem_cons_self, h.2⟩
    · obtain ⟨r, hr, d⟩ := held_vals t v hv
      exact ⟨r, List.mem_cons_of_mem _ hr, d⟩
theorem loI0 {N H10 : Hp} {vs : List V} (h : ∀ b xs, V.ref b ∈ vs → N b = some (.lst xs) → ∃ ys, H10 b = some (.lst ys) ∧ ys.length ≤ 2000) : LoI N vs H10 H10 0 := ⟨fun _ _ e _ => e, h⟩
theorem nd_ne {α : Type} {l : List α} (h : l.Nodup) {i j : Nat} {x y : α} (hi : l[i]? = some x) (hj : l[j]? = some y) (hij : i ≠ j) : x ≠ y := by
  rintro rfl
  obtain ⟨hi', ei⟩ := List.getElem?_eq_some_iff.mp hi
  obtain ⟨hj', ej⟩ := List.getElem?_eq_some_iff.mp hj
  exact hij ((List.getElem_inj h).mp (ei.trans ej.symm))
theorem deM_ok : ∀ d ∈ deM, ∃ z : Str, d = .str z ∧ z ≠ "" ∧ z.length ≤ 100 := by
  intro d h
  simp only [deM, List.mem_cons, List.not_mem_nil, or_false] at h
  rcases h with rfl | rfl | rfl | rfl
  · exact ⟨_, rfl, by decide, by decide⟩
  · exact ⟨_, rfl, by decide, by decide⟩
  · exact ⟨_, rfl, by decide, by decide⟩
  · exact ⟨_, rfl, by decide +kernel, by decide +kernel⟩
theorem dtAll_len {N : Hp} : ∀ {ds : List PyData} {xs : List V}, DtAll N xs ds → xs.length = ds.length
  | [], _, h => by
    cases h
    rfl
  | d :: ds, _, h => by
    cases h with
    | cons a b => rw [List.length_cons, List.length_cons, dtAll_len b]
theorem dt_lst {N : Hp} {b : Addr} {d : PyData} {xs : List V} (h : Dt N (.ref b) d) (hb : N b = some (.lst xs)) (hs : small d = true) : xs.length ≤ 1000 := by
  cases h with
  | lst h1 h2 =>
    rw [hb] at h1
    cases h1
    have hs' := hs
    simp only [small, Bool.and_eq_true] at hs'
    rw [dtAll_len h2]
    exact of_decide_eq_true hs'.1
  | tup h1 h2 =>
    rw [hb] at h1
    cases h1
/-- what was new since H -/
def Nwh (H H' : Hp) : Hp := fun b => if (H b).isSome then none else H' b
theorem nwh_sub {H H' : Hp} : Same (Nwh H H') H' := fun b o h => by
  unfold Nwh at h
  split at h
  · cases h
  · exact h
theorem nwh_at {H H' : Hp} {b : Addr} {o : HO} (h0 : H b = none) (h : H' b = some o) : Nwh H H' b = some o := by
  unfold Nwh
  rw [h0]
  exact h
theorem nwh_old {H H' : Hp} {b : Addr} {o : HO} (h : H b = some o) : Nwh H H' b = none := by
  unfold Nwh
  rw [h]
  rfl
theorem same_kp2 {M H H' : Hp} {st cl : Addr} (e : Same M H) (n1 : M st = none) (n2 : M cl = none) (k : Kp2 st cl H H') : Same M H' := fun b o h => k _ _ (e _ _ h) (ne_of_none h n1) (ne_of_none h n2)
theorem same_kp3 {M H H' : Hp} {st cl o : Addr} (e : Same M H) (n1 : M st = none) (n2 : M cl = none) (n3 : M o = none) (k : Kp3 st cl o H H') : Same M H' := fun b u h => k _ _ (e _ _ h) (ne_of_none h n1) (ne_of_none h n2) (ne_of_none h n3)
end K67

namespace K67
open PySem L2 PyProof PyProof.Rows
/-! ### the law: one turn -/
def forBody (s : Stmt) : List Stmt := match s with
  | .For _ _ b _ _ => b
  | _ => []
def at_ (ss : List Stmt) (i : Nat) : Stmt := ss.getD i (.Pass ⟨0, 0, 0, 0⟩)
abbrev bLaw : List Stmt := defBody sLaw
abbrev bTurn : List Stmt := forBody (at_ bLaw 1)
abbrev nLaw : List Str := ["_law_script", "_law_stream", "_law_turn", "_law_signs", "_law_parser", "_law_flags", "_law_is_option", "_law_action", "_law_options", "_law_due_here", "_law_handed", "_law_argument", "_law_value"]
theorem scLaw : FnScope nLaw ["_law_script"] (defScope sLaw) := ⟨rfl, rfl, rfl, by decide +kernel, rfl, by decide +kernel, by decide +kernel⟩
/-- the functions that the law calls -/
structure Fns (P : Program) (w : World) (K : PySem.W.Frag) (mg : Str → Option Value) (base : Heap) (CP CS CA aP aL : Addr) : Prop where
  T : TxtB mg
  St : ∃ f fd, At P w K mg base "_law_start" 1 ["_law_script"] (spStart K) f fd
  Dr : ∃ f fd, At P w K mg base "_law_draw" 1 ["_law_stream", "_law_many"] spDraw f fd
  Pk : ∃ f fd, At P w K mg base "_law_pick" 2 ["_law_stream", "_law_some"] spPick f fd
  mP : mg "Parser" = some (.ref CP)
  cP : ClsN K CP parF
  Mp : ∃ fP fdP, Mk K CP fP ∧ FnOk P w K mg base CX0 5 fP fdP pParI (spParI CP CS aP aL) ∧ ∃ g gV, KBn K fdP pParI 2 ["prefix_chars", "add_help"] g gV ∧ ∀ x p v1 v2, gV [x, p] [v1, v2] = [x, p, .non, .non, .non, .ref aP, .ref aL, .int 78, v1, .str "", .non, .non, .str "error", v2, .bl true, .bl true]
  Rf : ∃ f fd, At P w K mg base "_law_right_flags" 3 ["_law_stream", "_law_signs"] spRFl f fd
  Sm : ∃ f fd, At P w K mg base "_law_some_action" 3 ["_law_stream", "_law_is_option"] spSomeA f fd
  Ro : ∃ f fd, At P w K mg base "_law_right_options" 4 ["_law_stream", "_law_action", "_law_is_option"] spROp f fd
  Du : ∃ f fd, At P w K mg base "_law_due" 2 ["_law_flags", "_law_options", "_law_signs", "_law_is_option"] spDue f fd
  Co : ∃ f fd, At P w K mg base "_law_copied" 5 ["_law_value"] (spCop 4) f fd
  Ad : ∃ f fd, FnOk P w K mg base CX0 9 f fd ["self", "flags", "options"] (spAdd CP CS CA) ∧ Meth K CP "add_argument" f ∧ Binds K fd ["self", "flags", "options"] []
  Td : ∃ f fd, At P w K mg base "_law_told" 1 ["_law_argument"] (spTold CA) f fd
  Sa : ∃ f fd, At P w K mg base "_law_same" 5 ["_law_found", "_law_due_here"] (spSame 4) f fd
section
variable {P : Program} {w : World} {K : PySem.W.Frag} {mg : Str → Option Value} {base : Heap}
abbrev X0 (P : Program) (w : World) (K : PySem.W.Frag) (mg : Str → Option Value) (base : Heap) (f : Addr) (cdv : Value) (A0 : Around) (outer : List Env) (s : Shared) (H : Hp) (E : XK) : Cx := (cxOf CX0 P w K mg base nLaw "law" (defScope sLaw) f cdv A0 outer s H E).nox
theorem turn_walk {f CP CS CA aP aL : Addr} (Z : Fns P w K mg base CP CS CA aP aL) {cdv : Value} {A0 : Around} {outer : List Env} {s : Shared} {H0 : Hp} {E : XK} (hr : Room 9 (A0.deeper (PyProof.Rows.envOfC "law" (defScope sLaw) s.heap.objs.size f cdv))) :
    ∃ t : TS, PSs (X0 P w K mg base f cdv A0 outer s H0 E) bTurn t ∧ ∀ (D : Ends) (H : Hp) (sc r2 r3 r4 r5 r6 r7 r8 r9 r10 r11 r12 : Option V) (st cl : Addr) (n : Nat), Strm H st cl n → n ≤ 50000 →
      (∀ (r3 r4 r5 r6 r7 r8 r9 r10 r11 r12 : Option V) (H' : Hp) (n' : Nat), Strm H' st cl n' → n' ≤ n + 200 → D.nx [sc, some (.ref st), r2, r3, r4, r5, r6, r7, r8, r9, r10, r11, r12] H') →
      t D [sc, some (.ref st), r2, r3, r4, r5, r6, r7, r8, r9, r10, r11, r12] H := by
  obtain ⟨_, _, Dr⟩ := Z.Dr
  obtain ⟨_, _, Pk⟩ := Z.Pk
  obtain ⟨_, _, Mp, Gp, g, gV, kb, hg⟩ := Z.Mp
  obtain ⟨_, _, Rf⟩ := Z.Rf
  obtain ⟨_, _, Sm⟩ := Z.Sm
  obtain ⟨_, _, Ro⟩ := Z.Ro
  obtain ⟨_, _, Du⟩ := Z.Du
  obtain ⟨_, _, Co⟩ := Z.Co
  obtain ⟨_, _, Ga, Ma, Ba⟩ := Z.Ad
  obtain ⟨_, _, Td⟩ := Z.Td
  obtain ⟨_, _, Sa⟩ := Z.Sa
  have T := Z.T
  have cP := Z.cP
  have hu1 := hu_of hr
  have hu0 : (A0.deeper (PyProof.Rows.envOfC "law" (defScope sLaw) s.heap.objs.size f cdv)).units < cLine := Nat.lt_of_le_of_lt (Nat.le_add_right _ 1) hu1
  have r1 := hr.mono (show 1 ≤ 9 by decide)
  have r2 := hr.mono (show 2 ≤ 9 by decide)
  have r3 := hr.mono (show 3 ≤ 9 by decide)
  have r4 := hr.mono (show 4 ≤ 9 by decide)
  have r5 := hr.mono (show 5 ≤ 9 by decide)
  have r6 := hr.mono (show 6 ≤ 9 by decide)
  refine ⟨_, pss_mid (ps_set (i := 3) scLaw.nd rfl (Or.inl rfl) (pe_call Pk.ok r2 rfl Pk.m Pk.k Pk.b .nil pass0 (pa_cons (pv 1) (pa_cons (pe_lst (pa_cons pe_str (pa_cons pe_str (pa_cons pe_str (pa_cons pe_str pa_nil))))) pa_nil))))
    (pss_mid (ps_set (i := 4) scLaw.nd rfl (Or.inl rfl) (pe_makeK Mp Gp r6 rfl Z.mP kb pass0 (pa_cons pe_str pa_nil) (pk_cons (pv 3) (pk_cons pe_bl pk_nil))))
    (pss_mid (ps_asg (pe_call Rf.ok r3 rfl Rf.m Rf.k Rf.b .nil pass0 (pa_cons (pv 1) (pa_cons (pv 3) pa_nil))) (pg_tup rfl (pgs_cons (pg_name (i := 5) scLaw.nd rfl (Or.inl rfl)) (pgs_cons (pg_name (i := 6) scLaw.nd rfl (Or.inl rfl)) pgs_nil))))
    (pss_mid (ps_if (PW.pt (pw_and (pt_val (pv 6)) (pw_and1 (pt_cmpR op_eq (pe_call Dr.ok r1 rfl Dr.m Dr.k Dr.b .nil pass0 (pa_cons (pv 1) (pa_cons pe_int pa_nil))) pe_int (nomark _))))) (pss_one (ps_set (i := 5) scLaw.nd rfl (Or.inl rfl) (pe_op op_cat (pv 5) (pe_slice sl_list (pv 5) po_none (po_some pe_int))))) pss_nil)
    (pss_mid (ps_set (i := 7) scLaw.nd rfl (Or.inl rfl) (pe_call Sm.ok r3 rfl Sm.m Sm.k Sm.b .nil pass0 (pa_cons (pv 1) (pa_cons (pv 6) pa_nil))))
    (pss_mid (ps_set (i := 8) scLaw.nd rfl (Or.inl rfl) (pe_call Ro.ok r4 rfl Ro.m Ro.k Ro.b .nil pass0 (pa_cons (pv 1) (pa_cons (pv 7) (pa_cons (pv 6) pa_nil)))))
    (pss_mid (ps_if (PW.pt (pw_and (pt_not (pt_val (pv 6))) (pw_and1 (pt_cmpR op_eq (pe_call Dr.ok r1 rfl Dr.m Dr.k Dr.b .nil pass0 (pa_cons (pv 1) (pa_cons pe_int pa_nil))) pe_int (nomark _))))) (pss_one (ps_asg (pe_tup (pa_cons (pe_lst pa_nil) (pa_cons (pe_ix ix_list (pv 5) pe_int (fun _ _ => rfl)) pa_nil))) (pg_tup rfl (pgs_cons (pg_name (i := 5) scLaw.nd rfl (Or.inl rfl)) (pgs_cons (pg_sub (pv 8) pe_str (set_dict hu1)) pgs_nil))))) pss_nil)
    (pss_mid (ps_set (i := 9) scLaw.nd rfl (Or.inl rfl) (pe_call Co.ok r5 rfl Co.m Co.k Co.b .nil pass0 (pa_cons (pe_call Du.ok r2 rfl Du.m Du.k Du.b .nil pass0 (pa_cons (pv 5) (pa_cons (pv 8) (pa_cons (pv 3) (pa_cons (pv 6) pa_nil))))) pa_nil)))
    (pss_mid (ps_set (i := 10) scLaw.nd rfl (Or.inl rfl) (pe_ix ix_list (pe_lst (pa_cons (pe_callTy call_list_of (by rfl) T.list (by decide +kernel) (pa_cons (pv 5) pa_nil)) (pa_cons (pe_callTy call_tuple_of (by rfl) T.tuple (by decide +kernel) (pa_cons (pv 5) pa_nil)) pa_nil))) (pe_call Dr.ok r1 rfl Dr.m Dr.k Dr.b .nil pass0 (pa_cons (pv 1) (pa_cons pe_int pa_nil))) (fun _ _ => rfl)))
    (pss_mid (ps_set (i := 11) scLaw.nd rfl (Or.inl rfl) (pe_meth (pv 4) cP.cl Ma Ga hr Ba .nil pass0 (pa_cons (pv 10) (pa_cons (pe_ifExp (PW.pt (pw_or (pt_cmpR (XNeE.op_ne_empty hu0) (pv 8) pe_dnewK (nomark _)) (pw_or1 (pt_cmpR op_eq (pe_call Dr.ok r1 rfl Dr.m Dr.k Dr.b .nil pass0 (pa_cons (pv 1) (pa_cons pe_int pa_nil))) pe_int (nomark _))))) (pv 8) pe_non) pa_nil))))
    (pss_mid (ps_for PassesOwn.never rfl (pi_list (XListV.pe_listVals rfl (pv 8) rfl T.list (by decide +kernel))) (pg_name (i := 12) scLaw.nd rfl (Or.inl rfl)) (pss_one (ps_if (pt_val (pe_callB call_isi (by rfl) T.isinstance (by decide +kernel) (pa_cons (pv 12) (pa_cons (pe_bltn (v := .ty "list") (by rfl) T.list (by decide +kernel) rfl) pa_nil)))) (pss_one (ps_expr (pe_bm PySem.F.plainAttrs_list PySem.F.slot_list_append PySem.F.type_list_append mt_append (pv 12) (pa_cons pe_str pa_nil)))) pss_nil)))
    (pss_one (ps_if (pt_not (pt_val (pe_call Sa.ok r5 rfl Sa.m Sa.k Sa.b .nil pass0 (pa_cons (pe_call Td.ok r1 rfl Td.m Td.k Td.b .nil pass0 (pa_cons (pv 11) pa_nil)) (pa_cons (pv 9) pa_nil))))) (pss_one (ps_ret pe_bl)) pss_nil)))))))))))), ?_⟩
  intro D H sc q2 q3 q4 q5 q6 q7 q8 q9 q10 q11 q12 st cl n S hn k
  -- signs
  refine ⟨fun σ' H' => ∃ pf ∈ sgM, σ' = [sc, some (.ref st), q2, some (.str pf), q4, q5, q6, q7, q8, q9, q10, q11, q12] ∧ Strm H' st cl (n + 1), ?_, ?_⟩
  · refine ⟨_, rfl, (by show 4 ≤ sizeLine; decide), fun a ha => ?_⟩
    have e1 := same_upd (o := .lst (sgM.map V.str)) ha
    have na := S.fr ha
    refine ⟨st, cl, n, a, sgM.map V.str, rfl, S.keep e1, upd_same, na.1, na.2, (fun z => nomatch z), (by decide), (by omega), fun x H2 hx S2 k2 => ?_⟩
    obtain ⟨pf, hpf, rfl⟩ := List.mem_map.mp hx
    exact ⟨pf, hpf, rfl, S2⟩
  rintro _ H1 ⟨pf, hpf, rfl, S1⟩
  have hsg := sgs_ok pf hpf
  -- the parser
  refine ⟨fun σ' H' => ∃ (a : PAd) (M : Hp), σ' = [sc, some (.ref st), q2, some (.str pf), some (.ref a.p), q5, q6, q7, q8, q9, q10, q11, q12] ∧ Strm H' st cl (n + 1) ∧ ParAt CP CS a M [] [] [] [] ∧ a.pf = pf ∧ Same M H' ∧ M st = none ∧ M cl = none, ?_, ?_⟩
  · refine ⟨_, rfl, rfl, rfl, fun x dx hx hdx ne => ?_⟩
    rw [hg]
    refine ⟨x, dx, "p", pf, "error", true, true, hsg.1, hsg.2, rfl, upd_same, .inl rfl, fun la lf le dd ls s0 s1 m0 m1 H' N => ⟨rfl, ?_⟩⟩
    have e1 : Same H1 (upd (upd H1 dx (.own x)) x (.ins CP dx [])) := same_upd2 (same_upd hdx) (by rw [upd_ne ne.symm]; exact hx)
    have e2 : Same H1 H' := fun b o e => N.kp b o (e1 _ _ e) (ne_of_none e hx)
    obtain ⟨fi', px⟩ := N.px
    have nd := N.nw.nd
    have q : ∀ y, y ∈ [ls, m1, s1, m0, s0, dd, le, lf, la] → H1 y = none := fun y hy => none_of e1 (N.nw.new y hy).1
    obtain ⟨d0, v0, hs0⟩ := N.h_s0
    obtain ⟨d1, v1, hs1⟩ := N.h_s1
    have S1' := S1.keep e2
    obtain ⟨o1, hst⟩ := S1.st
    obtain ⟨o2, hcl⟩ := S1.cl
    refine ⟨⟨x, dx, la, lf, le, dd, ls, s0, s1, m0, m1, aL, fi', true, pf, true⟩, Nwh H1 H', rfl, S1', ⟨nwh_at hx px, nwh_at (q la (by simp)) N.h_la, nwh_at (q lf (by simp)) N.h_lf, nwh_at (q dd (by simp)) N.h_dd, nwh_at (q ls (by simp)) N.h_ls, ⟨d0, v0, nwh_at (q s0 (by simp)) hs0⟩, ⟨d1, v1, nwh_at (q s1 (by simp)) hs1⟩, nwh_at (q m0 (by simp)) N.h_m0, nwh_at (q m1 (by simp)) N.h_m1, nwh_at (q le (by simp)) N.h_le, ⟨nd_ne nd (i := 8) (j := 1) rfl rfl (by decide), nd_ne nd (i := 8) (j := 3) rfl rfl (by decide), nd_ne nd (i := 3) (j := 1) rfl rfl (by decide)⟩, ⟨nd_ne nd (i := 0) (j := 8) rfl rfl (by decide), nd_ne nd (i := 0) (j := 3) rfl rfl (by decide), nd_ne nd (i := 0) (j := 1) rfl rfl (by decide)⟩, nd_ne nd (i := 7) (j := 5) rfl rfl (by decide), ⟨nd_ne nd (i := 6) (j := 8) rfl rfl (by decide), nd_ne nd (i := 6) (j := 3) rfl rfl (by decide), nd_ne nd (i := 6) (j := 1) rfl rfl (by decide)⟩⟩, rfl, nwh_sub, nwh_old hst, nwh_old hcl⟩
  rintro _ H2 ⟨a, M, rfl, S2, Pa, epf, eM, Mst, Mcl⟩
  -- flags
  refine ⟨fun σ' H' => ∃ (fa : Addr) (gs : List Str) (io : Bool) (n3 : Nat), σ' = [sc, some (.ref st), q2, some (.str pf), some (.ref a.p), some (.ref fa), some (.bl io), q7, q8, q9, q10, q11, q12] ∧ Strm H' st cl n3 ∧ n3 ≤ n + 21 ∧ Same M H' ∧ fa ≠ st ∧ fa ≠ cl ∧ H' fa = some (.lst (gs.map V.str)) ∧ RFl pf gs io, ?_, ?_⟩
  · refine ⟨_, rfl, _, rfl, st, cl, n + 1, pf, rfl, S2, hpf, (by omega), fun t fa gs io n' H' hfa ht hf hR hn' S' k' => ?_⟩
    have nf := S2.fr hfa
    exact ⟨t, _, rfl, SqT.of ht, rfl, _, _, rfl, _, _, rfl, rfl, fa, gs, io, n', rfl, S', (by omega), same_kp2 eM Mst Mcl k', nf.1, nf.2, hf, hR⟩
  rintro _ H3 ⟨fa0, gs0, io, n3, rfl, S3, hn3, eM3, nf1, nf2, hf3, hR⟩
  have hG0 := hR.gv hpf
  -- a flag twice
  refine ⟨fun σ' H' => ∃ (fa : Addr) (gs : List Str) (n4 : Nat), σ' = [sc, some (.ref st), q2, some (.str pf), some (.ref a.p), some (.ref fa), some (.bl io), q7, q8, q9, q10, q11, q12] ∧ Strm H' st cl n4 ∧ n4 ≤ n + 22 ∧ Same M H' ∧ fa ≠ st ∧ fa ≠ cl ∧ H' fa = some (.lst (gs.map V.str)) ∧ Gv pf gs io ∧ (io = false → ∃ g ∈ posM, gs = [g]), ?_, ?_⟩
  · have hpos : io = false → ∃ g ∈ posM, gs0 = [g] := fun z => by
      rcases hR with ⟨_, h⟩ | ⟨h, _⟩
      · exact h
      · rw [z] at h
        cases h
    refine ⟨_, rfl, io, rfl, ?_⟩
    refine ite2 (fun hio => ?_) (fun hio => iteF ⟨fa0, gs0, n3, rfl, S3, by omega, eM3, nf1, nf2, hf3, hG0, hpos⟩)
    refine ⟨_, rfl, st, cl, n3, 4, rfl, S3, by decide, by decide, by omega, fun j H4 j0 j1 S4 k4 => ⟨rfl, _, rfl, ?_⟩⟩
    have hf4 := k4 _ _ hf3 nf1 nf2
    have eM4 := same_kp2 eM3 Mst Mcl k4
    refine ite2 (fun hj => ?_) (fun hj => ⟨fa0, gs0, n3 + 1, rfl, S4, by omega, eM4, nf1, nf2, hf4, hG0, hpos⟩)
    have hl : gs0.length ≤ 3 := by
      rcases hR with ⟨h, _⟩ | ⟨_, _, h, _⟩
      · rw [hio] at h
        cases h
      · exact h
    refine ⟨_, rfl, _, rfl, _, rfl, fa0, _, rfl, SqL.of hf4, fun p hp => ?_⟩
    have e5 := same_upd (o := .lst (cutV (gs0.map V.str) none (some 1))) hp
    have ecut : cutV (gs0.map V.str) none (some 1) = (gs0.take 1).map V.str := by
      have h1 : 1 ≤ (gs0.map V.str).length := by
        have := (hG0.op hio).1
        rw [List.length_map]
        cases gs0 with
        | nil => exact absurd rfl this
        | cons x xs => simp
      have := cut_take (xs := gs0.map V.str) (i := 1) h1
      rw [List.map_take]
      exact this
    refine ⟨fa0, p, _, _, rfl, rfl, e5 _ _ hf4, upd_same, ?_, fun q hq => ?_⟩
    · rw [ecut, ← List.length_append, ← List.map_append, List.length_map, List.length_append, List.length_take, PySem.sizeLine_eq]
      omega
    have e6 := same_upd (o := .lst (gs0.map V.str ++ cutV (gs0.map V.str) none (some 1))) hq
    have ee := e5.trans e6
    have nq := (S4.keep e5).fr hq
    refine ⟨q, gs0 ++ gs0.take 1, n3 + 1, rfl, S4.keep ee, by omega, eM4.trans ee, nq.1, nq.2, ?_, ⟨fun z => ⟨?_, fun x hx => ?_⟩, fun z => ?_, ?_, hG0.pl⟩, fun z => ?_⟩
    · rw [upd_same, ecut, ← List.map_append]
    · intro y
      exact (hG0.op hio).1 (List.append_eq_nil_iff.mp y).1
    · rcases List.mem_append.mp hx with h | h
      · exact (hG0.op hio).2 x h
      · exact (hG0.op hio).2 x (List.mem_of_mem_take h)
    · rw [hio] at z
      cases z
    · rw [List.length_append, List.length_take]
      omega
    · rw [hio] at z
      cases z
  rintro _ H4 ⟨fa, gs, n4, rfl, S4, hn4, eM4, nf1, nf2, hf4, hG, hpos⟩
  -- the action
  refine ⟨fun σ' H' => ∃ (act : Str), σ' = [sc, some (.ref st), q2, some (.str pf), some (.ref a.p), some (.ref fa), some (.bl io), some (.str act), q8, q9, q10, q11, q12] ∧ Strm H' st cl (n4 + 1) ∧ Same M H' ∧ H' fa = some (.lst (gs.map V.str)) ∧ act ∈ acts12 ∧ (io = false → act ∈ WWs), ?_, ?_⟩
  · exact ⟨_, rfl, _, rfl, st, cl, n4, io, rfl, S4, by omega, fun act H' h1 h2 S' k' => ⟨act, rfl, S', same_kp2 eM4 Mst Mcl k', k' _ _ hf4 nf1 nf2, h1, h2⟩⟩
  rintro _ H5 ⟨act, rfl, S5, eM5, hf5, hact, hwo⟩
  -- the options
  refine ⟨fun σ' H' => ∃ (o : Addr) (kvs : List (Key × V)) (ld : DD) (n6 : Nat), σ' = [sc, some (.ref st), q2, some (.str pf), some (.ref a.p), some (.ref fa), some (.bl io), some (.str act), some (.ref o), q9, q10, q11, q12] ∧ Strm H' st cl n6 ∧ n6 ≤ n + 90 ∧ Same M H' ∧ H' fa = some (.lst (gs.map V.str)) ∧ M o = none ∧ H' o = some (.dK kvs) ∧ Held (Cd st cl H') kvs ld ∧ OkO io act ld ∧ ld.length ≤ 12 ∧ (∀ d, lookD ld "dest" = some d → io = true ∧ d ∈ deM), ?_, ?_⟩
  · refine ⟨_, rfl, _, rfl, _, rfl, st, cl, n4 + 1, act, io, rfl, S5, hact, hwo, by omega, fun o n' L0 od orq ov oh ode oa H' ho hO hn' W' k' => ?_⟩
    obtain ⟨kvs, hkv, hH⟩ := W'.ox
    obtain ⟨g1, g2, g3⟩ := ro_ok hO hact hwo
    refine ⟨o, kvs, _, n', rfl, W'.S, by omega, same_kp2 eM5 Mst Mcl k', k' _ _ hf5 nf1 nf2, none_of eM5 ho, hkv, hH, g1, g2, fun d hd => ?_⟩
    rw [g3] at hd
    exact hO.ds d hd
  rintro _ H6 ⟨o, kvs0, ld0, n6, rfl, S6, hn6, eM6, hf6, Mo, ho6, hH6, hO6, hl6, hd6⟩
  -- a positional told by its dest
  refine ⟨fun σ' H' => ∃ (fa : Addr) (gs : List Str) (kvs : List (Key × V)) (ld : DD) (n7 : Nat), σ' = [sc, some (.ref st), q2, some (.str pf), some (.ref a.p), some (.ref fa), some (.bl io), some (.str act), some (.ref o), q9, q10, q11, q12] ∧ Strm H' st cl n7 ∧ n7 ≤ n + 91 ∧ Same M H' ∧ H' fa = some (.lst (gs.map V.str)) ∧ H' o = some (.dK kvs) ∧ Held (Cd st cl H') kvs ld ∧ OkO io act ld ∧ Nmd gs io ld ∧ Gv pf gs io, ?_, ?_⟩
  · have hno : Nmd gs io ld0 := by
      refine ⟨fun d hd => ?_, fun z => .inl ⟨?_, ?_⟩⟩
      · exact deM_ok d (hd6 d hd).2
      · cases q : lookD ld0 "dest" with
        | none => rfl
        | some d =>
          have := (hd6 d q).1
          rw [z] at this
          cases this
      · obtain ⟨g, _, rfl⟩ := hpos z
        rfl
    refine ⟨_, rfl, io, rfl, ?_⟩
    cases io with
    | true => exact iteF (iteF ⟨fa, gs, kvs0, ld0, n6, rfl, S6, by omega, eM6, hf6, ho6, hH6, hO6, hno, hG⟩)
    | false =>
      refine iteT ?_
      refine ⟨_, rfl, st, cl, n6, 4, rfl, S6, by decide, by decide, by omega, fun j HJ j0 j1 SJ kJ => ⟨rfl, _, rfl, ?_⟩⟩
      have hfJ := kJ _ _ hf6 nf1 nf2
      have eMJ := same_kp2 eM6 Mst Mcl kJ
      have no : o ≠ st ∧ o ≠ cl := by
        obtain ⟨c, b, ns, h1, h2, _⟩ := S6.ex
        exact ⟨ne_of ho6 h1 (fun z => by cases z), ne_of ho6 h2 (fun z => by cases z)⟩
      have hoJ := kJ _ _ ho6 no.1 no.2
      have hHJ := held_mono (cd_kp kJ) hH6
      refine ite2 (fun hj => ?_) (fun hj => ⟨fa, gs, kvs0, ld0, n6 + 1, rfl, SJ, by omega, eMJ, hfJ, hoJ, hHJ, hO6, hno, hG⟩)
      obtain ⟨g, hg1, rfl⟩ := hpos rfl
      obtain ⟨pg1, pg2, pg3, pg4⟩ := pos_ok pf hpf g hg1
      refine ⟨(by show 0 ≤ sizeLine; decide), fun L hL => ⟨_, rfl, fa, _, 0, .str g, rfl, rfl, SqL.of (same_upd hL _ _ hfJ), rfl, (by show 2 ≤ sizeLine; decide), fun t ht => ?_⟩⟩
      have e1 := same_upd (o := .lst []) hL
      have e2 := same_upd (o := .tup [.ref L, .str g]) ht
      have eT := e1.trans e2
      have hLT : (upd (upd HJ L (.lst [])) t (.tup [.ref L, .str g])) L = some (.lst (([] : List Str).map V.str)) := e2 _ _ upd_same
      have htT : (upd (upd HJ L (.lst [])) t (.tup [.ref L, .str g])) t = some (.tup [.ref L, .str g]) := upd_same
      generalize upd (upd HJ L (.lst [])) t (.tup [.ref L, .str g]) = HT at eT hLT htT
      have hoT := eT _ _ hoJ
      have hlen := held_len hHJ
      have noL : L ≠ o := fun z => by
        rw [z, hoT] at hLT
        cases hLT
      have S7 : Strm (upd HT o (.dK (putK kvs0 (Sum.inr ("dest" : Str) : Key) (.str g)))) st cl (n6 + 1) := by
        obtain ⟨c, b, ns, h1, h2, h3⟩ := (SJ.keep eT).ex
        exact ⟨c, b, ns, by rw [upd_ne no.1.symm]; exact h1, by rw [upd_ne no.2.symm]; exact h2, h3⟩
      refine ⟨t, _, rfl, SqT.of htT, rfl, _, _, rfl, _, _, rfl, _, rfl, o, _, rfl, DPut.k (k := (Sum.inr ("dest" : Str) : Key)) hoT (by rw [PySem.sizeLine_eq]; omega), rfl, L, [], _, _, n6 + 1, rfl, S7, by omega, ?_, by rw [upd_ne noL]; exact hLT, upd_same, held_mono (cd_dk hoT) (held_put (held_mono (cd_kp (Kp2.of_same eT)) hHJ) (.str g)), ok_dest pg4 hO6 hl6, ⟨fun d hd => ?_, fun _ => .inr ⟨?_, rfl⟩⟩, ⟨(fun z => nomatch z), fun _ => .inl rfl, (by show 0 ≤ 20; decide), hG.pl⟩⟩
      · exact fun b u h => by
          rw [upd_ne (ne_of_none h Mo)]
          exact eT _ _ (eMJ _ _ h)
      · rw [look_put, if_pos rfl] at hd
        cases hd
        exact ⟨g, rfl, pg1, by omega⟩
      · rw [look_put, if_pos rfl]
        rfl
  rintro _ H7 ⟨fa, gs, kvs, ld, n7, rfl, S7, hn7, eM7, hf7, ho7, hH7, hO7, hN7, hG7⟩
  have no : o ≠ st ∧ o ≠ cl := by
    obtain ⟨c, b, ns, h1, h2, _⟩ := S7.ex
    exact ⟨ne_of ho7 h1 (fun z => by cases z), ne_of ho7 h2 (fun z => by cases z)⟩
  -- what is due
  refine ⟨fun σ' H' => ∃ (dv : V) (N : Hp), σ' = [sc, some (.ref st), q2, some (.str pf), some (.ref a.p), some (.ref fa), some (.bl io), some (.str act), some (.ref o), some dv, q10, q11, q12] ∧ Same H7 H' ∧ Same N H' ∧ (∀ b u, N b = some u → H7 b = none) ∧ Dt N dv (.list (dueL pf gs io act ld)), ?_, ?_⟩
  · refine ⟨_, rfl, _, rfl, _, rfl, _, rfl, fa, o, pf, gs, io, act, kvs, ld, rfl, hf7, hG7, ⟨ho7, held_mono cd_sub hH7⟩, hN7, hO7, fun D2 H' e hD => ?_⟩
    have hdk := due_ok hO7 hG7
    exact ⟨.ref D2, _, rfl, hD, hdk.1, hdk.2, fun v' N H'' e' F dN => ⟨v', N, rfl, e.trans e', F.sub, fun b u h => none_of e (F.new b u h), dN⟩⟩
  rintro _ H8 ⟨dv, N, rfl, e8, eN8, nN, hdv⟩
  have S8 := S7.keep e8
  have hf8 := e8 _ _ hf7
  -- what is handed
  refine ⟨fun σ' H' => ∃ (ha : Addr), σ' = [sc, some (.ref st), q2, some (.str pf), some (.ref a.p), some (.ref fa), some (.bl io), some (.str act), some (.ref o), some dv, some (.ref ha), q11, q12] ∧ Strm H' st cl (n7 + 1) ∧ Kp2 st cl H8 H' ∧ SeqF H' ha (gs.map V.str) ∧ ha ≠ st ∧ ha ≠ cl, ?_, ?_⟩
  · refine ⟨_, rfl, fa, _, rfl, .inl (SqL.of hf8), fun L1 h1 => ?_⟩
    have e1 := same_upd (o := .lst (gs.map V.str)) h1
    refine ⟨_, rfl, fa, _, rfl, .inl ⟨SqL.of (e1 _ _ hf8), fun T1 h2 => ?_⟩⟩
    have e2 := same_upd (o := .tup (gs.map V.str)) h2
    refine ⟨(by show 2 ≤ sizeLine; decide), fun LL h3 => ?_⟩
    have e3 := same_upd (o := .lst [.ref L1, .ref T1]) h3
    have ee := (e1.trans e2).trans e3
    have g1 := e3 _ _ (e2 _ _ (upd_same : (upd H8 L1 (.lst (gs.map V.str))) L1 = _))
    have g2 := e3 _ _ (upd_same : (upd (upd H8 L1 (.lst (gs.map V.str))) T1 (.tup (gs.map V.str))) T1 = _)
    have g3 : (upd (upd (upd H8 L1 (.lst (gs.map V.str))) T1 (.tup (gs.map V.str))) LL (.lst [.ref L1, .ref T1])) LL = _ := upd_same
    have n1 := S8.fr h1
    have n2 := (S8.keep e1).fr h2
    have n3 := ((S8.keep e1).keep e2).fr h3
    generalize upd (upd (upd H8 L1 (.lst (gs.map V.str))) T1 (.tup (gs.map V.str))) LL (.lst [.ref L1, .ref T1]) = GL at ee g1 g2 g3
    refine ⟨_, rfl, st, cl, n7, 2, rfl, S8.keep ee, by decide, by decide, by omega, fun j HJ j0 j1 SJ kJ => ?_⟩
    have kk := (Kp2.of_same ee).trans kJ
    have hj : j = 0 ∨ j = 1 := by omega
    rcases hj with rfl | rfl
    · exact ⟨LL, _, 0, .ref L1, rfl, rfl, SqL.of (kJ _ _ g3 n3.1 n3.2), rfl, L1, rfl, SJ, kk, .inl (kJ _ _ g1 n1.1 n1.2), n1⟩
    · exact ⟨LL, _, 1, .ref T1, rfl, rfl, SqL.of (kJ _ _ g3 n3.1 n3.2), rfl, T1, rfl, SJ, kk, .inr (kJ _ _ g2 n2.1 n2.2), n2⟩
  rintro _ H9 ⟨ha, rfl, S9, k9, hh9, nha⟩
  -- the argument
  have eM8 := eM7.trans e8
  have k79 : Kp2 st cl H7 H9 := (Kp2.of_same e8).trans k9
  have hlk := held_len hH7
  have pre : ∀ (HE : Hp) (gv : V), Kp2 st cl H9 HE → (gv = .non ∧ ld = []) ∨ gv = .ref o → AddPre CP CS HE a ha gv [] [] [] [] gs io act ld [] := fun HE gv kE hv => by
    have k7E := k79.trans kE
    refine ⟨Pa.keep (same_kp2 eM7 Mst Mcl k7E), rfl, hh9.imp (fun h => kE _ _ h nha.1 nha.2) (fun h => kE _ _ h nha.1 nha.2), by rw [epf]; exact hG7, ?_, hN7, hO7, fun _ _ z => (nomatch z), Nat.zero_le _, Nat.zero_le _, Nat.zero_le _, Nat.zero_le _⟩
    rcases hv with h | h
    · exact .inl h
    · exact .inr ⟨o, kvs, h, k7E _ _ ho7 no.1 no.2, held_mono (fun b u q => cd_sub _ _ (cd_kp k7E b u q)) hH7⟩
  refine ⟨fun σ' H' => ∃ (A : Addr) (HA : Hp) (n10 : Nat), σ' = [sc, some (.ref st), q2, some (.str pf), some (.ref a.p), some (.ref fa), some (.bl io), some (.str act), some (.ref o), some dv, some (.ref ha), some (.ref A), q12] ∧ n10 ≤ n + 100 ∧ Strm H' st cl n10 ∧ ArgX CA HA H' A pf gs io act ld ∧ Same N H' ∧ H' o = some (.dK kvs) ∧ (∀ b u, H7 b = some u → ∃ u', HA b = some u') ∧ (∀ b xs, Cd st cl H7 b = some (.tup xs) → H' b = some (.tup xs)) ∧ (∀ b xs, V.ref b ∈ kvs.map (·.2) → Cd st cl H7 b = some (.lst xs) → ∃ ys, H' b = some (.lst ys) ∧ ys.length ≤ 2000), ?_, ?_⟩
  · have post : ∀ (HE : Hp) (nE : Nat) (A : Addr) (H' : Hp), Strm HE st cl nE → nE ≤ n + 100 → Kp2 st cl H9 HE → AddedX CP CS CA HE H' a A [] [] [] gs io act ld [] → ∃ (A' : Addr) (HA : Hp) (n10 : Nat), ([sc, some (.ref st), q2, some (.str pf), some (.ref a.p), some (.ref fa), some (.bl io), some (.str act), some (.ref o), some dv, some (.ref ha), some (.ref A), q12] : L2.St) = [sc, some (.ref st), q2, some (.str pf), some (.ref a.p), some (.ref fa), some (.bl io), some (.str act), some (.ref o), some dv, some (.ref ha), some (.ref A'), q12] ∧ n10 ≤ n + 100 ∧ Strm H' st cl n10 ∧ ArgX CA HA H' A' pf gs io act ld ∧ Same N H' ∧ H' o = some (.dK kvs) ∧ (∀ b u, H7 b = some u → ∃ u', HA b = some u') ∧ (∀ b xs, Cd st cl H7 b = some (.tup xs) → H' b = some (.tup xs)) ∧ (∀ b xs, V.ref b ∈ kvs.map (·.2) → Cd st cl H7 b = some (.lst xs) → ∃ ys, H' b = some (.lst ys) ∧ ys.length ≤ 2000) := fun HE nE A H' SE hnE kE hX => by
      have k7E := k79.trans kE
      have ME := same_kp2 eM7 Mst Mcl k7E
      have PE := Pa.keep ME
      have kp := hX.kp
      have isM : ∀ b, M b = none → b ≠ a.la ∧ b ≠ a.lf ∧ b ≠ a.m0 ∧ b ≠ a.m1 := fun b hb => ⟨(ne_of_none Pa.hla hb).symm, (ne_of_none Pa.hlf hb).symm, (ne_of_none Pa.hm0 hb).symm, (ne_of_none Pa.hm1 hb).symm⟩
      have nM : ∀ b u, N b = some u → M b = none := fun b u h => none_of eM7 (nN b u h)
      have hN8 : ∀ b u, N b = some u → HE b = some u := fun b u h => by
        have h7 := nN b u h
        have nb := S7.fr h7
        exact kE _ _ (k9 _ _ (eN8 _ _ h) nb.1 nb.2) nb.1 nb.2
      refine ⟨A, HE, nE, rfl, hnE, ?_, by rw [← epf]; exact hX.arg, fun b u h => ?_, ?_, fun b u h => ?_, fun b xs h => ?_, fun b xs hm h => ?_⟩
      · obtain ⟨c, b, ns, h1, h2, h3⟩ := SE.ex
        obtain ⟨i1, i2, i3, i4⟩ := isM st Mst
        obtain ⟨j1, j2, j3, j4⟩ := isM cl Mcl
        exact ⟨c, b, ns, kp _ _ h1 i1 i2 i3 i4, kp _ _ h2 j1 j2 j3 j4, h3⟩
      · obtain ⟨i1, i2, i3, i4⟩ := isM b (nM b u h)
        exact kp _ _ (hN8 b u h) i1 i2 i3 i4
      · obtain ⟨i1, i2, i3, i4⟩ := isM o Mo
        exact kp _ _ (k7E _ _ ho7 no.1 no.2) i1 i2 i3 i4
      · by_cases hb : b = st ∨ b = cl
        · obtain ⟨u1, q1⟩ := SE.st
          obtain ⟨u2, q2⟩ := SE.cl
          rcases hb with rfl | rfl
          · exact ⟨_, q1⟩
          · exact ⟨_, q2⟩
        · exact ⟨u, k7E _ _ h (fun z => hb (.inl z)) (fun z => hb (.inr z))⟩
      · obtain ⟨m1, m2, m3, _⟩ := cd_is h
        have hE := k7E _ _ m3 m1 m2
        exact kp _ _ hE (ne_of hE PE.hla (fun z => by cases z)) (ne_of hE PE.hlf (fun z => by cases z)) (ne_of hE PE.hm0 (fun z => by cases z)) (ne_of hE PE.hm1 (fun z => by cases z))
      · obtain ⟨m1, m2, m3, _⟩ := cd_is h
        have hE := k7E _ _ m3 m1 m2
        obtain ⟨ns', ms', l1, l2, PX⟩ := hX.par
        by_cases c1 : b = a.la
        · rw [c1]
          exact ⟨_, PX.hla, by show 1 ≤ 2000; decide⟩
        by_cases c2 : b = a.m0
        · rw [c2]
          exact ⟨_, PX.hm0, Nat.le_trans l1 (by show 1 ≤ 2000; decide)⟩
        by_cases c3 : b = a.m1
        · rw [c3]
          exact ⟨_, PX.hm1, Nat.le_trans l2 (by show 1 ≤ 2000; decide)⟩
        obtain ⟨p, hp, hd⟩ := held_vals hH7 _ hm
        have := dt_lst hd h (hO7.sm p hp).2.1
        exact ⟨xs, kp _ _ hE c1 (ne_of hE PE.hlf (fun z => by cases z)) c2 c3, by omega⟩
    refine ⟨_, rfl, a.p, a.dx, _, rfl, (Pa.keep (same_kp2 eM7 Mst Mcl k79)).px, rfl, _, rfl, _, rfl, fun E0 hE0 => ?_⟩
    have eE := same_upd (o := .dK []) hE0
    have oE := eE _ _ (k79 _ _ ho7 no.1 no.2)
    refine ⟨o, E0, kvs, rfl, rfl, oE, upd_same, _, rfl, ?_⟩
    refine ite2 (fun hc => iteT ⟨_, rfl, a, ha, .ref o, [], [], [], [], gs, io, act, ld, [], rfl, pre _ _ (Kp2.of_same eE) (.inr rfl), fun A H' hX => post _ _ A H' (S9.keep eE) (by omega) (Kp2.of_same eE) hX⟩) (fun hc => ?_)
    refine ⟨_, rfl, st, cl, n7 + 1, 2, rfl, S9.keep eE, by decide, by decide, by omega, fun j HJ j0 j1 SJ kJ => ⟨rfl, _, rfl, ?_⟩⟩
    have kE := (Kp2.of_same (a := st) (b := cl) eE).trans kJ
    refine ite2 (fun hj => ⟨_, rfl, a, ha, .ref o, [], [], [], [], gs, io, act, ld, [], rfl, pre _ _ kE (.inr rfl), fun A H' hX => post _ _ A H' SJ (by omega) kE hX⟩) (fun hj => ?_)
    have hk0 : kvs = [] := by
      cases kvs with
      | nil => rfl
      | cons p r => exact absurd rfl hc
    have hl0 : ld = [] := by
      rw [hk0] at hlk
      exact List.length_eq_zero_iff.mp hlk.symm
    exact ⟨a, ha, .non, [], [], [], [], gs, io, act, ld, [], rfl, pre _ _ kE (.inl ⟨rfl, hl0⟩), fun A H' hX => post _ _ A H' SJ (by omega) kE hX⟩
  rintro _ H10 ⟨A, HA, n10, rfl, hn10, S10, hX, eN10, ho10, hdom, htup, hlst⟩
  -- lists are changed
  refine ⟨fun σ' H' => ∃ r12, σ' = [sc, some (.ref st), q2, some (.str pf), some (.ref a.p), some (.ref fa), some (.bl io), some (.str act), some (.ref o), some dv, some (.ref ha), some (.ref A), r12] ∧ Strm H' st cl n10 ∧ ArgX CA HA H' A pf gs io act ld ∧ Same N H', ?_, ?_⟩
  · refine ⟨_, rfl, o, kvs, rfl, ho10, fun LV hLV => ?_⟩
    have eL := same_upd (o := .lst (kvs.map (·.2))) hLV
    have hLVg : (upd H10 LV (.lst (kvs.map (·.2)))) LV = some (.lst (kvs.map (·.2))) := upd_same
    have nLV : ¬ ∃ xs, V.ref LV ∈ kvs.map (·.2) ∧ Cd st cl H7 LV = some (.lst xs) := by
      rintro ⟨xs, m1, m2⟩
      obtain ⟨ys, h1, _⟩ := hlst LV xs m1 m2
      rw [h1] at hLV
      cases hLV
    refine ⟨LV, rfl, ⟨_, SqL.of hLVg⟩, ?_⟩
    generalize upd H10 LV (.lst (kvs.map (·.2))) = HL at eL hLVg
    have L0 : LoI (Cd st cl H7) (kvs.map (·.2)) HL HL 0 := loI0 fun b xs m1 m2 => by
      obtain ⟨ys, h1, h2⟩ := hlst b xs m1 m2
      exact ⟨ys, eL _ _ h1, h2⟩
    refine for_list (K := K) (a := LV) (xs := kvs.map (·.2)) (fun i σ' H' => ∃ r12, σ' = [sc, some (.ref st), q2, some (.str pf), some (.ref a.p), some (.ref fa), some (.bl io), some (.str act), some (.ref o), some dv, some (.ref ha), some (.ref A), r12] ∧ LoI (Cd st cl H7) (kvs.map (·.2)) HL H' i) ⟨_, rfl, L0⟩ ?_ ?_ ?_
    · rintro i σ' H' _ ⟨_, _, L⟩
      exact SqL.of (L.kp _ _ hLVg nLV)
    · rintro i x σ' H' hx ⟨r12, rfl, L⟩
      have hxm := List.mem_of_getElem? hx
      have hil : i < (kvs.map (·.2)).length := (List.getElem?_eq_some_iff.mp hx).1
      rw [List.length_map] at hil
      have hl12 := hO7.n
      obtain ⟨p, hp, hd⟩ := held_vals hH7 _ hxm
      generalize p.2 = d at hd
      cases hd with
      | non => exact ⟨_, rfl, _, .ty "list", _, _, false, rfl, .ty _, .base (.non), kit_ty (by decide +kernel), _, rfl, iteF ⟨_, rfl, L.up⟩⟩
      | bl b => exact ⟨_, rfl, _, .ty "list", _, _, false, rfl, .ty _, .base (.bl b), kit_ty (by decide +kernel), _, rfl, iteF ⟨_, rfl, L.up⟩⟩
      | int b => exact ⟨_, rfl, _, .ty "list", _, _, false, rfl, .ty _, .base (.int b), kit_ty (by decide +kernel), _, rfl, iteF ⟨_, rfl, L.up⟩⟩
      | str b => exact ⟨_, rfl, _, .ty "list", _, _, false, rfl, .ty _, .base (.str b), kit_ty (by decide +kernel), _, rfl, iteF ⟨_, rfl, L.up⟩⟩
      | @lst b xs ds h1 h2 =>
        obtain ⟨ys, hy, hyl⟩ := L.ls b xs hxm h1
        exact ⟨_, rfl, .ref b, .ty "list", _, _, true, rfl, .ty _, .base (.lst hy), kit_ty (by decide +kernel), _, rfl, iteT ⟨_, rfl, .inl ⟨rfl, _, SqL.of hy⟩, b, ys, .str "later", rfl, rfl, hy, (by rw [PySem.sizeLine_eq]; omega), _, rfl, L.step hxm h1 hy hyl⟩⟩
      | @tup b xs ds h1 h2 =>
        have hb := L.kp b _ (eL _ _ (htup b xs h1)) (fun ⟨zs, _, z⟩ => by rw [h1] at z; cases z)
        exact ⟨_, rfl, .ref b, .ty "list", _, _, false, rfl, .ty _, .base (.tup hb), kit_ty (by decide +kernel), _, rfl, iteF ⟨_, rfl, L.up⟩⟩
    · rintro σ' H' ⟨r12, rfl, L⟩
      have nst : ¬ ∃ xs, V.ref st ∈ kvs.map (·.2) ∧ Cd st cl H7 st = some (.lst xs) := fun ⟨xs, _, z⟩ => (cd_is z).1 rfl
      have ncl : ¬ ∃ xs, V.ref cl ∈ kvs.map (·.2) ∧ Cd st cl H7 cl = some (.lst xs) := fun ⟨xs, _, z⟩ => (cd_is z).2.1 rfl
      refine ⟨r12, rfl, ?_, hX.kn ⟨fun b u h n1 n2 => L.kp _ _ (eL _ _ h) fun ⟨xs, m1, m2⟩ => ?_, fun b u h h0 => L.kp _ _ (eL _ _ h) fun ⟨xs, m1, m2⟩ => ?_⟩, fun b u h => L.kp _ _ (eL _ _ (eN10 _ _ h)) fun ⟨xs, m1, m2⟩ => ?_⟩
      · obtain ⟨c, b, ns, h1, h2, h3⟩ := (S10.keep eL).ex
        exact ⟨c, b, ns, L.kp _ _ h1 nst, L.kp _ _ h2 ncl, h3⟩
      · obtain ⟨ys, h1, _⟩ := hlst b xs m1 m2
        rw [h1] at h
        cases h
        exact n1 _ rfl
      · obtain ⟨u', h1⟩ := hdom b _ (cd_sub _ _ m2)
        rw [h1] at h0
        cases h0
      · have h1 := nN b u h
        rw [cd_sub _ _ m2] at h1
        cases h1
  rintro _ H11 ⟨r12, rfl, S11, hX11, eN11⟩
  -- told as due
  have hdk := due_ok hO7 hG7
  refine ⟨_, rfl, A, HA, pf, gs, io, act, ld, rfl, hX11, fun D2 H' e hD => ?_⟩
  refine ⟨_, rfl, .ref D2, dv, _, rfl, hD, Dt.mono (eN11.trans e) _ _ hdv, hdk.1, hdk.2, fun H'' e' => ⟨true, rfl, ?_⟩⟩
  exact iteF (k _ _ _ _ _ _ _ _ _ _ H'' n10 (S11.keep (e.trans e')) (by omega))
end
end K67

namespace K67
open PySem L2 PyProof PyProof.Rows
def spLaw (K : PySem.W.Frag) : Sp := fun vs H Q _ => ∃ (a : Addr) (ns : List Int), vs = [.ref a] ∧ SqL K H a (ns.map V.int) ∧ ∀ H', Q (.bl true) H'
section
variable {P : Program} {w : World} {K : PySem.W.Frag} {mg : Str → Option Value} {base : Heap}
theorem ok_law {f CP CS CA aP aL : Addr} {fd : FuncData} (F : Fun K "law" "law" sLaw f fd) (Z : Fns P w K mg base CP CS CA aP aL) : FnOk P w K mg base CX0 10 f fd ["_law_script"] (spLaw K) := by
  refine F.ok scLaw (fun vs H Q E h => ?_) (fun cdv A0 outer s H vs Q E hr h => ?_)
  · obtain ⟨a, ns, rfl, _⟩ := h
    rfl
  · obtain ⟨a, ns, rfl, hS, k⟩ := h
    have r1 := hr.mono (show 1 ≤ 9 by decide)
    obtain ⟨_, _, S⟩ := Z.St
    obtain ⟨tb, hb, rb⟩ := turn_walk (outer := outer) (H0 := H) (E := E) Z hr
    refine ⟨_, pss_mid (ps_set (i := 1) scLaw.nd rfl (Or.inl rfl) (pe_call S.ok r1 rfl S.m S.k S.b .nil pass0 (pa_cons (pv 0) pa_nil)))
      (pss_mid (ps_for PassesOwn.never rfl (pi_range1 rfl Z.T.range (pa_cons pe_int pa_nil)) (pg_name (i := 2) scLaw.nd rfl (Or.inl rfl)) hb)
      (pss_one (ps_ret pe_bl))), ?_⟩
    refine ⟨fun σ' H' => ∃ st cl : Addr, σ' = [some (.ref a), some (.ref st), none, none, none, none, none, none, none, none, none, none, none] ∧ Strm H' st cl 0, ?_, ?_⟩
    · exact ⟨_, rfl, a, ns, rfl, hS, fun st cl H' n1 n2 e S' => ⟨st, cl, rfl, S'⟩⟩
    rintro _ H1 ⟨st, cl, rfl, S1⟩
    refine ⟨fun σ' H' => True, ?_, fun _ _ _ => k _⟩
    refine ⟨10, rfl, by decide, by decide, ?_⟩
    refine for_range (lo := 0) (n := 10) (fun i σ' H' => ∃ (r2 r3 r4 r5 r6 r7 r8 r9 r10 r11 r12 : Option V) (n : Nat), σ' = [some (.ref a), some (.ref st), r2, r3, r4, r5, r6, r7, r8, r9, r10, r11, r12] ∧ Strm H' st cl n ∧ n ≤ 200 * i) ⟨none, none, none, none, none, none, none, none, none, none, none, 0, rfl, S1, Nat.zero_le _⟩ ?_ (fun _ _ _ => trivial)
    rintro i σ' H' hi ⟨r2, r3, r4, r5, r6, r7, r8, r9, r10, r11, r12, n, rfl, S', hn⟩
    exact rb _ H' _ _ r3 r4 r5 r6 r7 r8 r9 r10 r11 r12 st cl n S' (by omega) fun r3 r4 r5 r6 r7 r8 r9 r10 r11 r12 H2 n' S2 hn2 => ⟨_, r3, r4, r5, r6, r7, r8, r9, r10, r11, r12, n', rfl, S2, by omega⟩
end
end K67

namespace K67
open PySem PySem.Spec PyProof.Rows L2
/-! ### the head: facts by names, the run -/
/-- the keyword default x of the def at f, if it is an object -/
def kwAt (f : Str × Option Str) (x : Str) (K : PySem.W.Frag) : Addr := match K.lookup (He.fAd K f) with
  | some ⟨_, _, .func fd, _⟩ => (match fd.kwdefaults with
    | .ref D => (match PySem.W.nsIn K D x with
      | some (some (.ref a)) => a
      | _ => 0)
    | _ => 0)
  | _ => 0
def nilB (K : PySem.W.Frag) (a : Addr) : Bool := match K.lookup a with
  | some ⟨.type c, _, .seq its _, _⟩ => decide (c = "tuple") && its.isEmpty
  | _ => false
theorem nilB_ok {K : PySem.W.Frag} {a : Addr} (h : nilB K a = true) : (∀ H : Hp, SqT K H a []) ∧ ∀ H : Hp, TyX K H (.ref a) (.type "tuple") := by
  unfold nilB at h
  cases q : K.lookup a with
  | none =>
    rw [q] at h
    cases h
  | some o =>
    obtain ⟨oc, od, dt, osl⟩ := o
    rw [q] at h
    cases oc with
    | type c =>
      cases dt with
      | seq its n =>
        obtain ⟨h1, h2⟩ := Bool.and_eq_true_iff.mp (show (decide (c = "tuple") && its.isEmpty) = true from h)
        have e1 : c = "tuple" := of_decide_eq_true h1
        have e2 : its = #[] := Array.isEmpty_iff.mp h2
        subst e1 e2
        exact ⟨fun H => .inr ⟨_, #[], n, q, rfl, rfl, Nat.zero_le _, .nil⟩, fun H => .kTuple q rfl⟩
      | _ => cases h
    | _ => cases dt <;> cases h
def d_cop : He.DefD := ⟨("copied", none), "copied", "copied", defArgs sCop, defBody sCop, defScope sCop, [], []⟩
def d_isr : He.DefD := ⟨("is_row", none), "is_row", "is_row", defArgs sIsRow, defBody sIsRow, defScope sIsRow, [], []⟩
def d_isi : He.DefD := ⟨("is_integer", none), "is_integer", "is_integer", defArgs sIsInt, defBody sIsInt, defScope sIsInt, [], []⟩
def d_isv : He.DefD := ⟨("is_value", none), "is_value", "is_value", defArgs sIsVal, defBody sIsVal, defScope sIsVal, [], []⟩
def d_isk : He.DefD := ⟨("is_kind", none), "is_kind", "is_kind", defArgs sIsKind, defBody sIsKind, defScope sIsKind, [], []⟩
def d_key : He.DefD := ⟨("keys_of", none), "keys_of", "keys_of", defArgs sKeys, defBody sKeys, defScope sKeys, [], []⟩
def d_isf : He.DefD := ⟨("is_flag", none), "is_flag", "is_flag", defArgs sIsFlag, defBody sIsFlag, defScope sIsFlag, [], []⟩
def d_gap : He.DefD := ⟨("has_gap", none), "has_gap", "has_gap", defArgs sHasGap, defBody sHasGap, defScope sHasGap, [], []⟩
def d_chk : He.DefD := ⟨("checked_flags", none), "checked_flags", "checked_flags", defArgs sChkFlags, defBody sChkFlags, defScope sChkFlags, [], []⟩
def d_nam : He.DefD := ⟨("named", none), "named", "named", defArgs sNamed, defBody sNamed, defScope sNamed, [], []⟩
def d_wif : He.DefD := ⟨("with_fellows", none), "with_fellows", "with_fellows", defArgs sWithF, defBody sWithF, defScope sWithF, [], []⟩
def d_fit : He.DefD := ⟨("fits_metavar", none), "fits_metavar", "fits_metavar", defArgs sFits, defBody sFits, defScope sFits, [], []⟩
def d_cw : He.DefD := ⟨("check_words", none), "check_words", "check_words", defArgs sChkWords, defBody sChkWords, defScope sChkWords, [], []⟩
def d_co : He.DefD := ⟨("check_options", none), "check_options", "check_options", defArgs sChkOpts, defBody sChkOpts, defScope sChkOpts, [], []⟩
def d_dfl : He.DefD := ⟨("default_of", none), "default_of", "default_of", defArgs sDflt, defBody sDflt, defScope sDflt, [], []⟩
def d_mad : He.DefD := ⟨("made_argument", none), "made_argument", "made_argument", defArgs sMadeArg, defBody sMadeArg, defScope sMadeArg, [], []⟩
def d_sig : He.DefD := ⟨("is_signs", none), "is_signs", "is_signs", defArgs sIsSigns, defBody sIsSigns, defScope sIsSigns, [], []⟩
def d_drw : He.DefD := ⟨("_law_draw", none), "_law_draw", "_law_draw", defArgs sDraw, defBody sDraw, defScope sDraw, [], []⟩
def d_sta : He.DefD := ⟨("_law_start", none), "_law_start", "_law_start", defArgs sStart, defBody sStart, defScope sStart, [], []⟩
def d_pck : He.DefD := ⟨("_law_pick", none), "_law_pick", "_law_pick", defArgs sPick, defBody sPick, defScope sPick, [], []⟩
def d_mix : He.DefD := ⟨("_law_mixed", none), "_law_mixed", "_law_mixed", defArgs sMixed, defBody sMixed, defScope sMixed, [], []⟩
def d_sam : He.DefD := ⟨("_law_same", none), "_law_same", "_law_same", defArgs sSame, defBody sSame, defScope sSame, [], []⟩
def d_rfl : He.DefD := ⟨("_law_right_flags", none), "_law_right_flags", "_law_right_flags", defArgs sRFl, defBody sRFl, defScope sRFl, [], []⟩
def d_wop : He.DefD := ⟨("_law_word_options", none), "_law_word_options", "_law_word_options", defArgs sWOp, defBody sWOp, defScope sWOp, [], []⟩
def d_rop : He.DefD := ⟨("_law_right_options", none), "_law_right_options", "_law_right_options", defArgs sROp, defBody sROp, defScope sROp, [], []⟩
def d_sma : He.DefD := ⟨("_law_some_action", none), "_law_some_action", "_law_some_action", defArgs sSomeA, defBody sSomeA, defScope sSomeA, [], []⟩
def d_lco : He.DefD := ⟨("_law_copied", none), "_law_copied", "_law_copied", defArgs sLCop, defBody sLCop, defScope sLCop, [], []⟩
def d_lde : He.DefD := ⟨("_law_dest", none), "_law_dest", "_law_dest", defArgs sLDest, defBody sLDest, defScope sLDest, [], []⟩
def d_fld : He.DefD := ⟨("_law_flags_due", none), "_law_flags_due", "_law_flags_due", defArgs sFlDue, defBody sFlDue, defScope sFlDue, [], []⟩
def d_due : He.DefD := ⟨("_law_due", none), "_law_due", "_law_due", defArgs sDue, defBody sDue, defScope sDue, [], []⟩
def d_tol : He.DefD := ⟨("_law_told", none), "_law_told", "_law_told", defArgs sTold, defBody sTold, defScope sTold, [], []⟩
def d_law : He.DefD := ⟨("law", none), "law", "law", defArgs sLaw, defBody sLaw, defScope sLaw, [], []⟩
def d_argI : He.DefD := ⟨("Argument", some "__init__"), "__init__", "Argument.__init__", defArgs sArgI, defBody sArgI, defScope sArgI, [], []⟩
def d_secI : He.DefD := ⟨("Section", some "__init__"), "__init__", "Section.__init__", defArgs sSecI, defBody sSecI, defScope sSecI, [], []⟩
def d_adt : He.DefD := ⟨("Parser", some "add_to"), "add_to", "Parser.add_to", defArgs sAddTo, defBody sAddTo, defScope sAddTo, [], []⟩
def d_joi : He.DefD := ⟨("Parser", some "join"), "join", "Parser.join", defArgs sJoin, defBody sJoin, defScope sJoin, [], []⟩
def d_add : He.DefD := ⟨("Parser", some "add_argument"), "add_argument", "Parser.add_argument", defArgs sAdd, defBody sAdd, defScope sAdd, [.non], []⟩
def d_parI : He.DefD := ⟨("Parser", some "__init__"), "__init__", "Parser.__init__", defArgs sParI, defBody sParI, defScope sParI, [.str "program"], [("usage", .non), ("description", .non), ("epilog", .non), ("parents", .adr (kwAt ("Parser", some "__init__") "parents")), ("layout", .adr (kwAt ("Parser", some "__init__") "layout")), ("width", .int 78), ("prefix_chars", .str "-"), ("fromfile_prefix_chars", .str ""), ("files", .non), ("argument_default", .non), ("conflict_handler", .str "error"), ("add_help", .bl true), ("allow_abbrev", .bl true), ("exit_on_error", .bl true)]⟩
def fn : List He.DefD := [d_cop, d_isr, d_isi, d_isv, d_isk, d_key, d_isf, d_gap, d_chk, d_nam, d_wif, d_fit, d_cw, d_co, d_dfl, d_mad, d_sig, d_drw, d_sta, d_pck, d_mix, d_sam, d_rfl, d_wop, d_rop, d_sma, d_lco, d_lde, d_fld, d_due, d_tol, d_law, d_argI, d_secI, d_adt, d_joi, d_add, d_parI]
def fa : List He.Fa := [.free "int", .free "list", .free "tuple", .free "len", .free "isinstance", .free "dict", .free "sorted", .free "all", .free "zip", .free "range", .free "bool", .free "str", .free "any", .free "enumerate", .glo "copied", .glo "is_row", .glo "is_integer", .glo "is_value", .glo "is_kind", .glo "keys_of", .glo "is_flag", .glo "has_gap", .glo "checked_flags", .glo "named", .glo "with_fellows", .glo "fits_metavar", .glo "check_words", .glo "check_options", .glo "default_of", .glo "made_argument", .glo "is_signs", .glo "_law_draw", .glo "_law_start", .glo "_law_pick", .glo "_law_mixed", .glo "_law_same", .glo "_law_right_flags", .glo "_law_word_options", .glo "_law_right_options", .glo "_law_some_action", .glo "_law_copied", .glo "_law_dest", .glo "_law_flags_due", .glo "_law_due", .glo "_law_told", .glo "law", .glo "Argument", .glo "Section", .glo "Parser", .glo "WITH_WORDS", .glo "WITH_CONST", .glo "WITHOUT", .glo "WORD_COUNTS", .glo "LISTS", .glo "ALWAYS", .str "SUPPRESS" "==SUPPRESS==", .str "VERSION_HELP" "show program's version number and exit", .str "NO_SIGNS" "abcdefghijklmnopqrstuvwxyzABCDEFGHIJKLMNOPQRSTUVWXYZ0123456789 \n=", .cls "Parser", .mkr "Parser", .noat "Parser" "prog", .noat "Parser" "usage", .noat "Parser" "description", .noat "Parser" "epilog", .noat "Parser" "layout", .noat "Parser" "width", .noat "Parser" "prefix_chars", .noat "Parser" "file_signs", .noat "Parser" "files", .noat "Parser" "argument_default", .noat "Parser" "conflict_handler", .noat "Parser" "allow_abbrev", .noat "Parser" "exit_on_error", .noat "Parser" "arguments", .noat "Parser" "flags", .noat "Parser" "exclusives", .noat "Parser" "defaults", .noat "Parser" "commands_argument", .noat "Parser" "sections", .cls "Argument", .mkr "Argument", .noat "Argument" "flags", .noat "Argument" "dest", .noat "Argument" "action", .noat "Argument" "is_option", .noat "Argument" "nargs", .noat "Argument" "const", .noat "Argument" "default", .noat "Argument" "kind", .noat "Argument" "choices", .noat "Argument" "required", .noat "Argument" "help", .noat "Argument" "metavar", .noat "Argument" "version", .noat "Argument" "commands", .noat "Argument" "fellows", .cls "Section", .mkr "Section", .noat "Section" "home", .noat "Section" "title", .noat "Section" "description", .noat "Section" "members", .meth "Parser" "add_argument", .meth "Parser" "add_to", .meth "Parser" "join"]
def ex (K : PySem.W.Frag) : Bool := He.tupB K "WITH_WORDS" [.str "store", .str "append", .str "extend"] && He.tupB K "WITH_CONST" [.str "store_const", .str "append_const"] && He.tupB K "WITHOUT" [.str "store_true", .str "store_false", .str "count", .str "yes_no"] && He.tupB K "WORD_COUNTS" [.str "?", .str "*", .str "+", .str "..."] && He.tupB K "LISTS" [.str "append", .str "append_const", .str "extend"] && He.tupB K "ALWAYS" [.str "action", .str "dest", .str "help"] && (nilB K (kwAt ("Parser", some "__init__") "parents" K) && nilB K (kwAt ("Parser", some "__init__") "layout" K))
def loose0 : List PySem.Str := ["_wall", "OptError", "BadParser", "BadArgument", "Conflict", "CommandsTwice", "Exit", "SUPPRESS", "is_integer", "is_row", "is_value", "copied", "is_kind", "kind_name", "WITH_WORDS", "WITH_CONST", "WITHOUT", "WORD_COUNTS", "LISTS", "ALWAYS", "VERSION_HELP", "Argument", "keys_of", "is_flag", "has_gap", "checked_flags", "named", "with_fellows", "fits_metavar", "check_words"]
def loose1 : List PySem.Str := ["check_options", "default_of", "made_argument", "is_shown", "choices_of", "braced", "shown_names", "words_of", "with_words", "filled_in", "START", "bare_part", "part_of", "marked_places", "parts_of", "taken", "usage_lines", "usage_text", "format_usage", "format_usage_usage", "section_like", "section_with", "take_over", "Exclusive", "Section", "LAYOUTS", "LETTERS", "NO_SIGNS", "is_signs", "Parser"]
def loose2 : List PySem.Str := ["_law_right_flags", "_law_word_options", "_law_right_options", "_law_some_action", "_law_copied", "_law_draw", "_law_start", "_law_pick", "_law_mixed", "_law_same", "_law_dest", "_law_flags_due", "_law_due", "_law_told"]
def loose : List PySem.Str := loose0 ++ loose1 ++ loose2
abbrev R : PySem.W.OpenRow := PySem.W.OpenLaw.row PySem.Challenge.rw_optwright_k67_arguments_made
/-- every object that the top leaves -/
def asN : List Addr := List.range 726
def obsA (g : Addr → Option Obj) : He.AlD × Bool := (He.obsD fa fn (He.frG g asN), ex (He.frG g asN))
def hk : PySem.W.Hook where
  α := He.AlD × Bool
  obs := fun s => obsA s.heap.get?
  val := fun _ => (He.valD fn, true)
  says := fun _ h => ∃ K : PySem.W.Frag, K.In h ∧ He.SaysD fa fn K ∧ ex K = true
  of := fun _ _ e => ⟨_, He.frG_in, congrArg (fun z : He.AlD × Bool => z.1) e, congrArg (fun z : He.AlD × Bool => z.2) e⟩
  keeps := fun _ _ _ ⟨K, hK, c⟩ k => ⟨K, PySem.W.Frag.In.keeps hK k, c⟩
def ob (s : PySem.W.SharedT) : He.AlD × Bool := obsA (HandSHeadRun.getT s)
theorem ob_eq (s : PySem.W.SharedT) : ob s = hk.obs s.abs := by
  have e : HandSHeadRun.getT s = s.abs.heap.get? := funext (HandSHeadRun.getT_eq s)
  show obsA (HandSHeadRun.getT s) = obsA s.abs.heap.get?
  rw [e]
end K67

/-! the head, from a run that ends in a state that is known -/
namespace XTop
open PySem PySem.W PySem.Calls PyProof.Rows HandSHeadRun
def RunTop (r : OpenRow) (q : Program) (H : Hook) (M : Nat) (loose : List PySem.Str) (w : World) : Prop :=
  ∀ os : OsState, ∃ (s : SharedT) (m : Nat), m ≤ M ∧ topRun treeTable r.prog w (boot_heap w.params).objs.size (bootAnn w) m ⟨boot_heap w.params, #[], boot_drawn, boot_toks, os⟩ (topStub r.prog) = some s.abs ∧ (looksF r.prog (boot_heap w.params) s.abs, seenQ q loose (importedModules r.prog.main.body) (fun s => xlAt q [] s && recOk r.toRowW.records s) s.abs, H.obs s.abs) = (true, openGood q loose, H.val w)
theorem left_top {p q : Program} {loose : List PySem.Str} {Xt : Shared → Bool} {α : Type} {Yf : Shared → α} {Ya : World → α} {N M : Nat}
    (e : opening p = plainProg p.main.scope.names) (hN : Nat.ble 600 N = true) (f : ∀ s, fenceModules? p s = some s) (le : Nat.ble M N = true)
    (run : ∀ (w : World) (os : OsState), ∃ (s : SharedT) (m : Nat), m ≤ M ∧ topRun treeTable p w (boot_heap w.params).objs.size (bootAnn w) m ⟨boot_heap w.params, #[], boot_drawn, boot_toks, os⟩ (topStub p) = some s.abs ∧ (looksF p (boot_heap w.params) s.abs, openSeen q loose (importedModules p.main.body) Xt true s.abs, Yf s.abs) = (true, openGood q loose, Ya w)) :
    LeftO p q loose Xt Yf Ya N true := fun w => by
  obtain ⟨⟨h, gs, d, k, os⟩, a, a'⟩ := Option.map_eq_some_iff.mp (boot_open e hN f w)
  obtain ⟨rfl, rfl, rfl, rfl⟩ : h = boot_heap w.params ∧ gs = Array.mk [] ∧ d = boot_drawn ∧ k = boot_toks := by simpa using a'
  obtain ⟨s, m, hm, hs, hv⟩ := run w os
  obtain ⟨l1, l2, l3⟩ : _ ∧ _ ∧ _ := by simpa only [Prod.mk.injEq] using hv
  have r := topRun_mono (N - m) _ _ _ _ hs
  rw [show m + (N - m) = N by have := Nat.le_of_ble_eq_true le; omega] at r
  have l1' : (staticsOk (importedModules p.main.body) (boot_heap w.params) s.abs.heap && namesBound p s.abs.heap && gensDone s.abs && laidKept (boot_heap w.params) s.abs.heap) = true := l1
  have t : topFrom treeTable p w N ⟨boot_heap w.params, Array.mk [], boot_drawn, boot_toks, os⟩ = some s.abs := by
    unfold topFrom
    dsimp only
    rw [boot_ns]
    show (topRun treeTable p w (boot_heap w.params).objs.size (bootAnn w) N ⟨boot_heap w.params, #[], boot_drawn, boot_toks, os⟩ (topStub p)).bind _ = _
    rw [r]
    show (match staticsOk (importedModules p.main.body) (boot_heap w.params) s.abs.heap && namesBound p s.abs.heap && gensDone s.abs && laidKept (boot_heap w.params) s.abs.heap with | true => some s.abs | false => none) = _
    rw [l1']
  unfold openEnds
  rw [a]
  show (topFrom treeTable p w N _).map _ = _
  rw [t]
  exact congrArg some (Prod.ext l2 l3)
theorem head_top {r : OpenRow} {q : Program} {H : Hook} {M : Nat} {loose : List PySem.Str} {d : DefRec} {kwd : List (PySem.Str × PySem.Expr)}
    (e : opening r.prog = plainProg r.prog.main.scope.names) (f : ∀ s, fenceModules? r.prog s = some s) (run : ∀ w, RunTop r q H M loose w)
    (hdef : defOf q r.name = some (d, kwd)) (hp : r.prog.theDef r.name = some (d.params, d.body, d.scope)) (hk : kwWritten? d.params.kwonlyargs d.params.kw_defaults = some kwd)
    (hwr : (!r.writes || r.records.isEmpty) = true) (k1 : r.wellSaid = true) (ok : (chainsOk q && opensWell r.prog && (frees r.toRowW && r.within.isEmpty)) = true) (hb : r.prog.bare) (hw : r.toRowW.promised)
    (call : WalkO q loose (XL q []) H.says r.toRowW d kwd fun f vs => PySem.call f vs) : r.Holds := by
  have left : LeftO r.prog q loose (fun s => xlAt q [] s && recOk r.toRowW.records s) H.obs H.val (M + 600) true :=
    left_top (M := M) e (Nat.ble_eq_true_of_le (by omega)) f (Nat.ble_eq_true_of_le (by omega)) fun w os => by
      have z := run w os
      simp only [seenQ_eq]
      exact z
  exact holds_open (r := r) (q := q) (loose := loose) (XP := XL q []) (YP := H.says) (d := d) (kwd := kwd) left H.of H.keeps (fun s z => xl_of s (Bool.and_eq_true_iff.mp z).1) XL.keeps hdef hp hk (fun s z => recFacts_of (Bool.and_eq_true_iff.mp z).2) hwr k1 ok hb hw call
end XTop

open PySem PySem.W PySem.Calls PyProof.Rows
namespace K67
/-! what is asked of the text beside the walk -/
theorem s1 : opening R.prog = plainProg R.prog.main.scope.names := by kernel_rfl
theorem s2 (s : Shared) : fenceModules? R.prog s = some s := by kernel_rfl
theorem s3 : defOf (view R.prog [84]) R.name = some ((HandSHeadRun.topDef R.prog 84), []) := by kernel_rfl
theorem s4 : R.prog.theDef R.name = some ((HandSHeadRun.topDef R.prog 84).params, (HandSHeadRun.topDef R.prog 84).body, (HandSHeadRun.topDef R.prog 84).scope) := by kernel_rfl
theorem s5 : kwWritten? (HandSHeadRun.topDef R.prog 84).params.kwonlyargs (HandSHeadRun.topDef R.prog 84).params.kw_defaults = some [] := by kernel_rfl
theorem s6 : (chainsOk (view R.prog [84]) && opensWell R.prog && (frees R.toRowW && R.within.isEmpty)) = true := by decide +kernel
theorem s7 : R.prog.bare := ⟨rfl, rfl, rfl, rfl, rfl, by decide +kernel⟩
/-- the law, but for its walk -/
theorem head (run : ∀ w, XTop.RunTop R (view (OpenLaw.row PySem.Challenge.rw_optwright_k67_arguments_made).prog [84]) hk 12000 loose w) (call : WalkO (view (OpenLaw.row PySem.Challenge.rw_optwright_k67_arguments_made).prog [84]) K67.loose (XL (view (OpenLaw.row PySem.Challenge.rw_optwright_k67_arguments_made).prog [84]) []) K67.hk.says (OpenLaw.row PySem.Challenge.rw_optwright_k67_arguments_made).toRowW (HandSHeadRun.topDef (OpenLaw.row PySem.Challenge.rw_optwright_k67_arguments_made).prog 84) [] fun f vs => PySem.call f vs) : PySem.Challenge.rw_optwright_k67_arguments_made.Holds := by
  w_on; o_law
  refine XTop.head_top (r := OpenLaw.row PySem.Challenge.rw_optwright_k67_arguments_made) (q := view (OpenLaw.row PySem.Challenge.rw_optwright_k67_arguments_made).prog [84]) (H := K67.hk) (M := 12000) (loose := K67.loose) (d := HandSHeadRun.topDef (OpenLaw.row PySem.Challenge.rw_optwright_k67_arguments_made).prog 84) (kwd := [])
    s1 s2 run s3 s4 s5 (by rfl) (by first | assumption | decide +kernel) s6 s7 ?hw call
  case hw => w_witness2
end K67

/-! short words for the objects that a top leaves -/
namespace XLit
open PySem L2
abbrev S (s : String) (t : Nat) : Value := .str (Str.ofString s) t
abbrev R (a : Nat) : Value := .ref a
abbrev I (i : Int) : Value := .int i 0
abbrev V : Value := .none
def sr : Nat → List String → List Value
  | _, [] => []
  | k, x :: r => S x k :: sr (k + 1) r
def tr : List (Nat × Nat × Nat) → List Value
  | [] => []
  | (a, b, c) :: r => I (Int.ofNat a) :: I (Int.ofNat b) :: R c :: tr r
def tp (l : List Value) : Obj := ⟨.type "tuple", none, .seq ⟨l⟩ 0, ⟨[]⟩⟩
def ts (k : Nat) (l : List String) : Obj := tp (sr k l)
def fl (l : List Value) : Obj := ⟨.none, none, .fields ⟨l⟩, ⟨[]⟩⟩
def ct (l : List (Nat × Nat × Nat)) : Obj := fl (tr l)
def ft (n q : String) (s : Stmt) : Obj := ⟨.none, none, .func ⟨Str.ofString n, Str.ofString q, defArgs s, .stmts (defBody s), defScope s, 0, [], .none, .none, .none, .none, none, .none, .none, 0⟩, ⟨[]⟩⟩
def fu (n q : String) (s : Stmt) (cl : List (Str × Addr)) (df kd pm : Value) (c : Nat) (cv : Value) : Obj := ⟨.type "function", none, .func ⟨Str.ofString n, Str.ofString q, defArgs s, .stmts (defBody s), defScope s, 3, cl, df, kd, .none, pm, none, R c, cv, 0⟩, ⟨[]⟩⟩
def co (n q : String) (k l a po kw fg v : Nat) (b : Bool) (z : Nat) (c : Nat) (x y u : Value) (t : Nat) : Obj := ⟨.type "code", none, .fields ⟨[S n k, S q (k + 1), S "/claim/cut.py" (k + 2), I (Int.ofNat l), I (Int.ofNat a), I (Int.ofNat po), I (Int.ofNat kw), I (Int.ofNat fg), R v, .bool b, I (Int.ofNat z), R c, V, x, y, u, I (Int.ofNat t), I (Int.ofNat l), S "/claim/cut.py" (t + 1)]⟩, ⟨[]⟩⟩
abbrev E (P : Params) (s : String) (t : Nat) (v : Value) : DictEntry := ⟨PyData.keyHash P (Str.ofString s), S s t, v⟩
def di (l : List DictEntry) (n : Nat) : Obj := ⟨.type "dict", none, .dict ⟨l⟩ n, ⟨[]⟩⟩
def ob (t : String) (l : List Value) : Obj := ⟨.type t, none, .fields ⟨l⟩, ⟨[]⟩⟩
def ce (v : Value) : Obj := ⟨.type "cell", none, .cell (some v), ⟨[]⟩⟩
/-! the tree of a list: the head, then those at odd places, those at even places -/
def od : List Obj → List Obj
  | x :: _ :: r => x :: od r
  | [x] => [x]
  | [] => []
def ev : List Obj → List Obj
  | _ :: y :: r => y :: ev r
  | [_] => []
  | [] => []
def bt : Nat → List Obj → PySem.W.BT
  | 0, _ => .nil
  | _ + 1, [] => .nil
  | d + 1, x :: r => .node x (bt d (od r)) (bt d (ev r))
end XLit

namespace K67Z
open PySem L2 XLit
open K67 (top)
/-! ### the objects that the top leaves -/
def z0 (P : Params) : List Obj := [
di [E P "__name__" 1 (S "builtins" 160), E P "__doc__" 2 (.builtin "builtins.__doc__:str#opaque"), E P "__package__" 3 (.builtin "builtins.__package__:str#opaque"), E P "__loader__" 4 (.builtin "builtins.__loader__:shared#opaque"), E P "__spec__" 5 (.builtin "builtins.__spec__#opaque"), E P "__build_class__" 6 (.builtin "__build_class__"), E P "__import__" 7 (.builtin "__import__"), E P "abs" 8 (.builtin "abs"), E P "all" 9 (.builtin "all"), E P "any" 10 (.builtin "any"), E P "ascii" 11 (.builtin "ascii"), E P "bin" 12 (.builtin "bin"), E P "breakpoint" 13 (.builtin "breakpoint"), E P "callable" 14 (.builtin "callable"), E P "chr" 15 (.builtin "chr"), E P "compile" 16 (.builtin "compile"), E P "delattr" 17 (.builtin "delattr"), E P "dir" 18 (.builtin "dir"), E P "divmod" 19 (.builtin "divmod"), E P "eval" 20 (.builtin "eval"), E P "exec" 21 (.builtin "exec"), E P "format" 22 (.builtin "format"), E P "getattr" 23 (.builtin "getattr"), E P "globals" 24 (.builtin "globals"), E P "hasattr" 25 (.builtin "hasattr"), E P "hash" 26 (.builtin "hash"), E P "hex" 27 (.builtin "hex"), E P "id" 28 (.builtin "id"), E P "input" 29 (.builtin "input"), E P "isinstance" 30 (.builtin "isinstance"), E P "issubclass" 31 (.builtin "issubclass"), E P "iter" 32 (.builtin "iter"), E P "aiter" 33 (.builtin "aiter"), E P "len" 34 (.builtin "len"), E P "locals" 35 (.builtin "locals"), E P "max" 36 (.builtin "max"), E P "min" 37 (.builtin "min"), E P "next" 38 (.builtin "next"), E P "anext" 39 (.builtin "anext"), E P "oct" 40 (.builtin "oct"), E P "ord" 41 (.builtin "ord"), E P "pow" 42 (.builtin "pow"), E P "print" 43 (.builtin "print"), E P "repr" 44 (.builtin "repr"), E P "round" 45 (.builtin "round"), E P "setattr" 46 (.builtin "setattr"), E P "sorted" 47 (.builtin "sorted"), E P "sum" 48 (.builtin "sum"), E P "vars" 49 (.builtin "vars"), E P "None" 50 V, E P "Ellipsis" 51 .ellipsis, E P "NotImplemented" 52 .notImplemented, E P "False" 53 (.bool false), E P "True" 54 (.bool true), E P "bool" 55 (.type "bool"), E P "memoryview" 56 (.type "memoryview"), E P "bytearray" 57 (.type "bytearray"), E P "bytes" 58 (.type "bytes"), E P "classmethod" 59 (.type "classmethod"), E P "complex" 60 (.type "complex"), E P "dict" 61 (.type "dict"), E P "enumerate" 62 (.type "enumerate"), E P "filter" 63 (.type "filter"), E P "float" 64 (.type "float"), E P "frozenset" 65 (.type "frozenset"), E P "property" 66 (.type "property"), E P "int" 67 (.type "int"), E P "list" 68 (.type "list"), E P "map" 69 (.type "map"), E P "object" 70 (.type "object"), E P "range" 71 (.type "range"), E P "reversed" 72 (.type "reversed"), E P "set" 73 (.type "set"), E P "slice" 74 (.type "slice"), E P "staticmethod" 75 (.type "staticmethod"), E P "str" 76 (.type "str"), E P "super" 77 (.type "super"), E P "tuple" 78 (.type "tuple"), E P "type" 79 (.type "type"), E P "zip" 80 (.type "zip"), E P "__debug__" 81 (.bool true), E P "BaseException" 82 (.type "BaseException"), E P "BaseExceptionGroup" 83 (.type "BaseExceptionGroup"), E P "Exception" 84 (.type "Exception"), E P "GeneratorExit" 85 (.type "GeneratorExit"), E P "KeyboardInterrupt" 86 (.type "KeyboardInterrupt"), E P "SystemExit" 87 (.type "SystemExit"), E P "ArithmeticError" 88 (.type "ArithmeticError"), E P "AssertionError" 89 (.type "AssertionError"), E P "AttributeError" 90 (.type "AttributeError"), E P "BufferError" 91 (.type "BufferError"), E P "EOFError" 92 (.type "EOFError"), E P "ImportError" 93 (.type "ImportError"), E P "LookupError" 94 (.type "LookupError"), E P "MemoryError" 95 (.type "MemoryError"), E P "NameError" 96 (.type "NameError"), E P "OSError" 97 (.type "OSError"), E P "ReferenceError" 98 (.type "ReferenceError"), E P "RuntimeError" 99 (.type "RuntimeError"), E P "StopAsyncIteration" 100 (.type "StopAsyncIteration"), E P "StopIteration" 101 (.type "StopIteration"), E P "SyntaxError" 102 (.type "SyntaxError"), E P "SystemError" 103 (.type "SystemError"), E P "TypeError" 104 (.type "TypeError"), E P "ValueError" 105 (.type "ValueError"), E P "Warning" 106 (.type "Warning"), E P "FloatingPointError" 107 (.type "FloatingPointError"), E P "OverflowError" 108 (.type "OverflowError"), E P "ZeroDivisionError" 109 (.type "ZeroDivisionError"), E P "BytesWarning" 110 (.type "BytesWarning"), E P "DeprecationWarning" 111 (.type "DeprecationWarning"), E P "EncodingWarning" 112 (.type "EncodingWarning"), E P "FutureWarning" 113 (.type "FutureWarning"), E P "ImportWarning" 114 (.type "ImportWarning"), E P "PendingDeprecationWarning" 115 (.type "PendingDeprecationWarning"), E P "ResourceWarning" 116 (.type "ResourceWarning"), E P "RuntimeWarning" 117 (.type "RuntimeWarning"), E P "SyntaxWarning" 118 (.type "SyntaxWarning"), E P "UnicodeWarning" 119 (.type "UnicodeWarning"), E P "UserWarning" 120 (.type "UserWarning"), E P "BlockingIOError" 121 (.type "BlockingIOError"), E P "ChildProcessError" 122 (.type "ChildProcessError"), E P "ConnectionError" 123 (.type "ConnectionError"), E P "FileExistsError" 124 (.type "FileExistsError"), E P "FileNotFoundError" 125 (.type "FileNotFoundError"), E P "InterruptedError" 126 (.type "InterruptedError"), E P "IsADirectoryError" 127 (.type "IsADirectoryError"), E P "NotADirectoryError" 128 (.type "NotADirectoryError"), E P "PermissionError" 129 (.type "PermissionError"), E P "ProcessLookupError" 130 (.type "ProcessLookupError"), E P "TimeoutError" 131 (.type "TimeoutError"), E P "IndentationError" 132 (.type "IndentationError"), E P "_IncompleteInputError" 133 (.type "_IncompleteInputError"), E P "IndexError" 134 (.type "IndexError"), E P "KeyError" 135 (.type "KeyError"), E P "ModuleNotFoundError" 136 (.type "ModuleNotFoundError"), E P "NotImplementedError" 137 (.type "NotImplementedError"), E P "PythonFinalizationError" 138 (.type "PythonFinalizationError"), E P "RecursionError" 139 (.type "RecursionError"), E P "UnboundLocalError" 140 (.type "UnboundLocalError"), E P "UnicodeError" 141 (.type "UnicodeError"), E P "BrokenPipeError" 142 (.type "BrokenPipeError"), E P "ConnectionAbortedError" 143 (.type "ConnectionAbortedError"), E P "ConnectionRefusedError" 144 (.type "ConnectionRefusedError"), E P "ConnectionResetError" 145 (.type "ConnectionResetError"), E P "TabError" 146 (.type "TabError"), E P "UnicodeDecodeError" 147 (.type "UnicodeDecodeError"), E P "UnicodeEncodeError" 148 (.type "UnicodeEncodeError"), E P "UnicodeTranslateError" 149 (.type "UnicodeTranslateError"), E P "ExceptionGroup" 150 (.type "ExceptionGroup"), E P "EnvironmentError" 151 (.type "OSError"), E P "IOError" 152 (.type "OSError"), E P "open" 153 (.builtin "open"), E P "quit" 154 (.builtin "builtins.quit#opaque"), E P "exit" 155 (.builtin "builtins.exit#opaque"), E P "copyright" 156 (.builtin "builtins.copyright#opaque"), E P "credits" 157 (.builtin "builtins.credits#opaque"), E P "license" 158 (.builtin "builtins.license#opaque"), E P "help" 159 (.builtin "builtins.help#opaque")] 159,
di [E P "builtins" 162 (R 4), E P "__main__" 163 (R 5)] 2,
⟨V, none, .dict ⟨[]⟩ 0, ⟨[]⟩⟩,
di [E P "__name__" 165 (S "law_optwright_k67_arguments_made" 1093), E P "__doc__" 166 V, E P "__package__" 167 V, E P "__loader__" 168 (.builtin "__main__.__loader__#opaque"), E P "__spec__" 169 V, E P "__annotations__" 170 (R 6), E P "__builtins__" 171 (R 4), E P "__file__" 173 (S "/claim/cut.py" 172), E P "__cached__" 174 V, E P "_wall" 193 (R 21), E P "OptError" 213 (R 31), E P "BadParser" 240 (R 53), E P "BadArgument" 267 (R 74), E P "Conflict" 294 (R 95), E P "CommandsTwice" 319 (R 116), E P "Exit" 350 (R 137), E P "SUPPRESS" 354 (S "==SUPPRESS==" 353), E P "is_integer" 361 (R 146), E P "is_row" 368 (R 153), E P "is_value" 374 (R 158), E P "copied" 380 (R 163), E P "is_kind" 387 (R 170), E P "kind_name" 394 (R 177), E P "WITH_WORDS" 400 (R 178), E P "WITH_CONST" 403 (R 179), E P "WITHOUT" 408 (R 180), E P "WORD_COUNTS" 413 (R 181), E P "LISTS" 417 (R 182), E P "ALWAYS" 421 (R 183), E P "VERSION_HELP" 423 (S "show program's version number and exit" 422), E P "Argument" 476 (R 207), E P "keys_of" 483 (R 218), E P "is_flag" 491 (R 225), E P "has_gap" 497 (R 230), E P "checked_flags" 503 (R 235), E P "named" 509 (R 240), E P "with_fellows" 515 (R 245), E P "fits_metavar" 521 (R 250), E P "check_words" 532 (R 257), E P "check_options" 538 (R 262), E P "default_of" 549 (R 269), E P "made_argument" 555 (R 274), E P "is_shown" 564 (R 281), E P "choices_of" 570 (R 286), E P "braced" 577 (R 293), E P "shown_names" 585 (R 300), E P "words_of" 597 (R 307), E P "with_words" 606 (R 314), E P "filled_in" 621 (R 321), E P "START" 625 (S "usage: " 624), E P "bare_part" 634 (R 328), E P "part_of" 643 (R 335), E P "marked_places" 649 (R 340), E P "parts_of" 655 (R 345), E P "taken" 668 (R 352), E P "usage_lines" 680 (R 359), E P "usage_text" 686 (R 364), E P "format_usage" 693 (R 371), E P "format_usage_usage" 694 (R 371), E P "section_like" 706 (R 378), E P "section_with" 712 (R 383), E P "take_over" 729 (R 390), E P "Exclusive" 774 (R 415), E P "Section" 826 (R 452), E P "LAYOUTS" 833 (R 457), E P "LETTERS" 835 (S "abcdefghijklmnopqrstuvwxyzABCDEFGHIJKLMNOPQRSTUVWXYZ" 834), E P "NO_SIGNS" 838 (S "abcdefghijklmnopqrstuvwxyzABCDEFGHIJKLMNOPQRSTUVWXYZ0123456789 \n=" 837), E P "is_signs" 844 (R 462), E P "Parser" 1092 (R 626), E P "_law_right_flags" 1104 (R 637), E P "_law_word_options" 1116 (R 644), E P "_law_right_options" 1127 (R 651), E P "_law_some_action" 1137 (R 658), E P "_law_copied" 1143 (R 663), E P "_law_draw" 1153 (R 670), E P "_law_start" 1160 (R 677), E P "_law_pick" 1168 (R 684), E P "_law_mixed" 1174 (R 689), E P "_law_same" 1180 (R 694), E P "_law_dest" 1186 (R 699), E P "_law_flags_due" 1192 (R 704), E P "_law_due" 1212 (R 711), E P "_law_told" 1220 (R 718), E P "law" 1239 (R 725)] 84,
⟨(.type "module"), (some 0), .plain, ⟨[]⟩⟩,
⟨(.type "module"), (some 3), .plain, ⟨[]⟩⟩,
di [] 0,
tp [],
ct [],
co "<module>" "<module>" 176 1 0 0 0 0 7 false 175 8 V V V 179,
⟨(.type "frame"), none, .plain, ⟨[(some (R 9)), (some (R 3)), (some (R 3)), none, (some (S "__main__" 164)), none, (some (R 0))]⟩⟩,
tp [],
ct [(1, 0, 20), (5, 0, 27), (7, 0, 41), (12, 0, 62), (17, 0, 83), (22, 0, 104), (26, 0, 125), (35, 0, 145), (37, 0, 152), (39, 0, 157), (43, 0, 162), (47, 0, 169), (53, 0, 176), (65, 0, 189), (91, 0, 217), (99, 0, 224), (101, 0, 229), (103, 0, 234), (111, 0, 239), (123, 0, 244), (129, 0, 249), (138, 0, 256), (152, 0, 261), (170, 0, 268), (180, 0, 273), (203, 0, 280), (205, 0, 285), (209, 0, 292), (211, 0, 299), (219, 0, 306), (235, 0, 313), (238, 0, 320), (253, 0, 327), (260, 0, 334), (265, 0, 339), (270, 0, 344), (283, 0, 351), (293, 0, 358), (303, 0, 363), (315, 0, 370), (319, 0, 377), (324, 0, 382), (326, 0, 389), (345, 0, 396), (355, 0, 425), (372, 0, 461), (376, 0, 468), (489, 0, 636), (497, 0, 643), (512, 0, 650), (530, 0, 657), (534, 0, 662), (538, 0, 669), (551, 0, 676), (553, 0, 683), (555, 0, 688), (558, 0, 693), (566, 0, 698), (576, 0, 703), (582, 0, 710), (597, 0, 717), (601, 0, 724)],
co "<module>" "<module>" 182 1 0 0 0 0 11 false 181 12 V V V 185,
⟨(.type "frame"), none, .plain, ⟨[(some (R 13)), (some (R 3)), (some (R 3)), none, (some (S "__main__" 164)), none, (some (R 0))]⟩⟩,
tp [],
ct [],
ts 190 ["k"],
tp [],
ft "_wall" "_wall" (top 0),
co "_wall" "_wall" 187 1 1 0 0 3 15 true 181 16 (R 17) (R 18) (R 19) 191,
fu "_wall" "_wall" (top 0) [] V V (S "__main__" 164) 20 V,
tp [(.type "ValueError")],
ob "builtin_function_or_method" [(.builtin "type.__prepare__"), (.type "type")],
di [E P "__module__" 203 (S "optwright.errors" 194), E P "__qualname__" 205 (S "OptError" 204), E P "__firstlineno__" 207 (.int 5 206), E P "__static_attributes__" 208 (R 29)] 4,
tp [],
ct [],
co "OptError" "OptError" 198 5 0 0 0 0 25 false 181 26 V V V 201,
⟨(.type "frame"), none, .plain, ⟨[(some (R 27)), (some (R 3)), (some (R 24)), none, (some (S "optwright.errors" 194)), none, (some (R 0))]⟩⟩,
tp [],
di [E P "__module__" 203 (S "optwright.errors" 194), E P "__firstlineno__" 207 (.int 5 206), E P "__static_attributes__" 208 (R 29), E P "__weakref__" 210 (R 32), E P "__doc__" 211 V] 3,
⟨(.type "type"), none, .cls ⟨"OptError", [(.type "ValueError")], [(R 31), (.type "ValueError"), (.type "Exception"), (.type "BaseException"), (.type "object")], 30, "OptError", true, [], [(R 53), (R 74), (R 95), (R 116), (R 137)], false, none, false⟩, ⟨[(some (R 22)), none, (some (S "OptError" 196)), (some (S "OptError" 204)), (some (.builtin "ValueError.__new__")), (some (.bool true))]⟩⟩,
ob "getset_descriptor" [(S "__weakref__" 209), (R 31), (.builtin "ExceptionGroup.__weakref__"), V],
ob "super" [(R 31), (R 31), (R 31)],
ob "builtin_function_or_method" [(.builtin "object.__init_subclass__"), (R 31)],
tp [(R 31)],
ob "builtin_function_or_method" [(.builtin "type.__prepare__"), (.type "type")],
di [E P "__module__" 221 (S "optwright.errors" 194), E P "__qualname__" 223 (S "BadParser" 222), E P "__firstlineno__" 225 (.int 7 224), E P "__init__" 234 (R 50), E P "__static_attributes__" 236 (R 51), E P "__classcell__" 237 (R 38)] 6,
ce (R 53),
tp []]
def z1 (P : Params) : List Obj := [
ct [(9, 4, 49)],
co "BadParser" "BadParser" 216 7 0 0 0 0 39 false 181 40 V V V 219,
⟨(.type "frame"), none, .plain, ⟨[(some (R 41)), (some (R 3)), (some (R 37)), none, (some (S "optwright.errors" 194)), none, (some (R 0))]⟩⟩,
tp [(R 38)],
ts 229 ["__class__"],
ct [],
ts 230 ["self", "why"],
tp [],
ft "__init__" "BadParser.__init__" (inClass (top 3) 0),
co "__init__" "BadParser.__init__" 226 9 2 0 0 3 44 true 181 45 (R 46) (R 47) (R 48) 232,
fu "__init__" "BadParser.__init__" (inClass (top 3) 0) [("__class__", 38)] V V (S "optwright.errors" 194) 49 (R 43),
ts 235 ["why"],
di [E P "__module__" 221 (S "optwright.errors" 194), E P "__firstlineno__" 225 (.int 7 224), E P "__init__" 234 (R 50), E P "__static_attributes__" 236 (R 51), E P "__doc__" 238 V] 3,
⟨(.type "type"), none, .cls ⟨"BadParser", [(R 31)], [(R 53), (R 31), (.type "ValueError"), (.type "Exception"), (.type "BaseException"), (.type "object")], 52, "BadParser", true, [], [], false, none, false⟩, ⟨[(some (R 35)), none, (some (S "BadParser" 214)), (some (S "BadParser" 222)), (some (.builtin "ValueError.__new__")), (some (.bool true))]⟩⟩,
ob "super" [(R 53), (R 53), (R 53)],
ob "builtin_function_or_method" [(.builtin "object.__init_subclass__"), (R 53)],
tp [(R 31)],
ob "builtin_function_or_method" [(.builtin "type.__prepare__"), (.type "type")],
di [E P "__module__" 248 (S "optwright.errors" 194), E P "__qualname__" 250 (S "BadArgument" 249), E P "__firstlineno__" 252 (.int 12 251), E P "__init__" 261 (R 71), E P "__static_attributes__" 263 (R 72), E P "__classcell__" 264 (R 59)] 6,
ce (R 74),
tp [],
ct [(14, 4, 70)],
co "BadArgument" "BadArgument" 243 12 0 0 0 0 60 false 181 61 V V V 246,
⟨(.type "frame"), none, .plain, ⟨[(some (R 62)), (some (R 3)), (some (R 58)), none, (some (S "optwright.errors" 194)), none, (some (R 0))]⟩⟩,
tp [(R 59)],
ts 256 ["__class__"],
ct [],
ts 257 ["self", "why"],
tp [],
ft "__init__" "BadArgument.__init__" (inClass (top 4) 0),
co "__init__" "BadArgument.__init__" 253 14 2 0 0 3 65 true 181 66 (R 67) (R 68) (R 69) 259,
fu "__init__" "BadArgument.__init__" (inClass (top 4) 0) [("__class__", 59)] V V (S "optwright.errors" 194) 70 (R 64),
ts 262 ["why"],
di [E P "__module__" 248 (S "optwright.errors" 194), E P "__firstlineno__" 252 (.int 12 251), E P "__init__" 261 (R 71), E P "__static_attributes__" 263 (R 72), E P "__doc__" 265 V] 3,
⟨(.type "type"), none, .cls ⟨"BadArgument", [(R 31)], [(R 74), (R 31), (.type "ValueError"), (.type "Exception"), (.type "BaseException"), (.type "object")], 73, "BadArgument", true, [], [], false, none, false⟩, ⟨[(some (R 56)), none, (some (S "BadArgument" 241)), (some (S "BadArgument" 249)), (some (.builtin "ValueError.__new__")), (some (.bool true))]⟩⟩,
ob "super" [(R 74), (R 74), (R 74)],
ob "builtin_function_or_method" [(.builtin "object.__init_subclass__"), (R 74)],
tp [(R 31)],
ob "builtin_function_or_method" [(.builtin "type.__prepare__"), (.type "type")],
di [E P "__module__" 275 (S "optwright.errors" 194), E P "__qualname__" 277 (S "Conflict" 276), E P "__firstlineno__" 279 (.int 17 278), E P "__init__" 288 (R 92), E P "__static_attributes__" 290 (R 93), E P "__classcell__" 291 (R 80)] 6]
def z2 (P : Params) : List Obj := [
ce (R 95),
tp [],
ct [(19, 4, 91)],
co "Conflict" "Conflict" 270 17 0 0 0 0 81 false 181 82 V V V 273,
⟨(.type "frame"), none, .plain, ⟨[(some (R 83)), (some (R 3)), (some (R 79)), none, (some (S "optwright.errors" 194)), none, (some (R 0))]⟩⟩,
tp [(R 80)],
ts 283 ["__class__"],
ct [],
ts 284 ["self", "flags"],
tp [],
ft "__init__" "Conflict.__init__" (inClass (top 5) 0),
co "__init__" "Conflict.__init__" 280 19 2 0 0 3 86 true 181 87 (R 88) (R 89) (R 90) 286,
fu "__init__" "Conflict.__init__" (inClass (top 5) 0) [("__class__", 80)] V V (S "optwright.errors" 194) 91 (R 85),
ts 289 ["flags"],
di [E P "__module__" 275 (S "optwright.errors" 194), E P "__firstlineno__" 279 (.int 17 278), E P "__init__" 288 (R 92), E P "__static_attributes__" 290 (R 93), E P "__doc__" 292 V] 3,
⟨(.type "type"), none, .cls ⟨"Conflict", [(R 31)], [(R 95), (R 31), (.type "ValueError"), (.type "Exception"), (.type "BaseException"), (.type "object")], 94, "Conflict", true, [], [], false, none, false⟩, ⟨[(some (R 77)), none, (some (S "Conflict" 268)), (some (S "Conflict" 276)), (some (.builtin "ValueError.__new__")), (some (.bool true))]⟩⟩,
ob "super" [(R 95), (R 95), (R 95)],
ob "builtin_function_or_method" [(.builtin "object.__init_subclass__"), (R 95)],
tp [(R 31)],
ob "builtin_function_or_method" [(.builtin "type.__prepare__"), (.type "type")],
di [E P "__module__" 302 (S "optwright.errors" 194), E P "__qualname__" 304 (S "CommandsTwice" 303), E P "__firstlineno__" 306 (.int 22 305), E P "__init__" 314 (R 113), E P "__static_attributes__" 315 (R 114), E P "__classcell__" 316 (R 101)] 6,
ce (R 116),
tp [],
ct [(24, 4, 112)],
co "CommandsTwice" "CommandsTwice" 297 22 0 0 0 0 102 false 181 103 V V V 300,
⟨(.type "frame"), none, .plain, ⟨[(some (R 104)), (some (R 3)), (some (R 100)), none, (some (S "optwright.errors" 194)), none, (some (R 0))]⟩⟩,
tp [(R 101)],
ts 310 ["__class__"],
ct [],
ts 311 ["self"],
tp [],
ft "__init__" "CommandsTwice.__init__" (inClass (top 6) 0),
co "__init__" "CommandsTwice.__init__" 307 24 1 0 0 3 107 true 181 108 (R 109) (R 110) (R 111) 312,
fu "__init__" "CommandsTwice.__init__" (inClass (top 6) 0) [("__class__", 101)] V V (S "optwright.errors" 194) 112 (R 106),
tp [],
di [E P "__module__" 302 (S "optwright.errors" 194), E P "__firstlineno__" 306 (.int 22 305), E P "__init__" 314 (R 113), E P "__static_attributes__" 315 (R 114), E P "__doc__" 317 V] 3,
⟨(.type "type"), none, .cls ⟨"CommandsTwice", [(R 31)], [(R 116), (R 31), (.type "ValueError"), (.type "Exception"), (.type "BaseException"), (.type "object")], 115, "CommandsTwice", true, [], [], false, none, false⟩, ⟨[(some (R 98)), none, (some (S "CommandsTwice" 295)), (some (S "CommandsTwice" 303)), (some (.builtin "ValueError.__new__")), (some (.bool true))]⟩⟩,
ob "super" [(R 116), (R 116), (R 116)],
ob "builtin_function_or_method" [(.builtin "object.__init_subclass__"), (R 116)],
tp [(R 31)]]
def z3 (P : Params) : List Obj := [
ob "builtin_function_or_method" [(.builtin "type.__prepare__"), (.type "type")],
di [E P "__module__" 327 (S "optwright.errors" 194), E P "__qualname__" 329 (S "Exit" 328), E P "__firstlineno__" 331 (.int 26 330), E P "__init__" 342 (R 134), E P "__static_attributes__" 346 (R 135), E P "__classcell__" 347 (R 122)] 6,
ce (R 137),
tp [],
ct [(28, 4, 133)],
co "Exit" "Exit" 322 26 0 0 0 0 123 false 181 124 V V V 325,
⟨(.type "frame"), none, .plain, ⟨[(some (R 125)), (some (R 3)), (some (R 121)), none, (some (S "optwright.errors" 194)), none, (some (R 0))]⟩⟩,
tp [(R 122)],
ts 335 ["__class__"],
ct [],
ts 336 ["self", "status", "out", "err"],
tp [],
ft "__init__" "Exit.__init__" (inClass (top 7) 0),
co "__init__" "Exit.__init__" 332 28 4 0 0 3 128 true 181 129 (R 130) (R 131) (R 132) 340,
fu "__init__" "Exit.__init__" (inClass (top 7) 0) [("__class__", 122)] V V (S "optwright.errors" 194) 133 (R 127),
ts 343 ["err", "out", "status"],
di [E P "__module__" 327 (S "optwright.errors" 194), E P "__firstlineno__" 331 (.int 26 330), E P "__init__" 342 (R 134), E P "__static_attributes__" 346 (R 135), E P "__doc__" 348 V] 3,
⟨(.type "type"), none, .cls ⟨"Exit", [(R 31)], [(R 137), (R 31), (.type "ValueError"), (.type "Exception"), (.type "BaseException"), (.type "object")], 136, "Exit", true, [], [], false, none, false⟩, ⟨[(some (R 119)), none, (some (S "Exit" 320)), (some (S "Exit" 328)), (some (.builtin "ValueError.__new__")), (some (.bool true))]⟩⟩,
ob "super" [(R 137), (R 137), (R 137)],
ob "builtin_function_or_method" [(.builtin "object.__init_subclass__"), (R 137)],
tp [],
ct [],
ts 358 ["thing"],
tp [],
ft "is_integer" "is_integer" (top 10),
co "is_integer" "is_integer" 355 35 1 0 0 3 140 true 181 141 (R 142) (R 143) (R 144) 359,
fu "is_integer" "is_integer" (top 10) [] V V (S "optwright.kinds" 351) 145 V,
tp [],
ct [],
ts 365 ["thing"],
tp [],
ft "is_row" "is_row" (top 11),
co "is_row" "is_row" 362 37 1 0 0 3 147 true 181 148 (R 149) (R 150) (R 151) 366,
fu "is_row" "is_row" (top 11) [] V V (S "optwright.kinds" 351) 152 V,
tp [],
ct [],
ft "is_value" "is_value" (top 12),
co "is_value" "is_value" 369 39 1 0 0 3 154 true 181 155 V V (R 156) 372,
fu "is_value" "is_value" (top 12) [] V V (S "optwright.kinds" 351) 157 V,
tp []]
def z4 (P : Params) : List Obj := [
ct [],
ft "copied" "copied" (top 13),
co "copied" "copied" 375 43 1 0 0 3 159 true 181 160 V V (R 161) 378,
fu "copied" "copied" (top 13) [] V V (S "optwright.kinds" 351) 162 V,
tp [],
ct [],
ts 384 ["thing"],
tp [],
ft "is_kind" "is_kind" (top 14),
co "is_kind" "is_kind" 381 47 1 0 0 3 164 true 181 165 (R 166) (R 167) (R 168) 385,
fu "is_kind" "is_kind" (top 14) [] V V (S "optwright.kinds" 351) 169 V,
tp [],
ct [],
ts 391 ["kind"],
tp [],
ft "kind_name" "kind_name" (top 15),
co "kind_name" "kind_name" 388 53 1 0 0 3 171 true 181 172 (R 173) (R 174) (R 175) 392,
fu "kind_name" "kind_name" (top 15) [] V V (S "optwright.kinds" 351) 176 V,
ts 397 ["store", "append", "extend"],
ts 401 ["store_const", "append_const"],
ts 404 ["store_true", "store_false", "count", "yes_no"],
ts 409 ["?", "*", "+", "..."],
ts 414 ["append", "append_const", "extend"],
ts 418 ["action", "dest", "help"],
tp [],
ob "builtin_function_or_method" [(.builtin "type.__prepare__"), (.type "type")],
di [E P "__module__" 431 (S "optwright.arguments" 395), E P "__qualname__" 433 (S "Argument" 432), E P "__firstlineno__" 435 (.int 65 434), E P "__init__" 445 (R 197), E P "twin" 453 (R 204), E P "__static_attributes__" 469 (R 205)] 6,
tp [],
ct [(67, 4, 196), (84, 4, 203)],
co "Argument" "Argument" 426 65 0 0 0 0 187 false 181 188 V V V 429,
⟨(.type "frame"), none, .plain, ⟨[(some (R 189)), (some (R 3)), (some (R 186)), none, (some (S "optwright.arguments" 395)), none, (some (R 0))]⟩⟩,
tp [],
ct [],
ts 439 ["self", "flags", "dest", "action"],
tp [],
ft "__init__" "Argument.__init__" (inClass (top 24) 0),
co "__init__" "Argument.__init__" 436 67 4 0 0 3 191 true 181 192 (R 193) (R 194) (R 195) 443,
fu "__init__" "Argument.__init__" (inClass (top 24) 0) [] V V (S "optwright.arguments" 395) 196 V,
tp [],
ct []]
def z5 (P : Params) : List Obj := [
ts 449 ["self", "made"],
tp [],
ft "twin" "Argument.twin" (inClass (top 24) 1),
co "twin" "Argument.twin" 446 84 1 0 0 3 198 true 181 199 (R 200) (R 201) (R 202) 451,
fu "twin" "Argument.twin" (inClass (top 24) 1) [] V V (S "optwright.arguments" 395) 203 V,
ts 454 ["action", "choices", "commands", "const", "default", "dest", "fellows", "flags", "help", "is_option", "kind", "metavar", "nargs", "required", "version"],
di [E P "__module__" 431 (S "optwright.arguments" 395), E P "__firstlineno__" 435 (.int 65 434), E P "__init__" 445 (R 197), E P "twin" 453 (R 204), E P "__static_attributes__" 469 (R 205), E P "__dict__" 471 (R 208), E P "__weakref__" 473 (R 209), E P "__doc__" 474 V] 4,
⟨(.type "type"), none, .cls ⟨"Argument", [(.type "object")], [(R 207), (.type "object")], 206, "Argument", true, [], [], false, none, false⟩, ⟨[none, none, (some (S "Argument" 424)), (some (S "Argument" 432)), (some (.builtin "object.__new__")), (some (.bool true))]⟩⟩,
ob "getset_descriptor" [(S "__dict__" 470), (R 207), (.builtin "function.__dict__"), (.builtin "function.__dict__#set")],
ob "getset_descriptor" [(S "__weakref__" 472), (R 207), (.builtin "ExceptionGroup.__weakref__"), V],
ob "super" [(R 207), (R 207), (R 207)],
ob "builtin_function_or_method" [(.builtin "object.__init_subclass__"), (R 207)],
tp [],
ct [],
ts 480 ["action"],
tp [],
ft "keys_of" "keys_of" (top 25),
co "keys_of" "keys_of" 477 91 1 0 0 3 212 true 181 213 (R 214) (R 215) (R 216) 481,
fu "keys_of" "keys_of" (top 25) [] V V (S "optwright.arguments" 395) 217 V,
tp [],
ct [],
ts 487 ["text", "prefix_chars"],
tp [],
ft "is_flag" "is_flag" (top 26),
co "is_flag" "is_flag" 484 99 2 0 0 3 219 true 181 220 (R 221) (R 222) (R 223) 489,
fu "is_flag" "is_flag" (top 26) [] V V (S "optwright.arguments" 395) 224 V,
tp [],
ct [],
ft "has_gap" "has_gap" (top 27),
co "has_gap" "has_gap" 492 101 1 0 0 3 226 true 181 227 V V (R 228) 495,
fu "has_gap" "has_gap" (top 27) [] V V (S "optwright.arguments" 395) 229 V,
tp [],
ct [],
ft "checked_flags" "checked_flags" (top 28),
co "checked_flags" "checked_flags" 498 103 2 0 0 3 231 true 181 232 V V (R 233) 501,
fu "checked_flags" "checked_flags" (top 28) [] V V (S "optwright.arguments" 395) 234 V,
tp [],
ct [],
ft "named" "named" (top 29),
co "named" "named" 504 111 4 0 0 3 236 true 181 237 V V (R 238) 507]
def z6 (P : Params) : List Obj := [
fu "named" "named" (top 29) [] V V (S "optwright.arguments" 395) 239 V,
tp [],
ct [],
ft "with_fellows" "with_fellows" (top 30),
co "with_fellows" "with_fellows" 510 123 2 0 0 3 241 true 181 242 V V (R 243) 513,
fu "with_fellows" "with_fellows" (top 30) [] V V (S "optwright.arguments" 395) 244 V,
tp [],
ct [],
ft "fits_metavar" "fits_metavar" (top 31),
co "fits_metavar" "fits_metavar" 516 129 2 0 0 3 246 true 181 247 V V (R 248) 519,
fu "fits_metavar" "fits_metavar" (top 31) [] V V (S "optwright.arguments" 395) 249 V,
tp [],
ct [],
ts 525 ["action", "options", "nargs", "fits", "choices"],
tp [],
ft "check_words" "check_words" (top 32),
co "check_words" "check_words" 522 138 2 0 0 3 251 true 181 252 (R 253) (R 254) (R 255) 530,
fu "check_words" "check_words" (top 32) [] V V (S "optwright.arguments" 395) 256 V,
tp [],
ct [],
ft "check_options" "check_options" (top 33),
co "check_options" "check_options" 533 152 3 0 0 3 258 true 181 259 V V (R 260) 536,
fu "check_options" "check_options" (top 33) [] V V (S "optwright.arguments" 395) 261 V,
tp [],
ct [],
ts 542 ["action", "dest", "options", "defaults", "argument_default"],
tp [],
ft "default_of" "default_of" (top 34),
co "default_of" "default_of" 539 170 5 0 0 3 263 true 181 264 (R 265) (R 266) (R 267) 547,
fu "default_of" "default_of" (top 34) [] V V (S "optwright.arguments" 395) 268 V,
tp [],
ct [],
ft "made_argument" "made_argument" (top 35),
co "made_argument" "made_argument" 550 180 4 0 0 3 270 true 181 271 V V (R 272) 553,
fu "made_argument" "made_argument" (top 35) [] V V (S "optwright.arguments" 395) 273 V,
tp [],
ct [],
ts 561 ["argument"],
tp [],
ft "is_shown" "is_shown" (top 37)]
def z7 (P : Params) : List Obj := [
co "is_shown" "is_shown" 558 203 1 0 0 3 275 true 181 276 (R 277) (R 278) (R 279) 562,
fu "is_shown" "is_shown" (top 37) [] V V (S "optwright.wording" 556) 280 V,
tp [],
ct [],
ft "choices_of" "choices_of" (top 38),
co "choices_of" "choices_of" 565 205 1 0 0 3 282 true 181 283 V V (R 284) 568,
fu "choices_of" "choices_of" (top 38) [] V V (S "optwright.wording" 556) 285 V,
tp [],
ct [],
ts 574 ["argument"],
tp [],
ft "braced" "braced" (top 39),
co "braced" "braced" 571 209 1 0 0 3 287 true 181 288 (R 289) (R 290) (R 291) 575,
fu "braced" "braced" (top 39) [] V V (S "optwright.wording" 556) 292 V,
tp [],
ct [],
ts 581 ["argument", "layout"],
tp [],
ft "shown_names" "shown_names" (top 40),
co "shown_names" "shown_names" 578 211 2 0 0 3 294 true 181 295 (R 296) (R 297) (R 298) 583,
fu "shown_names" "shown_names" (top 40) [] V V (S "optwright.wording" 556) 299 V,
tp [],
ct [],
ts 589 ["argument", "layout", "names", "nargs", "first", "last"],
tp [],
ft "words_of" "words_of" (top 41),
co "words_of" "words_of" 586 219 2 0 0 3 301 true 181 302 (R 303) (R 304) (R 305) 595,
fu "words_of" "words_of" (top 41) [] V V (S "optwright.wording" 556) 306 V,
tp [],
ct [],
ts 601 ["shown", "argument", "layout"],
tp [],
ft "with_words" "with_words" (top 42),
co "with_words" "with_words" 598 235 3 0 0 3 308 true 181 309 (R 310) (R 311) (R 312) 604,
fu "with_words" "with_words" (top 42) [] V V (S "optwright.wording" 556) 313 V,
tp [],
ct [],
ts 612 ["text", "values", "found", "at", "start", "end", "name"],
tp [],
ft "filled_in" "filled_in" (top 44)]
def z8 (P : Params) : List Obj := [
co "filled_in" "filled_in" 609 238 2 0 0 3 315 true 181 316 (R 317) (R 318) (R 319) 619,
fu "filled_in" "filled_in" (top 44) [] V V (S "optwright.filling" 607) 320 V,
tp [],
ct [],
ts 629 ["argument", "layout", "part"],
tp [],
ft "bare_part" "bare_part" (top 47),
co "bare_part" "bare_part" 626 253 2 0 0 3 322 true 181 323 (R 324) (R 325) (R 326) 632,
fu "bare_part" "bare_part" (top 47) [] V V (S "optwright.usage" 622) 327 V,
tp [],
ct [],
ts 638 ["argument", "layout", "part"],
tp [],
ft "part_of" "part_of" (top 48),
co "part_of" "part_of" 635 260 2 0 0 3 329 true 181 330 (R 331) (R 332) (R 333) 641,
fu "part_of" "part_of" (top 48) [] V V (S "optwright.usage" 622) 334 V,
tp [],
ct [],
ft "marked_places" "marked_places" (top 49),
co "marked_places" "marked_places" 644 265 2 0 0 3 336 true 181 337 V V (R 338) 647,
fu "marked_places" "marked_places" (top 49) [] V V (S "optwright.usage" 622) 339 V,
tp [],
ct [],
ft "parts_of" "parts_of" (top 50),
co "parts_of" "parts_of" 650 270 3 0 0 3 341 true 181 342 V V (R 343) 653,
fu "parts_of" "parts_of" (top 50) [] V V (S "optwright.usage" 622) 344 V,
tp [],
ct [],
ts 659 ["first", "parts", "indent", "size", "found", "line", "part"],
tp [],
ft "taken" "taken" (top 51),
co "taken" "taken" 656 283 4 0 0 3 346 true 181 347 (R 348) (R 349) (R 350) 666,
fu "taken" "taken" (top 51) [] V V (S "optwright.usage" 622) 351 V,
tp [],
ct [],
ts 672 ["start", "options", "positionals", "size", "indent", "lines"],
tp [],
ft "usage_lines" "usage_lines" (top 52),
co "usage_lines" "usage_lines" 669 293 4 0 0 3 353 true 181 354 (R 355) (R 356) (R 357) 678,
fu "usage_lines" "usage_lines" (top 52) [] V V (S "optwright.usage" 622) 358 V]
def z9 (P : Params) : List Obj := [
tp [],
ct [],
ft "usage_text" "usage_text" (top 53),
co "usage_text" "usage_text" 681 303 1 0 0 3 360 true 181 361 V V (R 362) 684,
fu "usage_text" "usage_text" (top 53) [] V V (S "optwright.usage" 622) 363 V,
tp [],
ct [],
ts 690 ["parser"],
tp [],
ft "format_usage" "format_usage" (top 54),
co "format_usage" "format_usage" 687 315 1 0 0 3 365 true 181 366 (R 367) (R 368) (R 369) 691,
fu "format_usage" "format_usage" (top 54) [] V V (S "optwright.usage" 622) 370 V,
tp [],
ct [],
ts 700 ["parser", "title", "description", "section"],
tp [],
ft "section_like" "section_like" (top 57),
co "section_like" "section_like" 697 319 3 0 0 3 372 true 181 373 (R 374) (R 375) (R 376) 704,
fu "section_like" "section_like" (top 57) [] V V (S "optwright.parents" 695) 377 V,
tp [],
ct [],
ft "section_with" "section_with" (top 58),
co "section_with" "section_with" 707 324 2 0 0 3 379 true 181 380 V V (R 381) 710,
fu "section_with" "section_with" (top 58) [] V V (S "optwright.parents" 695) 382 V,
tp [],
ct [],
ts 716 ["parser", "parent", "section", "made", "group", "title", "argument", "exclusive", "old", "new", "twin"],
tp [],
ft "take_over" "take_over" (top 59),
co "take_over" "take_over" 713 326 2 0 0 3 384 true 181 385 (R 386) (R 387) (R 388) 727,
fu "take_over" "take_over" (top 59) [] V V (S "optwright.parents" 695) 389 V,
tp [],
ob "builtin_function_or_method" [(.builtin "type.__prepare__"), (.type "type")],
di [E P "__module__" 739 (S "optwright.sections" 730), E P "__qualname__" 741 (S "Exclusive" 740), E P "__firstlineno__" 743 (.int 345 742), E P "__init__" 753 (R 404), E P "add_argument" 762 (R 412), E P "__static_attributes__" 767 (R 413)] 6,
tp [],
ct [(347, 4, 403), (353, 4, 411)],
co "Exclusive" "Exclusive" 734 345 0 0 0 0 394 false 181 395 V V V 737,
⟨(.type "frame"), none, .plain, ⟨[(some (R 396)), (some (R 3)), (some (R 393)), none, (some (S "optwright.sections" 730)), none, (some (R 0))]⟩⟩,
tp [],
ct []]
def z10 (P : Params) : List Obj := [
ts 747 ["self", "home", "section", "required"],
tp [],
ft "__init__" "Exclusive.__init__" (inClass (top 61) 0),
co "__init__" "Exclusive.__init__" 744 347 4 0 0 3 398 true 181 399 (R 400) (R 401) (R 402) 751,
fu "__init__" "Exclusive.__init__" (inClass (top 61) 0) [] V V (S "optwright.sections" 730) 403 V,
tp [V],
tp [],
ct [],
ts 757 ["self", "flags", "options"],
tp [],
ft "add_argument" "Exclusive.add_argument" (inClass (top 61) 1),
co "add_argument" "Exclusive.add_argument" 754 353 3 0 0 3 406 true 181 407 (R 408) (R 409) (R 410) 760,
fu "add_argument" "Exclusive.add_argument" (inClass (top 61) 1) [] (R 405) V (S "optwright.sections" 730) 411 V,
ts 763 ["home", "members", "required", "section"],
di [E P "__module__" 739 (S "optwright.sections" 730), E P "__firstlineno__" 743 (.int 345 742), E P "__init__" 753 (R 404), E P "add_argument" 762 (R 412), E P "__static_attributes__" 767 (R 413), E P "__dict__" 769 (R 416), E P "__weakref__" 771 (R 417), E P "__doc__" 772 V] 4,
⟨(.type "type"), none, .cls ⟨"Exclusive", [(.type "object")], [(R 415), (.type "object")], 414, "Exclusive", true, [], [], false, none, false⟩, ⟨[none, none, (some (S "Exclusive" 732)), (some (S "Exclusive" 740)), (some (.builtin "object.__new__")), (some (.bool true))]⟩⟩,
ob "getset_descriptor" [(S "__dict__" 768), (R 415), (.builtin "function.__dict__"), (.builtin "function.__dict__#set")],
ob "getset_descriptor" [(S "__weakref__" 770), (R 415), (.builtin "ExceptionGroup.__weakref__"), V],
ob "super" [(R 415), (R 415), (R 415)],
ob "builtin_function_or_method" [(.builtin "object.__init_subclass__"), (R 415)],
tp [],
ob "builtin_function_or_method" [(.builtin "type.__prepare__"), (.type "type")],
di [E P "__module__" 782 (S "optwright.sections" 730), E P "__qualname__" 784 (S "Section" 783), E P "__firstlineno__" 786 (.int 355 785), E P "__init__" 796 (R 433), E P "add_argument" 805 (R 441), E P "add_mutually_exclusive_group" 814 (R 449), E P "__static_attributes__" 819 (R 450)] 7,
tp [],
ct [(357, 4, 432), (363, 4, 440), (366, 4, 448)],
co "Section" "Section" 777 355 0 0 0 0 423 false 181 424 V V V 780,
⟨(.type "frame"), none, .plain, ⟨[(some (R 425)), (some (R 3)), (some (R 422)), none, (some (S "optwright.sections" 730)), none, (some (R 0))]⟩⟩,
tp [],
ct [],
ts 790 ["self", "home", "title", "description"],
tp [],
ft "__init__" "Section.__init__" (inClass (top 62) 0),
co "__init__" "Section.__init__" 787 357 4 0 0 3 427 true 181 428 (R 429) (R 430) (R 431) 794,
fu "__init__" "Section.__init__" (inClass (top 62) 0) [] V V (S "optwright.sections" 730) 432 V,
tp [V],
tp [],
ct [],
ts 800 ["self", "flags", "options"],
tp [],
ft "add_argument" "Section.add_argument" (inClass (top 62) 1)]
def z11 (P : Params) : List Obj := [
co "add_argument" "Section.add_argument" 797 363 3 0 0 3 435 true 181 436 (R 437) (R 438) (R 439) 803,
fu "add_argument" "Section.add_argument" (inClass (top 62) 1) [] (R 434) V (S "optwright.sections" 730) 440 V,
di [E P "required" 806 (.bool false)] 1,
tp [],
ct [],
ts 810 ["self", "required"],
tp [],
ft "add_mutually_exclusive_group" "Section.add_mutually_exclusive_group" (inClass (top 62) 2),
co "add_mutually_exclusive_group" "Section.add_mutually_exclusive_group" 807 366 1 0 1 3 443 true 181 444 (R 445) (R 446) (R 447) 812,
fu "add_mutually_exclusive_group" "Section.add_mutually_exclusive_group" (inClass (top 62) 2) [] V (R 442) (S "optwright.sections" 730) 448 V,
ts 815 ["description", "home", "members", "title"],
di [E P "__module__" 782 (S "optwright.sections" 730), E P "__firstlineno__" 786 (.int 355 785), E P "__init__" 796 (R 433), E P "add_argument" 805 (R 441), E P "add_mutually_exclusive_group" 814 (R 449), E P "__static_attributes__" 819 (R 450), E P "__dict__" 821 (R 453), E P "__weakref__" 823 (R 454), E P "__doc__" 824 V] 4,
⟨(.type "type"), none, .cls ⟨"Section", [(.type "object")], [(R 452), (.type "object")], 451, "Section", true, [], [], false, none, false⟩, ⟨[none, none, (some (S "Section" 775)), (some (S "Section" 783)), (some (.builtin "object.__new__")), (some (.bool true))]⟩⟩,
ob "getset_descriptor" [(S "__dict__" 820), (R 452), (.builtin "function.__dict__"), (.builtin "function.__dict__#set")],
ob "getset_descriptor" [(S "__weakref__" 822), (R 452), (.builtin "ExceptionGroup.__weakref__"), V],
ob "super" [(R 452), (R 452), (R 452)],
ob "builtin_function_or_method" [(.builtin "object.__init_subclass__"), (R 452)],
ts 829 ["raw", "rawtext", "defaults", "kinds"],
tp [],
ct [],
ft "is_signs" "is_signs" (top 67),
co "is_signs" "is_signs" 839 372 1 0 0 3 458 true 181 459 V V (R 460) 842,
fu "is_signs" "is_signs" (top 67) [] V V (S "optwright.parsers" 827) 461 V,
tp [],
ob "builtin_function_or_method" [(.builtin "type.__prepare__"), (.type "type")],
di [E P "__module__" 852 (S "optwright.parsers" 827), E P "__qualname__" 854 (S "Parser" 853), E P "__firstlineno__" 856 (.int 376 855), E P "__init__" 881 (R 478), E P "twin" 888 (R 485), E P "add_argument" 897 (R 493), E P "add_to" 909 (R 500), E P "join" 915 (R 505), E P "take_away" 921 (R 510), E P "add_argument_group" 931 (R 518), E P "add_mutually_exclusive_group" 940 (R 526), E P "add_exclusive" 950 (R 533), E P "add_subparsers" 971 (R 541), E P "take_commands" 980 (R 548), E P "set_defaults" 988 (R 555), E P "get_default" 996 (R 562), E P "parse_args" 1005 (R 570), E P "parse_known_args" 1014 (R 578), E P "parse_intermixed_args" 1023 (R 586), E P "parse_known_intermixed_args" 1032 (R 594), E P "format_usage" 1039 (R 601), E P "format_help" 1046 (R 608), E P "error" 1054 (R 615), E P "end" 1065 (R 623), E P "__static_attributes__" 1085 (R 624)] 25,
tp [],
ct [(378, 4, 477), (404, 4, 484), (407, 4, 492), (410, 4, 499), (415, 4, 504), (429, 4, 509), (437, 4, 517), (442, 4, 525), (445, 4, 532), (450, 4, 540), (453, 4, 547), (459, 4, 554), (462, 4, 561), (465, 4, 569), (468, 4, 577), (471, 4, 585), (474, 4, 593), (477, 4, 600), (480, 4, 607), (483, 4, 614), (486, 4, 622)],
co "Parser" "Parser" 847 376 0 0 0 0 466 false 181 467 V V V 850,
⟨(.type "frame"), none, .plain, ⟨[(some (R 468)), (some (R 3)), (some (R 465)), none, (some (S "optwright.parsers" 827)), none, (some (R 0))]⟩⟩,
tp [],
tp [],
ts 857 ["program"],
di [E P "usage" 862 V, E P "description" 863 V, E P "epilog" 864 V, E P "parents" 865 (R 470), E P "layout" 866 (R 471), E P "width" 867 (.int 78 858), E P "prefix_chars" 868 (S "-" 859), E P "fromfile_prefix_chars" 869 (S "" 860), E P "files" 870 V, E P "argument_default" 871 V, E P "conflict_handler" 872 (S "error" 861), E P "add_help" 873 (.bool true), E P "allow_abbrev" 874 (.bool true), E P "exit_on_error" 875 (.bool true)] 14,
tp [],
ct [],
ft "__init__" "Parser.__init__" (inClass (top 68) 0),
co "__init__" "Parser.__init__" 876 378 2 0 14 3 474 true 181 475 V V (R 476) 879,
fu "__init__" "Parser.__init__" (inClass (top 68) 0) [] (R 472) (R 473) (S "optwright.parsers" 827) 477 V,
tp []]
def z12 (P : Params) : List Obj := [
ct [],
ts 885 ["self"],
tp [],
ft "twin" "Parser.twin" (inClass (top 68) 1),
co "twin" "Parser.twin" 882 404 1 0 0 3 479 true 181 480 (R 481) (R 482) (R 483) 886,
fu "twin" "Parser.twin" (inClass (top 68) 1) [] V V (S "optwright.parsers" 827) 484 V,
tp [V],
tp [],
ct [],
ts 892 ["self", "flags", "options"],
tp [],
ft "add_argument" "Parser.add_argument" (inClass (top 68) 2),
co "add_argument" "Parser.add_argument" 889 407 3 0 0 3 487 true 181 488 (R 489) (R 490) (R 491) 895,
fu "add_argument" "Parser.add_argument" (inClass (top 68) 2) [] (R 486) V (S "optwright.parsers" 827) 492 V,
tp [],
ct [],
ts 901 ["self", "section", "exclusive", "flags", "options", "argument"],
tp [],
ft "add_to" "Parser.add_to" (inClass (top 68) 3),
co "add_to" "Parser.add_to" 898 410 5 0 0 3 494 true 181 495 (R 496) (R 497) (R 498) 907,
fu "add_to" "Parser.add_to" (inClass (top 68) 3) [] V V (S "optwright.parsers" 827) 499 V,
tp [],
ct [],
ft "join" "Parser.join" (inClass (top 68) 4),
co "join" "Parser.join" 910 415 4 0 0 3 501 true 181 502 V V (R 503) 913,
fu "join" "Parser.join" (inClass (top 68) 4) [] V V (S "optwright.parsers" 827) 504 V,
tp [],
ct [],
ft "take_away" "Parser.take_away" (inClass (top 68) 5),
co "take_away" "Parser.take_away" 916 429 2 0 0 3 506 true 181 507 V V (R 508) 919,
fu "take_away" "Parser.take_away" (inClass (top 68) 5) [] V V (S "optwright.parsers" 827) 509 V,
tp [V, V],
tp [],
ct [],
ts 925 ["self", "title", "description", "made"],
tp [],
ft "add_argument_group" "Parser.add_argument_group" (inClass (top 68) 6),
co "add_argument_group" "Parser.add_argument_group" 922 437 3 0 0 3 512 true 181 513 (R 514) (R 515) (R 516) 929,
fu "add_argument_group" "Parser.add_argument_group" (inClass (top 68) 6) [] (R 511) V (S "optwright.parsers" 827) 517 V,
di [E P "required" 932 (.bool false)] 1]
def z13 (P : Params) : List Obj := [
tp [],
ct [],
ts 936 ["self", "required"],
tp [],
ft "add_mutually_exclusive_group" "Parser.add_mutually_exclusive_group" (inClass (top 68) 7),
co "add_mutually_exclusive_group" "Parser.add_mutually_exclusive_group" 933 442 1 0 1 3 520 true 181 521 (R 522) (R 523) (R 524) 938,
fu "add_mutually_exclusive_group" "Parser.add_mutually_exclusive_group" (inClass (top 68) 7) [] V (R 519) (S "optwright.parsers" 827) 525 V,
tp [],
ct [],
ts 944 ["self", "section", "required", "made"],
tp [],
ft "add_exclusive" "Parser.add_exclusive" (inClass (top 68) 8),
co "add_exclusive" "Parser.add_exclusive" 941 445 3 0 0 3 527 true 181 528 (R 529) (R 530) (R 531) 948,
fu "add_exclusive" "Parser.add_exclusive" (inClass (top 68) 8) [] V V (S "optwright.parsers" 827) 532 V,
di [E P "title" 951 V, E P "description" 952 V, E P "prog" 953 V, E P "dest" 954 (S "==SUPPRESS==" 353), E P "required" 955 (.bool false), E P "about" 956 V, E P "metavar" 957 V] 7,
tp [],
ct [],
ts 961 ["self", "title", "description", "prog", "dest", "required", "about", "metavar"],
tp [],
ft "add_subparsers" "Parser.add_subparsers" (inClass (top 68) 9),
co "add_subparsers" "Parser.add_subparsers" 958 450 1 0 7 3 535 true 181 536 (R 537) (R 538) (R 539) 969,
fu "add_subparsers" "Parser.add_subparsers" (inClass (top 68) 9) [] V (R 534) (S "optwright.parsers" 827) 540 V,
tp [],
ct [],
ts 975 ["self", "argument", "commands"],
tp [],
ft "take_commands" "Parser.take_commands" (inClass (top 68) 10),
co "take_commands" "Parser.take_commands" 972 453 3 0 0 3 542 true 181 543 (R 544) (R 545) (R 546) 978,
fu "take_commands" "Parser.take_commands" (inClass (top 68) 10) [] V V (S "optwright.parsers" 827) 547 V,
tp [],
ct [],
ts 984 ["self", "pairs"],
tp [],
ft "set_defaults" "Parser.set_defaults" (inClass (top 68) 11),
co "set_defaults" "Parser.set_defaults" 981 459 2 0 0 3 549 true 181 550 (R 551) (R 552) (R 553) 986,
fu "set_defaults" "Parser.set_defaults" (inClass (top 68) 11) [] V V (S "optwright.parsers" 827) 554 V,
tp [],
ct [],
ts 992 ["self", "name"],
tp []]
def z14 (P : Params) : List Obj := [
ft "get_default" "Parser.get_default" (inClass (top 68) 12),
co "get_default" "Parser.get_default" 989 462 2 0 0 3 556 true 181 557 (R 558) (R 559) (R 560) 994,
fu "get_default" "Parser.get_default" (inClass (top 68) 12) [] V V (S "optwright.parsers" 827) 561 V,
tp [V],
tp [],
ct [],
ts 1000 ["self", "words", "names"],
tp [],
ft "parse_args" "Parser.parse_args" (inClass (top 68) 13),
co "parse_args" "Parser.parse_args" 997 465 3 0 0 3 564 true 181 565 (R 566) (R 567) (R 568) 1003,
fu "parse_args" "Parser.parse_args" (inClass (top 68) 13) [] (R 563) V (S "optwright.parsers" 827) 569 V,
tp [V],
tp [],
ct [],
ts 1009 ["self", "words", "names"],
tp [],
ft "parse_known_args" "Parser.parse_known_args" (inClass (top 68) 14),
co "parse_known_args" "Parser.parse_known_args" 1006 468 3 0 0 3 572 true 181 573 (R 574) (R 575) (R 576) 1012,
fu "parse_known_args" "Parser.parse_known_args" (inClass (top 68) 14) [] (R 571) V (S "optwright.parsers" 827) 577 V,
tp [V],
tp [],
ct [],
ts 1018 ["self", "words", "names"],
tp [],
ft "parse_intermixed_args" "Parser.parse_intermixed_args" (inClass (top 68) 15),
co "parse_intermixed_args" "Parser.parse_intermixed_args" 1015 471 3 0 0 3 580 true 181 581 (R 582) (R 583) (R 584) 1021,
fu "parse_intermixed_args" "Parser.parse_intermixed_args" (inClass (top 68) 15) [] (R 579) V (S "optwright.parsers" 827) 585 V,
tp [V],
tp [],
ct [],
ts 1027 ["self", "words", "names"],
tp [],
ft "parse_known_intermixed_args" "Parser.parse_known_intermixed_args" (inClass (top 68) 16),
co "parse_known_intermixed_args" "Parser.parse_known_intermixed_args" 1024 474 3 0 0 3 588 true 181 589 (R 590) (R 591) (R 592) 1030,
fu "parse_known_intermixed_args" "Parser.parse_known_intermixed_args" (inClass (top 68) 16) [] (R 587) V (S "optwright.parsers" 827) 593 V,
tp [],
ct [],
ts 1036 ["self"],
tp [],
ft "format_usage" "Parser.format_usage" (inClass (top 68) 17)]
def z15 (P : Params) : List Obj := [
co "format_usage" "Parser.format_usage" 1033 477 1 0 0 3 595 true 181 596 (R 597) (R 598) (R 599) 1037,
fu "format_usage" "Parser.format_usage" (inClass (top 68) 17) [] V V (S "optwright.parsers" 827) 600 V,
tp [],
ct [],
ts 1043 ["self"],
tp [],
ft "format_help" "Parser.format_help" (inClass (top 68) 18),
co "format_help" "Parser.format_help" 1040 480 1 0 0 3 602 true 181 603 (R 604) (R 605) (R 606) 1044,
fu "format_help" "Parser.format_help" (inClass (top 68) 18) [] V V (S "optwright.parsers" 827) 607 V,
tp [],
ct [],
ts 1050 ["self", "text"],
tp [],
ft "error" "Parser.error" (inClass (top 68) 19),
co "error" "Parser.error" 1047 483 2 0 0 3 609 true 181 610 (R 611) (R 612) (R 613) 1052,
fu "error" "Parser.error" (inClass (top 68) 19) [] V V (S "optwright.parsers" 827) 614 V,
tp [(.int 0 1055), (S "" 1056)],
tp [],
ct [],
ts 1060 ["self", "status", "err"],
tp [],
ft "end" "Parser.end" (inClass (top 68) 20),
co "end" "Parser.end" 1057 486 3 0 0 3 617 true 181 618 (R 619) (R 620) (R 621) 1063,
fu "end" "Parser.end" (inClass (top 68) 20) [] (R 616) V (S "optwright.parsers" 827) 622 V,
ts 1066 ["allow_abbrev", "argument_default", "arguments", "commands_argument", "conflict_handler", "defaults", "description", "epilog", "exclusives", "exit_on_error", "file_signs", "files", "flags", "layout", "prefix_chars", "prog", "sections", "usage", "width"],
di [E P "__module__" 852 (S "optwright.parsers" 827), E P "__firstlineno__" 856 (.int 376 855), E P "__init__" 881 (R 478), E P "twin" 888 (R 485), E P "add_argument" 897 (R 493), E P "add_to" 909 (R 500), E P "join" 915 (R 505), E P "take_away" 921 (R 510), E P "add_argument_group" 931 (R 518), E P "add_mutually_exclusive_group" 940 (R 526), E P "add_exclusive" 950 (R 533), E P "add_subparsers" 971 (R 541), E P "take_commands" 980 (R 548), E P "set_defaults" 988 (R 555), E P "get_default" 996 (R 562), E P "parse_args" 1005 (R 570), E P "parse_known_args" 1014 (R 578), E P "parse_intermixed_args" 1023 (R 586), E P "parse_known_intermixed_args" 1032 (R 594), E P "format_usage" 1039 (R 601), E P "format_help" 1046 (R 608), E P "error" 1054 (R 615), E P "end" 1065 (R 623), E P "__static_attributes__" 1085 (R 624), E P "__dict__" 1087 (R 627), E P "__weakref__" 1089 (R 628), E P "__doc__" 1090 V] 4,
⟨(.type "type"), none, .cls ⟨"Parser", [(.type "object")], [(R 626), (.type "object")], 625, "Parser", true, [], [], false, none, false⟩, ⟨[none, none, (some (S "Parser" 845)), (some (S "Parser" 853)), (some (.builtin "object.__new__")), (some (.bool true))]⟩⟩,
ob "getset_descriptor" [(S "__dict__" 1086), (R 626), (.builtin "function.__dict__"), (.builtin "function.__dict__#set")],
ob "getset_descriptor" [(S "__weakref__" 1088), (R 626), (.builtin "ExceptionGroup.__weakref__"), V],
ob "super" [(R 626), (R 626), (R 626)],
ob "builtin_function_or_method" [(.builtin "object.__init_subclass__"), (R 626)],
tp [],
ct [],
ts 1098 ["_law_stream", "_law_signs", "_law_one", "_law_some"],
tp [],
ft "_law_right_flags" "_law_right_flags" (top 70),
co "_law_right_flags" "_law_right_flags" 1095 489 2 0 0 3 631 true 181 632 (R 633) (R 634) (R 635) 1102,
fu "_law_right_flags" "_law_right_flags" (top 70) [] V V (S "law_optwright_k67_arguments_made" 1093) 636 V,
tp [],
ct []]
def z16 (P : Params) : List Obj := [
ts 1108 ["_law_stream", "_law_action", "_law_counts", "_law_nargs", "_law_options", "_law_many"],
tp [],
ft "_law_word_options" "_law_word_options" (top 71),
co "_law_word_options" "_law_word_options" 1105 497 2 0 0 3 638 true 181 639 (R 640) (R 641) (R 642) 1114,
fu "_law_word_options" "_law_word_options" (top 71) [] V V (S "law_optwright_k67_arguments_made" 1093) 643 V,
tp [],
ct [],
ts 1120 ["_law_stream", "_law_action", "_law_is_option", "_law_options", "_law_lists"],
tp [],
ft "_law_right_options" "_law_right_options" (top 72),
co "_law_right_options" "_law_right_options" 1117 512 3 0 0 3 645 true 181 646 (R 647) (R 648) (R 649) 1125,
fu "_law_right_options" "_law_right_options" (top 72) [] V V (S "law_optwright_k67_arguments_made" 1093) 650 V,
tp [],
ct [],
ts 1131 ["_law_stream", "_law_is_option", "_law_some", "_law_more"],
tp [],
ft "_law_some_action" "_law_some_action" (top 73),
co "_law_some_action" "_law_some_action" 1128 530 2 0 0 3 652 true 181 653 (R 654) (R 655) (R 656) 1135,
fu "_law_some_action" "_law_some_action" (top 73) [] V V (S "law_optwright_k67_arguments_made" 1093) 657 V,
tp [],
ct [],
ft "_law_copied" "_law_copied" (top 74),
co "_law_copied" "_law_copied" 1138 534 1 0 0 3 659 true 181 660 V V (R 661) 1141,
fu "_law_copied" "_law_copied" (top 74) [] V V (S "law_optwright_k67_arguments_made" 1093) 662 V,
tp [],
ct [],
ts 1147 ["_law_stream", "_law_many", "_law_digit", "_law_mixed_here"],
tp [],
ft "_law_draw" "_law_draw" (top 75),
co "_law_draw" "_law_draw" 1144 538 2 0 0 3 664 true 181 665 (R 666) (R 667) (R 668) 1151,
fu "_law_draw" "_law_draw" (top 75) [] V V (S "law_optwright_k67_arguments_made" 1093) 669 V,
tp [],
ct [],
ts 1157 ["_law_script"],
tp [],
ft "_law_start" "_law_start" (top 76),
co "_law_start" "_law_start" 1154 551 1 0 0 3 671 true 181 672 (R 673) (R 674) (R 675) 1158,
fu "_law_start" "_law_start" (top 76) [] V V (S "law_optwright_k67_arguments_made" 1093) 676 V,
tp [],
ct []]
def z17 (P : Params) : List Obj := [
ts 1164 ["_law_stream", "_law_some"],
tp [],
ft "_law_pick" "_law_pick" (top 77),
co "_law_pick" "_law_pick" 1161 553 2 0 0 3 678 true 181 679 (R 680) (R 681) (R 682) 1166,
fu "_law_pick" "_law_pick" (top 77) [] V V (S "law_optwright_k67_arguments_made" 1093) 683 V,
tp [],
ct [],
ft "_law_mixed" "_law_mixed" (top 78),
co "_law_mixed" "_law_mixed" 1169 555 2 0 0 3 685 true 181 686 V V (R 687) 1172,
fu "_law_mixed" "_law_mixed" (top 78) [] V V (S "law_optwright_k67_arguments_made" 1093) 688 V,
tp [],
ct [],
ft "_law_same" "_law_same" (top 79),
co "_law_same" "_law_same" 1175 558 2 0 0 3 690 true 181 691 V V (R 692) 1178,
fu "_law_same" "_law_same" (top 79) [] V V (S "law_optwright_k67_arguments_made" 1093) 693 V,
tp [],
ct [],
ft "_law_dest" "_law_dest" (top 80),
co "_law_dest" "_law_dest" 1181 566 4 0 0 3 695 true 181 696 V V (R 697) 1184,
fu "_law_dest" "_law_dest" (top 80) [] V V (S "law_optwright_k67_arguments_made" 1093) 698 V,
tp [],
ct [],
ft "_law_flags_due" "_law_flags_due" (top 81),
co "_law_flags_due" "_law_flags_due" 1187 576 3 0 0 3 700 true 181 701 V V (R 702) 1190,
fu "_law_flags_due" "_law_flags_due" (top 81) [] V V (S "law_optwright_k67_arguments_made" 1093) 703 V,
tp [],
ct [],
ts 1196 ["_law_flags", "_law_options", "_law_signs", "_law_is_option", "_law_action", "_law_words", "_law_nargs", "_law_const", "_law_default", "_law_required", "_law_text", "_law_metavar", "_law_made", "_law_head"],
tp [],
ft "_law_due" "_law_due" (top 82),
co "_law_due" "_law_due" 1193 582 4 0 0 3 705 true 181 706 (R 707) (R 708) (R 709) 1210,
fu "_law_due" "_law_due" (top 82) [] V V (S "law_optwright_k67_arguments_made" 1093) 710 V,
tp [],
ct [],
ts 1216 ["_law_argument", "_law_found"],
tp [],
ft "_law_told" "_law_told" (top 83),
co "_law_told" "_law_told" 1213 597 1 0 0 3 712 true 181 713 (R 714) (R 715) (R 716) 1218,
fu "_law_told" "_law_told" (top 83) [] V V (S "law_optwright_k67_arguments_made" 1093) 717 V,
tp []]
def z18 (P : Params) : List Obj := [
ct [],
ts 1224 ["_law_script", "_law_stream", "_law_turn", "_law_signs", "_law_parser", "_law_flags", "_law_is_option", "_law_action", "_law_options", "_law_due_here", "_law_handed", "_law_argument", "_law_value"],
tp [],
ft "law" "law" (top 84),
co "law" "law" 1221 601 1 0 0 3 719 true 181 720 (R 721) (R 722) (R 723) 1237,
fu "law" "law" (top 84) [] V V (S "law_optwright_k67_arguments_made" 1093) 724 V]
def zs (P : Params) : List Obj := z0 P ++ (z1 P ++ (z2 P ++ (z3 P ++ (z4 P ++ (z5 P ++ (z6 P ++ (z7 P ++ (z8 P ++ (z9 P ++ (z10 P ++ (z11 P ++ (z12 P ++ (z13 P ++ (z14 P ++ (z15 P ++ (z16 P ++ (z17 P ++ (z18 P))))))))))))))))))
noncomputable def sEnd (w : World) (os : OsState) : PySem.W.SharedT := ⟨bt 12 (zs w.params), 726, {}, ⟨[]⟩, {}, 1240, os⟩
end K67Z

namespace K67
open PySem PySem.Spec PyProof.Rows L2 PySem.W HandSHeadRun
/-! ### the run: it ends in the literal state; all looks are asked of that -/
theorem zRunE (w : World) (os : OsState) : endF (stepQ (denQ tabQ) R.prog w) 12000 R.prog w os = some (K67Z.sEnd w os) := by kernel_rfl
theorem zLk (w : World) (os : OsState) : looksF R.prog (boot_heap w.params) (K67Z.sEnd w os).abs = true := by kernel_rfl
theorem zSq (w : World) (os : OsState) : seenQ (PySem.W.view R.prog [84]) loose (importedModules R.prog.main.body) (fun s => xlAt (PySem.W.view R.prog [84]) [] s && recOk R.toRowW.records s) (K67Z.sEnd w os).abs = openGood (PySem.W.view R.prog [84]) loose := by kernel_rfl
theorem zOq (w : World) (os : OsState) : ob (K67Z.sEnd w os) = hk.val w := by kernel_rfl
theorem run (w : World) : XTop.RunTop R (PySem.W.view R.prog [84]) hk 12000 loose w := fun os => by
  have h0 : endF (stepT (denote treeTable) R.prog w) 12000 R.prog w os = some (K67Z.sEnd w os) := by
    rw [stepQ_eq, denQ_eq, tabQ_eq]
    exact zRunE w os
  have hv : (looksF R.prog (boot_heap w.params) (K67Z.sEnd w os).abs, seenQ (PySem.W.view R.prog [84]) loose (importedModules R.prog.main.body) (fun s => xlAt (PySem.W.view R.prog [84]) [] s && recOk R.toRowW.records s) (K67Z.sEnd w os).abs, ob (K67Z.sEnd w os)) = (true, openGood (PySem.W.view R.prog [84]) loose, hk.val w) :=
    Prod.ext (zLk w os) (Prod.ext (zSq w os) (zOq w os))
  rw [ob_eq] at hv
  exact ⟨_, 12000, Nat.le_refl _, endF_ok h0, hv⟩
end K67

namespace K67
open PySem PySem.Spec PyProof.Rows L2
theorem fun_ofD {K : PySem.W.Frag} {x qual : Str} {st : Stmt} {f : Addr} {fd : FuncData} {kws : List (Str × V)} (F : FunD K x qual (defArgs st) (defBody st) (defScope st) [] kws f fd) : Fun K x qual st f fd := by
  obtain ⟨oc, od, dV, kV, doc, pm, an, cdv, ct, osl, e, lk, cd, hD, _⟩ := F.ex
  rcases hD with ⟨_, rfl⟩ | ⟨q, _⟩
  · exact ⟨⟨oc, od, kV, doc, pm, an, cdv, ct, osl, e, lk, cd⟩, F.kp⟩
  · exact absurd rfl q
/-- the parameters of a parser in their order -/
def gPar {α : Type} (vs _ds mz zs : List α) : List α := vs ++ (mz.take 6 ++ (zs.take 1 ++ ((mz.drop 7).take 4 ++ (zs.drop 1 ++ mz.drop 12))))
theorem facts {P : Program} {w : World} {K : PySem.W.Frag} {h : Heap} {mg : Str → Option Value} {f : Addr} (X : K.In h) (G : h.Ns mainGlobals mg) (hfa : mg ("law" : Str) = some (.ref f)) (c : He.SaysD fa fn K) (cx : ex K = true) :
    ∃ fd : FuncData, (∀ (s : Shared) (v : Value), BindsTo s fd ⟨[v], []⟩ [("_law_script", v)]) ∧ ∀ base : Heap, K.In base → base.Ns mainGlobals mg → FnOk P w K mg base CX0 10 f fd ["_law_script"] (spLaw K) := by
  have z_int : mg "int" = none := He.free_ok X G (c.fact 0 (f := .free "int") rfl)
  have z_list : mg "list" = none := He.free_ok X G (c.fact 1 (f := .free "list") rfl)
  have z_tuple : mg "tuple" = none := He.free_ok X G (c.fact 2 (f := .free "tuple") rfl)
  have z_len : mg "len" = none := He.free_ok X G (c.fact 3 (f := .free "len") rfl)
  have z_isinstance : mg "isinstance" = none := He.free_ok X G (c.fact 4 (f := .free "isinstance") rfl)
  have z_dict : mg "dict" = none := He.free_ok X G (c.fact 5 (f := .free "dict") rfl)
  have z_sorted : mg "sorted" = none := He.free_ok X G (c.fact 6 (f := .free "sorted") rfl)
  have z_all : mg "all" = none := He.free_ok X G (c.fact 7 (f := .free "all") rfl)
  have z_zip : mg "zip" = none := He.free_ok X G (c.fact 8 (f := .free "zip") rfl)
  have z_range : mg "range" = none := He.free_ok X G (c.fact 9 (f := .free "range") rfl)
  have z_bool : mg "bool" = none := He.free_ok X G (c.fact 10 (f := .free "bool") rfl)
  have z_str : mg "str" = none := He.free_ok X G (c.fact 11 (f := .free "str") rfl)
  have z_any : mg "any" = none := He.free_ok X G (c.fact 12 (f := .free "any") rfl)
  have z_enumerate : mg "enumerate" = none := He.free_ok X G (c.fact 13 (f := .free "enumerate") rfl)
  have B : TxtB mg := ⟨z_int, z_list, z_tuple, z_len, z_isinstance, z_dict, z_sorted, z_all, z_zip, z_range, z_bool⟩
  have m_cop : mg "copied" = some (.ref (He.ga K "copied")) := He.glo_ok X G (c.fact 14 (f := .glo "copied") rfl)
  obtain ⟨fd_cop, D_cop⟩ := c.def_ 0 (d := d_cop) rfl
  have F_cop : Fun K "copied" "copied" sCop (He.ga K "copied") fd_cop := fun_ofD D_cop
  have b_cop := F_cop.binds (ps := ["value"]) fun _ _ _ _ _ _ us hl => match us, hl with | [_], _ => rfl
  have m_isr : mg "is_row" = some (.ref (He.ga K "is_row")) := He.glo_ok X G (c.fact 15 (f := .glo "is_row") rfl)
  obtain ⟨fd_isr, D_isr⟩ := c.def_ 1 (d := d_isr) rfl
  have F_isr : Fun K "is_row" "is_row" sIsRow (He.ga K "is_row") fd_isr := fun_ofD D_isr
  have b_isr := F_isr.binds (ps := ["thing"]) fun _ _ _ _ _ _ us hl => match us, hl with | [_], _ => rfl
  have m_isi : mg "is_integer" = some (.ref (He.ga K "is_integer")) := He.glo_ok X G (c.fact 16 (f := .glo "is_integer") rfl)
  obtain ⟨fd_isi, D_isi⟩ := c.def_ 2 (d := d_isi) rfl
  have F_isi : Fun K "is_integer" "is_integer" sIsInt (He.ga K "is_integer") fd_isi := fun_ofD D_isi
  have b_isi := F_isi.binds (ps := ["thing"]) fun _ _ _ _ _ _ us hl => match us, hl with | [_], _ => rfl
  have m_isv : mg "is_value" = some (.ref (He.ga K "is_value")) := He.glo_ok X G (c.fact 17 (f := .glo "is_value") rfl)
  obtain ⟨fd_isv, D_isv⟩ := c.def_ 3 (d := d_isv) rfl
  have F_isv : Fun K "is_value" "is_value" sIsVal (He.ga K "is_value") fd_isv := fun_ofD D_isv
  have b_isv := F_isv.binds (ps := ["thing"]) fun _ _ _ _ _ _ us hl => match us, hl with | [_], _ => rfl
  have m_isk : mg "is_kind" = some (.ref (He.ga K "is_kind")) := He.glo_ok X G (c.fact 18 (f := .glo "is_kind") rfl)
  obtain ⟨fd_isk, D_isk⟩ := c.def_ 4 (d := d_isk) rfl
  have F_isk : Fun K "is_kind" "is_kind" sIsKind (He.ga K "is_kind") fd_isk := fun_ofD D_isk
  have b_isk := F_isk.binds (ps := ["thing"]) fun _ _ _ _ _ _ us hl => match us, hl with | [_], _ => rfl
  have m_key : mg "keys_of" = some (.ref (He.ga K "keys_of")) := He.glo_ok X G (c.fact 19 (f := .glo "keys_of") rfl)
  obtain ⟨fd_key, D_key⟩ := c.def_ 5 (d := d_key) rfl
  have F_key : Fun K "keys_of" "keys_of" sKeys (He.ga K "keys_of") fd_key := fun_ofD D_key
  have b_key := F_key.binds (ps := ["action"]) fun _ _ _ _ _ _ us hl => match us, hl with | [_], _ => rfl
  have m_isf : mg "is_flag" = some (.ref (He.ga K "is_flag")) := He.glo_ok X G (c.fact 20 (f := .glo "is_flag") rfl)
  obtain ⟨fd_isf, D_isf⟩ := c.def_ 6 (d := d_isf) rfl
  have F_isf : Fun K "is_flag" "is_flag" sIsFlag (He.ga K "is_flag") fd_isf := fun_ofD D_isf
  have b_isf := F_isf.binds (ps := ["text", "prefix_chars"]) fun _ _ _ _ _ _ us hl => match us, hl with | [_, _], _ => rfl
  have m_gap : mg "has_gap" = some (.ref (He.ga K "has_gap")) := He.glo_ok X G (c.fact 21 (f := .glo "has_gap") rfl)
  obtain ⟨fd_gap, D_gap⟩ := c.def_ 7 (d := d_gap) rfl
  have F_gap : Fun K "has_gap" "has_gap" sHasGap (He.ga K "has_gap") fd_gap := fun_ofD D_gap
  have b_gap := F_gap.binds (ps := ["text"]) fun _ _ _ _ _ _ us hl => match us, hl with | [_], _ => rfl
  have m_chk : mg "checked_flags" = some (.ref (He.ga K "checked_flags")) := He.glo_ok X G (c.fact 22 (f := .glo "checked_flags") rfl)
  obtain ⟨fd_chk, D_chk⟩ := c.def_ 8 (d := d_chk) rfl
  have F_chk : Fun K "checked_flags" "checked_flags" sChkFlags (He.ga K "checked_flags") fd_chk := fun_ofD D_chk
  have b_chk := F_chk.binds (ps := ["flags", "prefix_chars"]) fun _ _ _ _ _ _ us hl => match us, hl with | [_, _], _ => rfl
  have m_nam : mg "named" = some (.ref (He.ga K "named")) := He.glo_ok X G (c.fact 23 (f := .glo "named") rfl)
  obtain ⟨fd_nam, D_nam⟩ := c.def_ 9 (d := d_nam) rfl
  have F_nam : Fun K "named" "named" sNamed (He.ga K "named") fd_nam := fun_ofD D_nam
  have b_nam := F_nam.binds (ps := ["flags", "made", "options", "prefix_chars"]) fun _ _ _ _ _ _ us hl => match us, hl with | [_, _, _, _], _ => rfl
  have m_wif : mg "with_fellows" = some (.ref (He.ga K "with_fellows")) := He.glo_ok X G (c.fact 24 (f := .glo "with_fellows") rfl)
  obtain ⟨fd_wif, D_wif⟩ := c.def_ 10 (d := d_wif) rfl
  have F_wif : Fun K "with_fellows" "with_fellows" sWithF (He.ga K "with_fellows") fd_wif := fun_ofD D_wif
  have b_wif := F_wif.binds (ps := ["flags", "prefix_chars"]) fun _ _ _ _ _ _ us hl => match us, hl with | [_, _], _ => rfl
  have m_fit : mg "fits_metavar" = some (.ref (He.ga K "fits_metavar")) := He.glo_ok X G (c.fact 25 (f := .glo "fits_metavar") rfl)
  obtain ⟨fd_fit, D_fit⟩ := c.def_ 11 (d := d_fit) rfl
  have F_fit : Fun K "fits_metavar" "fits_metavar" sFits (He.ga K "fits_metavar") fd_fit := fun_ofD D_fit
  have b_fit := F_fit.binds (ps := ["metavar", "nargs"]) fun _ _ _ _ _ _ us hl => match us, hl with | [_, _], _ => rfl
  have m_cw : mg "check_words" = some (.ref (He.ga K "check_words")) := He.glo_ok X G (c.fact 26 (f := .glo "check_words") rfl)
  obtain ⟨fd_cw, D_cw⟩ := c.def_ 12 (d := d_cw) rfl
  have F_cw : Fun K "check_words" "check_words" sChkWords (He.ga K "check_words") fd_cw := fun_ofD D_cw
  have b_cw := F_cw.binds (ps := ["action", "options"]) fun _ _ _ _ _ _ us hl => match us, hl with | [_, _], _ => rfl
  have m_co : mg "check_options" = some (.ref (He.ga K "check_options")) := He.glo_ok X G (c.fact 27 (f := .glo "check_options") rfl)
  obtain ⟨fd_co, D_co⟩ := c.def_ 13 (d := d_co) rfl
  have F_co : Fun K "check_options" "check_options" sChkOpts (He.ga K "check_options") fd_co := fun_ofD D_co
  have b_co := F_co.binds (ps := ["action", "options", "is_positional"]) fun _ _ _ _ _ _ us hl => match us, hl with | [_, _, _], _ => rfl
  have m_dfl : mg "default_of" = some (.ref (He.ga K "default_of")) := He.glo_ok X G (c.fact 28 (f := .glo "default_of") rfl)
  obtain ⟨fd_dfl, D_dfl⟩ := c.def_ 14 (d := d_dfl) rfl
  have F_dfl : Fun K "default_of" "default_of" sDflt (He.ga K "default_of") fd_dfl := fun_ofD D_dfl
  have b_dfl := F_dfl.binds (ps := ["action", "dest", "options", "defaults", "argument_default"]) fun _ _ _ _ _ _ us hl => match us, hl with | [_, _, _, _, _], _ => rfl
  have m_mad : mg "made_argument" = some (.ref (He.ga K "made_argument")) := He.glo_ok X G (c.fact 29 (f := .glo "made_argument") rfl)
  obtain ⟨fd_mad, D_mad⟩ := c.def_ 15 (d := d_mad) rfl
  have F_mad : Fun K "made_argument" "made_argument" sMadeArg (He.ga K "made_argument") fd_mad := fun_ofD D_mad
  have b_mad := F_mad.binds (ps := ["flags", "given", "parser", "is_exclusive"]) fun _ _ _ _ _ _ us hl => match us, hl with | [_, _, _, _], _ => rfl
  have m_sig : mg "is_signs" = some (.ref (He.ga K "is_signs")) := He.glo_ok X G (c.fact 30 (f := .glo "is_signs") rfl)
  obtain ⟨fd_sig, D_sig⟩ := c.def_ 16 (d := d_sig) rfl
  have F_sig : Fun K "is_signs" "is_signs" sIsSigns (He.ga K "is_signs") fd_sig := fun_ofD D_sig
  have b_sig := F_sig.binds (ps := ["thing"]) fun _ _ _ _ _ _ us hl => match us, hl with | [_], _ => rfl
  have m_drw : mg "_law_draw" = some (.ref (He.ga K "_law_draw")) := He.glo_ok X G (c.fact 31 (f := .glo "_law_draw") rfl)
  obtain ⟨fd_drw, D_drw⟩ := c.def_ 17 (d := d_drw) rfl
  have F_drw : Fun K "_law_draw" "_law_draw" sDraw (He.ga K "_law_draw") fd_drw := fun_ofD D_drw
  have b_drw := F_drw.binds (ps := ["_law_stream", "_law_many"]) fun _ _ _ _ _ _ us hl => match us, hl with | [_, _], _ => rfl
  have m_sta : mg "_law_start" = some (.ref (He.ga K "_law_start")) := He.glo_ok X G (c.fact 32 (f := .glo "_law_start") rfl)
  obtain ⟨fd_sta, D_sta⟩ := c.def_ 18 (d := d_sta) rfl
  have F_sta : Fun K "_law_start" "_law_start" sStart (He.ga K "_law_start") fd_sta := fun_ofD D_sta
  have b_sta := F_sta.binds (ps := ["_law_script"]) fun _ _ _ _ _ _ us hl => match us, hl with | [_], _ => rfl
  have m_pck : mg "_law_pick" = some (.ref (He.ga K "_law_pick")) := He.glo_ok X G (c.fact 33 (f := .glo "_law_pick") rfl)
  obtain ⟨fd_pck, D_pck⟩ := c.def_ 19 (d := d_pck) rfl
  have F_pck : Fun K "_law_pick" "_law_pick" sPick (He.ga K "_law_pick") fd_pck := fun_ofD D_pck
  have b_pck := F_pck.binds (ps := ["_law_stream", "_law_some"]) fun _ _ _ _ _ _ us hl => match us, hl with | [_, _], _ => rfl
  have m_mix : mg "_law_mixed" = some (.ref (He.ga K "_law_mixed")) := He.glo_ok X G (c.fact 34 (f := .glo "_law_mixed") rfl)
  obtain ⟨fd_mix, D_mix⟩ := c.def_ 20 (d := d_mix) rfl
  have F_mix : Fun K "_law_mixed" "_law_mixed" sMixed (He.ga K "_law_mixed") fd_mix := fun_ofD D_mix
  have b_mix := F_mix.binds (ps := ["_law_stream", "_law_some"]) fun _ _ _ _ _ _ us hl => match us, hl with | [_, _], _ => rfl
  have m_sam : mg "_law_same" = some (.ref (He.ga K "_law_same")) := He.glo_ok X G (c.fact 35 (f := .glo "_law_same") rfl)
  obtain ⟨fd_sam, D_sam⟩ := c.def_ 21 (d := d_sam) rfl
  have F_sam : Fun K "_law_same" "_law_same" sSame (He.ga K "_law_same") fd_sam := fun_ofD D_sam
  have b_sam := F_sam.binds (ps := ["_law_found", "_law_due_here"]) fun _ _ _ _ _ _ us hl => match us, hl with | [_, _], _ => rfl
  have m_rfl : mg "_law_right_flags" = some (.ref (He.ga K "_law_right_flags")) := He.glo_ok X G (c.fact 36 (f := .glo "_law_right_flags") rfl)
  obtain ⟨fd_rfl, D_rfl⟩ := c.def_ 22 (d := d_rfl) rfl
  have F_rfl : Fun K "_law_right_flags" "_law_right_flags" sRFl (He.ga K "_law_right_flags") fd_rfl := fun_ofD D_rfl
  have b_rfl := F_rfl.binds (ps := ["_law_stream", "_law_signs"]) fun _ _ _ _ _ _ us hl => match us, hl with | [_, _], _ => rfl
  have m_wop : mg "_law_word_options" = some (.ref (He.ga K "_law_word_options")) := He.glo_ok X G (c.fact 37 (f := .glo "_law_word_options") rfl)
  obtain ⟨fd_wop, D_wop⟩ := c.def_ 23 (d := d_wop) rfl
  have F_wop : Fun K "_law_word_options" "_law_word_options" sWOp (He.ga K "_law_word_options") fd_wop := fun_ofD D_wop
  have b_wop := F_wop.binds (ps := ["_law_stream", "_law_action"]) fun _ _ _ _ _ _ us hl => match us, hl with | [_, _], _ => rfl
  have m_rop : mg "_law_right_options" = some (.ref (He.ga K "_law_right_options")) := He.glo_ok X G (c.fact 38 (f := .glo "_law_right_options") rfl)
  obtain ⟨fd_rop, D_rop⟩ := c.def_ 24 (d := d_rop) rfl
  have F_rop : Fun K "_law_right_options" "_law_right_options" sROp (He.ga K "_law_right_options") fd_rop := fun_ofD D_rop
  have b_rop := F_rop.binds (ps := ["_law_stream", "_law_action", "_law_is_option"]) fun _ _ _ _ _ _ us hl => match us, hl with | [_, _, _], _ => rfl
  have m_sma : mg "_law_some_action" = some (.ref (He.ga K "_law_some_action")) := He.glo_ok X G (c.fact 39 (f := .glo "_law_some_action") rfl)
  obtain ⟨fd_sma, D_sma⟩ := c.def_ 25 (d := d_sma) rfl
  have F_sma : Fun K "_law_some_action" "_law_some_action" sSomeA (He.ga K "_law_some_action") fd_sma := fun_ofD D_sma
  have b_sma := F_sma.binds (ps := ["_law_stream", "_law_is_option"]) fun _ _ _ _ _ _ us hl => match us, hl with | [_, _], _ => rfl
  have m_lco : mg "_law_copied" = some (.ref (He.ga K "_law_copied")) := He.glo_ok X G (c.fact 40 (f := .glo "_law_copied") rfl)
  obtain ⟨fd_lco, D_lco⟩ := c.def_ 26 (d := d_lco) rfl
  have F_lco : Fun K "_law_copied" "_law_copied" sLCop (He.ga K "_law_copied") fd_lco := fun_ofD D_lco
  have b_lco := F_lco.binds (ps := ["_law_value"]) fun _ _ _ _ _ _ us hl => match us, hl with | [_], _ => rfl
  have m_lde : mg "_law_dest" = some (.ref (He.ga K "_law_dest")) := He.glo_ok X G (c.fact 41 (f := .glo "_law_dest") rfl)
  obtain ⟨fd_lde, D_lde⟩ := c.def_ 27 (d := d_lde) rfl
  have F_lde : Fun K "_law_dest" "_law_dest" sLDest (He.ga K "_law_dest") fd_lde := fun_ofD D_lde
  have b_lde := F_lde.binds (ps := ["_law_flags", "_law_options", "_law_signs", "_law_is_option"]) fun _ _ _ _ _ _ us hl => match us, hl with | [_, _, _, _], _ => rfl
  have m_fld : mg "_law_flags_due" = some (.ref (He.ga K "_law_flags_due")) := He.glo_ok X G (c.fact 42 (f := .glo "_law_flags_due") rfl)
  obtain ⟨fd_fld, D_fld⟩ := c.def_ 28 (d := d_fld) rfl
  have F_fld : Fun K "_law_flags_due" "_law_flags_due" sFlDue (He.ga K "_law_flags_due") fd_fld := fun_ofD D_fld
  have b_fld := F_fld.binds (ps := ["_law_flags", "_law_action", "_law_signs"]) fun _ _ _ _ _ _ us hl => match us, hl with | [_, _, _], _ => rfl
  have m_due : mg "_law_due" = some (.ref (He.ga K "_law_due")) := He.glo_ok X G (c.fact 43 (f := .glo "_law_due") rfl)
  obtain ⟨fd_due, D_due⟩ := c.def_ 29 (d := d_due) rfl
  have F_due : Fun K "_law_due" "_law_due" sDue (He.ga K "_law_due") fd_due := fun_ofD D_due
  have b_due := F_due.binds (ps := ["_law_flags", "_law_options", "_law_signs", "_law_is_option"]) fun _ _ _ _ _ _ us hl => match us, hl with | [_, _, _, _], _ => rfl
  have m_tol : mg "_law_told" = some (.ref (He.ga K "_law_told")) := He.glo_ok X G (c.fact 44 (f := .glo "_law_told") rfl)
  obtain ⟨fd_tol, D_tol⟩ := c.def_ 30 (d := d_tol) rfl
  have F_tol : Fun K "_law_told" "_law_told" sTold (He.ga K "_law_told") fd_tol := fun_ofD D_tol
  have b_tol := F_tol.binds (ps := ["_law_argument"]) fun _ _ _ _ _ _ us hl => match us, hl with | [_], _ => rfl
  have m_law : mg "law" = some (.ref (He.ga K "law")) := He.glo_ok X G (c.fact 45 (f := .glo "law") rfl)
  obtain ⟨fd_law, D_law⟩ := c.def_ 31 (d := d_law) rfl
  have F_law : Fun K "law" "law" sLaw (He.ga K "law") fd_law := fun_ofD D_law
  have b_law := F_law.binds (ps := ["_law_script"]) fun _ _ _ _ _ _ us hl => match us, hl with | [_], _ => rfl
  obtain ⟨fd_argI, D_argI⟩ := c.def_ 32 (d := d_argI) rfl
  have F_argI : Fun K "__init__" "Argument.__init__" sArgI (He.ma K (He.ga K "Argument") "__init__") fd_argI := fun_ofD D_argI
  have b_argI := F_argI.binds (ps := ["self", "flags", "dest", "action"]) fun _ _ _ _ _ _ us hl => match us, hl with | [_, _, _, _], _ => rfl
  obtain ⟨fd_secI, D_secI⟩ := c.def_ 33 (d := d_secI) rfl
  have F_secI : Fun K "__init__" "Section.__init__" sSecI (He.ma K (He.ga K "Section") "__init__") fd_secI := fun_ofD D_secI
  have b_secI := F_secI.binds (ps := ["self", "home", "title", "description"]) fun _ _ _ _ _ _ us hl => match us, hl with | [_, _, _, _], _ => rfl
  obtain ⟨fd_adt, D_adt⟩ := c.def_ 34 (d := d_adt) rfl
  have F_adt : Fun K "add_to" "Parser.add_to" sAddTo (He.ma K (He.ga K "Parser") "add_to") fd_adt := fun_ofD D_adt
  have b_adt := F_adt.binds (ps := ["self", "section", "exclusive", "flags", "options"]) fun _ _ _ _ _ _ us hl => match us, hl with | [_, _, _, _, _], _ => rfl
  obtain ⟨fd_joi, D_joi⟩ := c.def_ 35 (d := d_joi) rfl
  have F_joi : Fun K "join" "Parser.join" sJoin (He.ma K (He.ga K "Parser") "join") fd_joi := fun_ofD D_joi
  have b_joi := F_joi.binds (ps := ["self", "argument", "section", "exclusive"]) fun _ _ _ _ _ _ us hl => match us, hl with | [_, _, _, _], _ => rfl
  have m_Argument : mg "Argument" = some (.ref (He.ga K "Argument")) := He.glo_ok X G (c.fact 46 (f := .glo "Argument") rfl)
  have m_Section : mg "Section" = some (.ref (He.ga K "Section")) := He.glo_ok X G (c.fact 47 (f := .glo "Section") rfl)
  have m_Parser : mg "Parser" = some (.ref (He.ga K "Parser")) := He.glo_ok X G (c.fact 48 (f := .glo "Parser") rfl)
  unfold ex at cx
  simp only [Bool.and_eq_true] at cx
  obtain ⟨⟨⟨⟨⟨⟨cW, cC⟩, cO⟩, cN⟩, cL⟩, cA⟩, cn1, cn2⟩ := cx
  have k_W : KT K mg "WITH_WORDS" (He.ga K "WITH_WORDS") wW := ⟨He.glo_ok X G (c.fact 49 (f := .glo "WITH_WORDS") rfl), fun H => He.tupB_ok cW H⟩
  have k_C : KT K mg "WITH_CONST" (He.ga K "WITH_CONST") wC := ⟨He.glo_ok X G (c.fact 50 (f := .glo "WITH_CONST") rfl), fun H => He.tupB_ok cC H⟩
  have k_O : KT K mg "WITHOUT" (He.ga K "WITHOUT") wO := ⟨He.glo_ok X G (c.fact 51 (f := .glo "WITHOUT") rfl), fun H => He.tupB_ok cO H⟩
  have k_N : KT K mg "WORD_COUNTS" (He.ga K "WORD_COUNTS") wN := ⟨He.glo_ok X G (c.fact 52 (f := .glo "WORD_COUNTS") rfl), fun H => He.tupB_ok cN H⟩
  have k_L : KT K mg "LISTS" (He.ga K "LISTS") wL := ⟨He.glo_ok X G (c.fact 53 (f := .glo "LISTS") rfl), fun H => He.tupB_ok cL H⟩
  have k_A : KT K mg "ALWAYS" (He.ga K "ALWAYS") wA := ⟨He.glo_ok X G (c.fact 54 (f := .glo "ALWAYS") rfl), fun H => He.tupB_ok cA H⟩
  have Z : TxtK K mg _ _ _ _ _ _ := ⟨k_W, k_C, k_O, k_N, k_L, k_A, He.str_ok X G (c.fact 55 (f := .str "SUPPRESS" "==SUPPRESS==") rfl), He.str_ok X G (c.fact 56 (f := .str "VERSION_HELP" "show program's version number and exit") rfl), z_str, z_any, z_enumerate⟩
  obtain ⟨tn, m_NOS⟩ := He.str_ok X G (c.fact 57 (f := .str "NO_SIGNS" "abcdefghijklmnopqrstuvwxyzABCDEFGHIJKLMNOPQRSTUVWXYZ0123456789 \n=") rfl)
  have cP : ClsN K (He.ga K "Parser") parF := by
    refine ⟨He.cls_ok (c.fact 58 (f := .cls "Parser") rfl), fun f hf => ?_⟩
    simp only [parF, List.mem_cons, List.not_mem_nil, or_false] at hf
    rcases hf with rfl | rfl | rfl | rfl | rfl | rfl | rfl | rfl | rfl | rfl | rfl | rfl | rfl | rfl | rfl | rfl | rfl | rfl | rfl
    · exact He.noat_ok (c.fact 60 (f := .noat "Parser" "prog") rfl)
    · exact He.noat_ok (c.fact 61 (f := .noat "Parser" "usage") rfl)
    · exact He.noat_ok (c.fact 62 (f := .noat "Parser" "description") rfl)
    · exact He.noat_ok (c.fact 63 (f := .noat "Parser" "epilog") rfl)
    · exact He.noat_ok (c.fact 64 (f := .noat "Parser" "layout") rfl)
    · exact He.noat_ok (c.fact 65 (f := .noat "Parser" "width") rfl)
    · exact He.noat_ok (c.fact 66 (f := .noat "Parser" "prefix_chars") rfl)
    · exact He.noat_ok (c.fact 67 (f := .noat "Parser" "file_signs") rfl)
    · exact He.noat_ok (c.fact 68 (f := .noat "Parser" "files") rfl)
    · exact He.noat_ok (c.fact 69 (f := .noat "Parser" "argument_default") rfl)
    · exact He.noat_ok (c.fact 70 (f := .noat "Parser" "conflict_handler") rfl)
    · exact He.noat_ok (c.fact 71 (f := .noat "Parser" "allow_abbrev") rfl)
    · exact He.noat_ok (c.fact 72 (f := .noat "Parser" "exit_on_error") rfl)
    · exact He.noat_ok (c.fact 73 (f := .noat "Parser" "arguments") rfl)
    · exact He.noat_ok (c.fact 74 (f := .noat "Parser" "flags") rfl)
    · exact He.noat_ok (c.fact 75 (f := .noat "Parser" "exclusives") rfl)
    · exact He.noat_ok (c.fact 76 (f := .noat "Parser" "defaults") rfl)
    · exact He.noat_ok (c.fact 77 (f := .noat "Parser" "commands_argument") rfl)
    · exact He.noat_ok (c.fact 78 (f := .noat "Parser" "sections") rfl)
  have mk_Parser : Mk K (He.ga K "Parser") (He.ma K (He.ga K "Parser") "__init__") := He.mkr_ok (c.fact 59 (f := .mkr "Parser") rfl)
  have cA : ClsN K (He.ga K "Argument") argF := by
    refine ⟨He.cls_ok (c.fact 79 (f := .cls "Argument") rfl), fun f hf => ?_⟩
    simp only [argF, List.mem_cons, List.not_mem_nil, or_false] at hf
    rcases hf with rfl | rfl | rfl | rfl | rfl | rfl | rfl | rfl | rfl | rfl | rfl | rfl | rfl | rfl | rfl
    · exact He.noat_ok (c.fact 81 (f := .noat "Argument" "flags") rfl)
    · exact He.noat_ok (c.fact 82 (f := .noat "Argument" "dest") rfl)
    · exact He.noat_ok (c.fact 83 (f := .noat "Argument" "action") rfl)
    · exact He.noat_ok (c.fact 84 (f := .noat "Argument" "is_option") rfl)
    · exact He.noat_ok (c.fact 85 (f := .noat "Argument" "nargs") rfl)
    · exact He.noat_ok (c.fact 86 (f := .noat "Argument" "const") rfl)
    · exact He.noat_ok (c.fact 87 (f := .noat "Argument" "default") rfl)
    · exact He.noat_ok (c.fact 88 (f := .noat "Argument" "kind") rfl)
    · exact He.noat_ok (c.fact 89 (f := .noat "Argument" "choices") rfl)
    · exact He.noat_ok (c.fact 90 (f := .noat "Argument" "required") rfl)
    · exact He.noat_ok (c.fact 91 (f := .noat "Argument" "help") rfl)
    · exact He.noat_ok (c.fact 92 (f := .noat "Argument" "metavar") rfl)
    · exact He.noat_ok (c.fact 93 (f := .noat "Argument" "version") rfl)
    · exact He.noat_ok (c.fact 94 (f := .noat "Argument" "commands") rfl)
    · exact He.noat_ok (c.fact 95 (f := .noat "Argument" "fellows") rfl)
  have mk_Argument : Mk K (He.ga K "Argument") (He.ma K (He.ga K "Argument") "__init__") := He.mkr_ok (c.fact 80 (f := .mkr "Argument") rfl)
  have cS : ClsN K (He.ga K "Section") secF := by
    refine ⟨He.cls_ok (c.fact 96 (f := .cls "Section") rfl), fun f hf => ?_⟩
    simp only [secF, List.mem_cons, List.not_mem_nil, or_false] at hf
    rcases hf with rfl | rfl | rfl | rfl
    · exact He.noat_ok (c.fact 98 (f := .noat "Section" "home") rfl)
    · exact He.noat_ok (c.fact 99 (f := .noat "Section" "title") rfl)
    · exact He.noat_ok (c.fact 100 (f := .noat "Section" "description") rfl)
    · exact He.noat_ok (c.fact 101 (f := .noat "Section" "members") rfl)
  have mk_Section : Mk K (He.ga K "Section") (He.ma K (He.ga K "Section") "__init__") := He.mkr_ok (c.fact 97 (f := .mkr "Section") rfl)
  have mt_add_argument : Meth K (He.ga K "Parser") "add_argument" (He.ma K (He.ga K "Parser") "add_argument") := He.meth_ok (c.fact 102 (f := .meth "Parser" "add_argument") rfl)
  have mt_add_to : Meth K (He.ga K "Parser") "add_to" (He.ma K (He.ga K "Parser") "add_to") := He.meth_ok (c.fact 103 (f := .meth "Parser" "add_to") rfl)
  have mt_join : Meth K (He.ga K "Parser") "join" (He.ma K (He.ga K "Parser") "join") := He.meth_ok (c.fact 104 (f := .meth "Parser" "join") rfl)
  obtain ⟨hP, _⟩ := nilB_ok cn1
  obtain ⟨hL, tL⟩ := nilB_ok cn2
  obtain ⟨fd_add, D_add⟩ := c.def_ 36 (d := d_add) rfl
  obtain ⟨fd_par, D_par⟩ := c.def_ 37 (d := d_parI) rfl
  obtain ⟨ds, vd, b_add⟩ := FunD.binds1 D_add (ps := ["self", "flags", "options"]) 3 1 (fun z => nomatch z) rfl fun T kV doc pm an cdv ct us its h1 h2 => match us, its, h1, h2 with | [_, _, _], [_], _, _ => ⟨_, rfl, rfl⟩
  cases vd
  have hpar : ∃ its mv : List Value, KBn K fd_par pParI 2 ["prefix_chars", "add_help"] (fun us ws => gPar us its mv ws) (fun vs zs => gPar vs [.str "program"] [.non, .non, .non, .ref (kwAt ("Parser", some "__init__") "parents" K), .ref (kwAt ("Parser", some "__init__") "layout" K), .int 78, .str "-", .str "", .non, .non, .str "error", .bl true, .bl true, .bl true] zs) := by
    refine XB.kbn D_par (ns := ["self", "prog"]) (ko := ["usage", "description", "epilog", "parents", "layout", "width", "prefix_chars", "fromfile_prefix_chars", "files", "argument_default", "conflict_handler", "add_help", "allow_abbrev", "exit_on_error"]) (ps := pParI) 2 ["prefix_chars", "add_help"] (fun z => nomatch z) (fun z => nomatch z) rfl rfl rfl rfl rfl rfl (by decide) (by show 1 ≤ 2; decide) (by decide +kernel) (by decide +kernel) ?_ (fun a b c d => gPar a b c d) (fun r1 r2 r3 r4 => r1.append ((r3.take 6).append ((r4.take 1).append (((r3.drop 7).take 4).append ((r4.drop 1).append (r3.drop 12)))))) ?_
    · show ∀ x ∈ (["self", "prog"] : List Str).take (2 - 1), ((["self", "prog"] : List Str).take 2 ++ (["prefix_chars", "add_help"] : List Str)).contains x = true
      decide +kernel
    · intro us its mv ws h1 h2 h3 h4
      match us, its, mv, ws, h1, h2, h3, h4 with
      | [_, _], [_], [_, _, _, _, _, _, _, _, _, _, _, _, _, _], [_, _], _, _, _, _ => kernel_rfl
  obtain ⟨its, mv, kb⟩ := hpar
  have e := hfa.symm.trans m_law
  cases e
  refine ⟨fd_law, fun s v => ?_, fun base _ _ => ?_⟩
  · exact FunD.bindsA (ps := ["_law_script"]) D_law (fun _ _ _ _ _ _ us hl => match us, hl with | [_], _ => rfl) s [v] rfl
  have A_cop : At P w K mg base "copied" 4 ["value"] (spCop 3) _ fd_cop := ⟨okCop F_cop B m_cop F_cop.kp b_cop 3, m_cop, F_cop.kp, b_cop⟩
  have A_isr : At P w K mg base "is_row" 1 ["thing"] (spIsRow K) _ fd_isr := ⟨ok_isRow F_isr B, m_isr, F_isr.kp, b_isr⟩
  have A_isi : At P w K mg base "is_integer" 1 ["thing"] (spIsInt K) _ fd_isi := ⟨ok_isInt F_isi B, m_isi, F_isi.kp, b_isi⟩
  have A_isv : At P w K mg base "is_value" 4 ["thing"] (spIsVal 3) _ fd_isv := ⟨okIsVal F_isv B z_str A_isr m_isv F_isv.kp b_isv 3, m_isv, F_isv.kp, b_isv⟩
  have A_isk : At P w K mg base "is_kind" 1 ["thing"] spIsKind _ fd_isk := ⟨ok_isKind F_isk B z_str, m_isk, F_isk.kp, b_isk⟩
  have A_gap : At P w K mg base "has_gap" 1 ["text"] spHasGap _ fd_gap := ⟨ok_hasGap F_gap z_any, m_gap, F_gap.kp, b_gap⟩
  have A_isf : At P w K mg base "is_flag" 2 ["text", "prefix_chars"] spIsFlag _ fd_isf := ⟨ok_isFlag F_isf A_gap, m_isf, F_isf.kp, b_isf⟩
  have A_chk : At P w K mg base "checked_flags" 3 ["flags", "prefix_chars"] (spChk K) _ fd_chk := ⟨ok_chk F_chk B z_str A_isr A_isf, m_chk, F_chk.kp, b_chk⟩
  have A_nam : At P w K mg base "named" 1 ["flags", "made", "options", "prefix_chars"] spNamed _ fd_nam := ⟨ok_named F_nam B z_str, m_nam, F_nam.kp, b_nam⟩
  have A_wif : At P w K mg base "with_fellows" 1 ["flags", "prefix_chars"] spWithF _ fd_wif := ⟨ok_withF F_wif B, m_wif, F_wif.kp, b_wif⟩
  have A_key : At P w K mg base "keys_of" 1 ["action"] (spKeysT K) _ fd_key := ⟨ok_keys F_key Z, m_key, F_key.kp, b_key⟩
  have A_fit : At P w K mg base "fits_metavar" 2 ["metavar", "nargs"] spFits _ fd_fit := ⟨ok_fits F_fit B z_str A_isr A_isi, m_fit, F_fit.kp, b_fit⟩
  have A_cw : At P w K mg base "check_words" 5 ["action", "options"] spWords _ fd_cw := ⟨ok_words F_cw B Z A_isi A_isk A_fit A_isr A_isv, m_cw, F_cw.kp, b_cw⟩
  have A_co : At P w K mg base "check_options" 6 ["action", "options", "is_positional"] spChkO _ fd_co := ⟨ok_chkO F_co B Z A_key A_cw, m_co, F_co.kp, b_co⟩
  have A_dfl : At P w K mg base "default_of" 5 ["action", "dest", "options", "defaults", "argument_default"] spDflt _ fd_dfl := ⟨ok_dflt F_dfl Z A_cop, m_dfl, F_dfl.kp, b_dfl⟩
  have g_argI := ok_argI (P := P) (w := w) (mg := mg) (base := base) F_argI cA
  have g_secI := ok_secI (P := P) (w := w) (mg := mg) (base := base) F_secI cS
  have A_mad : At P w K mg base "made_argument" 7 ["flags", "given", "parser", "is_exclusive"] (spMade (He.ga K "Argument") (He.ga K "Parser")) _ fd_mad := ⟨ok_made F_mad B Z cP cA A_chk A_nam A_co A_dfl A_cop A_isr A_wif m_Argument mk_Argument g_argI b_argI, m_mad, F_mad.kp, b_mad⟩
  have g_joi := ok_join (P := P) (w := w) (mg := mg) (base := base) F_joi B cP cA cS
  have g_adt := ok_addTo (P := P) (w := w) (mg := mg) (base := base) F_adt cP A_mad g_joi mt_join b_joi
  have g_add : FnOk P w K mg base CX0 9 (He.ma K (He.ga K "Parser") "add_argument") fd_add ["self", "flags", "options"] (spAdd (He.ga K "Parser") (He.ga K "Section") (He.ga K "Argument")) := ok_add D_add cP g_adt mt_add_to b_adt
  have A_sig : At P w K mg base "is_signs" 1 ["thing"] spSigns _ fd_sig := ⟨ok_signs F_sig B z_str z_any m_NOS (by decide +kernel), m_sig, F_sig.kp, b_sig⟩
  have g_par : FnOk P w K mg base CX0 5 (He.ma K (He.ga K "Parser") "__init__") fd_par pParI (spParI (He.ga K "Parser") (He.ga K "Section") (kwAt ("Parser", some "__init__") "parents" K) (kwAt ("Parser", some "__init__") "layout" K)) := ok_parI D_par B z_str cP hP hL tL A_isr A_isi A_sig A_cop m_Section mk_Section g_secI b_secI
  have A_drw : At P w K mg base "_law_draw" 1 ["_law_stream", "_law_many"] spDraw _ fd_drw := ⟨ok_draw F_drw B, m_drw, F_drw.kp, b_drw⟩
  have A_sta : At P w K mg base "_law_start" 1 ["_law_script"] (spStart K) _ fd_sta := ⟨ok_start F_sta B, m_sta, F_sta.kp, b_sta⟩
  have A_pck : At P w K mg base "_law_pick" 2 ["_law_stream", "_law_some"] spPick _ fd_pck := ⟨ok_pick F_pck B A_drw.ok m_drw F_drw.kp b_drw, m_pck, F_pck.kp, b_pck⟩
  have A_mix : At P w K mg base "_law_mixed" 2 ["_law_stream", "_law_some"] spMixed _ fd_mix := ⟨ok_mixed F_mix B A_drw, m_mix, F_mix.kp, b_mix⟩
  have A_sam : At P w K mg base "_law_same" 5 ["_law_found", "_law_due_here"] (spSame 4) _ fd_sam := ⟨okSame F_sam B m_sam F_sam.kp b_sam 4, m_sam, F_sam.kp, b_sam⟩
  have A_rfl : At P w K mg base "_law_right_flags" 3 ["_law_stream", "_law_signs"] spRFl _ fd_rfl := ⟨ok_rFl F_rfl B A_drw A_pck A_mix, m_rfl, F_rfl.kp, b_rfl⟩
  have A_wop : At P w K mg base "_law_word_options" 3 ["_law_stream", "_law_action"] spWOp _ fd_wop := ⟨ok_wOp F_wop B A_drw A_pck, m_wop, F_wop.kp, b_wop⟩
  have A_rop : At P w K mg base "_law_right_options" 4 ["_law_stream", "_law_action", "_law_is_option"] spROp _ fd_rop := ⟨ok_rOp F_rop B Z A_drw A_pck A_wop, m_rop, F_rop.kp, b_rop⟩
  have A_sma : At P w K mg base "_law_some_action" 3 ["_law_stream", "_law_is_option"] spSomeA _ fd_sma := ⟨ok_someA F_sma B A_pck, m_sma, F_sma.kp, b_sma⟩
  have A_lco : At P w K mg base "_law_copied" 5 ["_law_value"] (spCop 4) _ fd_lco := ⟨okLCop F_lco B m_lco F_lco.kp b_lco 4, m_lco, F_lco.kp, b_lco⟩
  have A_lde : At P w K mg base "_law_dest" 1 ["_law_flags", "_law_options", "_law_signs", "_law_is_option"] spLDest _ fd_lde := ⟨ok_lDest F_lde B, m_lde, F_lde.kp, b_lde⟩
  have A_fld : At P w K mg base "_law_flags_due" 1 ["_law_flags", "_law_action", "_law_signs"] spFlDue _ fd_fld := ⟨ok_flDue F_fld B, m_fld, F_fld.kp, b_fld⟩
  have A_due : At P w K mg base "_law_due" 2 ["_law_flags", "_law_options", "_law_signs", "_law_is_option"] spDue _ fd_due := ⟨ok_due F_due B Z A_fld A_lde, m_due, F_due.kp, b_due⟩
  have A_tol : At P w K mg base "_law_told" 1 ["_law_argument"] (spTold (He.ga K "Argument")) _ fd_tol := ⟨ok_told F_tol cA, m_tol, F_tol.kp, b_tol⟩
  exact ok_law F_law ⟨B, ⟨_, _, A_sta⟩, ⟨_, _, A_drw⟩, ⟨_, _, A_pck⟩, m_Parser, cP, ⟨_, _, mk_Parser, g_par, _, _, kb, fun _ _ _ _ => rfl⟩, ⟨_, _, A_rfl⟩, ⟨_, _, A_sma⟩, ⟨_, _, A_rop⟩, ⟨_, _, A_due⟩, ⟨_, _, A_lco⟩, ⟨_, _, g_add, mt_add_argument, b_add⟩, ⟨_, _, A_tol⟩, ⟨_, _, A_sam⟩⟩
end K67

open PySem PySem.W PySem.Calls PyProof.Rows
theorem PySem.Challenge.cw_optwright_k67_arguments_made_holds : PySem.Challenge.rw_optwright_k67_arguments_made.Holds := by
  refine K67.head K67.run ?_
  refine L2.walk_ofE (l := PySem.Challenge.rw_optwright_k67_arguments_made) (n := 63) (k := 10) (x := "_law_script") (CX := L2.CX0) rfl (by decide) (by kernel_rfl) ⟨rfl, by decide, by decide⟩ ?F (fun _ _ _ _ z => z)
  intro w mg fa h Y G hmg0
  obtain ⟨K, KX, c, cx⟩ := Y
  have hmg : mg ("law" : PySem.Str) = some (.ref fa) := by
    have e : (HandSHeadRun.topDef (OpenLaw.row PySem.Challenge.rw_optwright_k67_arguments_made).prog 84).name = ("law" : PySem.Str) := by kernel_rfl
    rw [← e]
    exact hmg0
  obtain ⟨fd, hb, hF⟩ := K67.facts (P := (PySem.Challenge.rw_optwright_k67_arguments_made).prog) (w := w) KX G hmg c cx
  exact ⟨K, fd, K67.spLaw K, KX, hb, fun H a ns hl _ hS => ⟨a, ns, rfl, hS, fun _ => rfl⟩, hF⟩

