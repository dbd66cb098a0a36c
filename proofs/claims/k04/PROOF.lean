import PyProof.Rows.All
import Wide.All
import OpenK.AllK
import Wide.FinOn
import PyProof.EqAt
import PyProof.EqKinds
import PyProof.TupleCall
import HandS.Base
import HandS.Call
import HandS.List
import HandS.Comp
import HandS.Text
import HandS.Exc
import HandS.ExcOwn
import HandS.TryOnly
import HandS.OwnEq
import HandS.Words
import HandS.ExcIs
import HandS.ExcValue
import HandS.ExcInit
import HandS.RaiseMore
import HandS.WordsExc
import HandS.WordsList
import HandS.TupAny
import HandS.FStr
import HandS.Flow
import HandS.IsInst
import KE.KStateDown
import Lean
import HandS.Ends
import HandS.More
import HandS.Defaults
import HandS.Head0
import HandS.Head1
import HandS.Head2
import HandS.HeadEnd
import HandS.HeadHook1
import HandS.HeadHook2
import HandS.ClsMeth
import HandS.Style
import HandS.EndBits
import KE.KOpsOwn
import HandS.SetFor
import PyProof.Rows.EqMixed
import PyProof.TypeEq
import HandS.Codes
import PyProof.Rows.Digits
import KE.KIntText
import HandS.ExcField
import HandS.FStrTup
import HandS.NoneIn
import PyProof.StrLawsRepr
import PySem.Challenge.RW_foldparts_k04_texts_of_ratios
set_option Elab.async false
set_option linter.all false
set_option maxRecDepth 100000
set_option maxHeartbeats 0
namespace FP
open PySem PySem.Spec PyProof.Rows L2

/-! ## a callee somewhere below the body -/
section
variable {X : Cx} {CX : CXT} {k : Nat} {f C : Addr} {fd : FuncData} {ps : List Str} {sp : Sp} {E : XK}
  {pins : List (Addr × Obj)} {σ : L2.St} {H : Hp} {s : Shared} {Q : VK} {A : Around}

theorem call_at {us : List Value} {vs : List V} (F : FnOk X.prog X.w X.K X.mg X.base CX k f fd ps sp)
    (hr : Room k A) (hfr : A.frames = X.A.frames) (hb : Binds X.K fd ps []) (hx : Passes CX X E)
    (I : Inv X pins σ H s) (r : Vals vs us) (h : sp vs H Q E) :
    wpAny (model X.prog X.w) A (call (.ref f) us) (EP X pins σ Q) X.xe s := by
  have n : (us ++ []).length = ps.length := by
    rw [List.append_nil, ← r.length]
    exact F.len _ _ _ _ h
  have b := hb s us I.kIn n
  rw [List.append_nil] at b
  have e := I.env0
  have e' : Env0 X.prog X.w X.K X.mg X.base A X.stack s H :=
    { frames := hfr.trans e.frames, mod := e.mod, bs := e.bs, bsz := e.bsz, funs := e.funs, frf := e.frf, hok := e.hok, bare := e.bare }
  refine wpAny_call (codeAny_mono (F.run A X.stack s H ⟨us, []⟩ us vs Q E hr e' b r h) ?_)
  intro res s' hq
  match res, hq with
  | .error ex, hq => exact hx pins σ H s ex s' I hq
  | .ok (.ret u), hq => exact I.after hq

/-- what comes back is a value of the layer, so no NotImplemented -/
theorem back_cmp {u : Value} {s' : Shared} (h : EP X pins σ Q u s') : PySem.W.CmpBack (EP X pins σ Q) u s' := by
  have z := h
  obtain ⟨v, H', I', r, q⟩ := z
  cases u <;> first
    | exact h
    | (exfalso
       cases v <;> first
         | (cases (show _ = _ from r); done)
         | (obtain ⟨_, y⟩ := r
            cases y))

/-- an own two-place operator at two instances of one class -/
def rOwn (C : Addr) (sp : Sp) (E : XK) : R2 := fun x y H Q => ∃ a dx fs b dy gs, x = .ref a ∧ H a = some (.ins C dx fs) ∧ y = .ref b ∧ H b = some (.ins C dy gs) ∧ sp [.ref a, .ref b] H Q E

theorem op_own {op : Operator} (F : FnOk X.prog X.w X.K X.mg X.base CX k f fd ps sp) (hr : Room k X.A)
    (hc : PySem.W.selfFirst X.K C = true) (hs : PySem.W.findIn X.K (.ref C) (PySem.dunder op.info.2) = some (some (.ref f)))
    (hf : PySem.W.isFn X.K (.ref f) = true) (hb : Binds X.K fd ps []) (hx : Passes CX X E) :
    OpR X (binaryOp op) (rOwn C sp E) := by
  rintro pins s σ H x y v u Q I rx ry ⟨a, dx, fs, b, dy, gs, rfl, ha, rfl, hb2, h⟩
  cases rx; cases ry
  obtain ⟨_, O1, _⟩ := ins_get I.hok ha
  obtain ⟨_, O2, _⟩ := ins_get I.hok hb2
  obtain ⟨_, J1, _⟩ := O1.look
  obtain ⟨_, J2, _⟩ := O2.look
  obtain ⟨m, hF⟩ := I.fr
  refine PySem.W.binop_K hF I.ok.mod.kin J1 J2.type hc hs hf ?_
  exact thn (call_at (vs := [.ref a, .ref b]) F hr rfl hb hx I (.cons rfl (.cons rfl .nil)) h) fun _ _ z => back_cmp z

/-- == by an own method, the other value of a class tb that does not come first -/
theorem op_eqOwn (F : FnOk X.prog X.w X.K X.mg X.base CX k f fd ps sp) (hr : Room k X.A)
    (hs : PySem.W.findIn X.K (.ref C) "__eq__" = some (some (.ref f)))
    (hf : PySem.W.isFn X.K (.ref f) = true) (hb : Binds X.K fd ps []) (hx : Passes CX X E) :
    OpR X (compareOp .Eq) (rOwn C sp E) := by
  rintro pins s σ H x y v u Q I rx ry ⟨a, dx, fs, b, dy, gs, rfl, ha, rfl, hb2, h⟩
  cases rx; cases ry
  obtain ⟨_, O1, _⟩ := ins_get I.hok ha
  obtain ⟨_, O2, _⟩ := ins_get I.hok hb2
  obtain ⟨_, J1, _⟩ := O1.look
  obtain ⟨_, J2, _⟩ := O2.look
  obtain ⟨m, hF⟩ := I.fr
  refine PySem.W.cmp_ofEq (PySem.W.cmp_K (op := .Eq) hr.units0 hF I.ok.mod.kin J1 J2.type (by simp [PySem.W.notFirst]) hs hf ?_)
  exact thn (call_at (vs := [.ref a, .ref b]) F hr rfl hb hx I (.cons rfl (.cons rfl .nil)) h) fun _ _ z => back_cmp z

/-- - before an instance -/
def rNegOwn (C : Addr) (sp : Sp) (E : XK) : V → Hp → VK → Prop := fun x H Q => ∃ a dx fs, x = .ref a ∧ H a = some (.ins C dx fs) ∧ sp [.ref a] H Q E
theorem un_negOwn (F : FnOk X.prog X.w X.K X.mg X.base CX k f fd ps sp) (hr : Room k X.A)
    (hs : PySem.W.findIn X.K (.ref C) "__neg__" = some (some (.ref f)))
    (hf : PySem.W.isFn X.K (.ref f) = true) (hb : Binds X.K fd ps []) (hx : Passes CX X E) :
    UnR X (unaryOp .USub) (rNegOwn C sp E) := by
  rintro pins s σ H x v Q I rx ⟨a, dx, fs, rfl, ha, h⟩
  cases rx
  obtain ⟨_, O1, _⟩ := ins_get I.hok ha
  obtain ⟨_, J1, _⟩ := O1.look
  obtain ⟨m, hF⟩ := I.fr
  exact PySem.W.ksp_neg hF I.ok.mod.kin J1 hs hf (call_at (vs := [.ref a]) F hr rfl hb hx I (.cons rfl .nil) h)

/-- str(o) by an own __str__ -/
def rStrOwn (C : Addr) (sp : Sp) (E : XK) : List V → Hp → VK → Prop := fun xs H Q => ∃ a dx fs, xs = [.ref a] ∧ H a = some (.ins C dx fs) ∧
  sp [.ref a] H (fun v H' => (∃ t, v = .str t) ∧ Q v H') E
theorem call_strOwn (F : FnOk X.prog X.w X.K X.mg X.base CX k f fd ps sp) (hr : Room (k + 1) X.A)
    (hs : PySem.W.findIn X.K (.ref C) "__str__" = some (some (.ref f)))
    (hf : PySem.W.isFn X.K (.ref f) = true) (hb : Binds X.K fd ps []) (hx : Passes CX X E) :
    CallR X (.type "str") (rStrOwn C sp E) := by
  rintro pins s σ H xs us Q I r ⟨a, dx, fs, rfl, ha, h⟩
  obtain ⟨u, rfl, rx⟩ := vals1 r
  cases rx
  obtain ⟨_, O1, _⟩ := ins_get I.hok ha
  obtain ⟨_, J1, _⟩ := O1.look
  have hr2 : Room k X.A.in1.in1 := ⟨hr.hd, by have := hr.dp; show X.A.depth + 3 * k + 5 < _; omega, by have := hr.un; show X.A.units + 1 + 1 + 16 * k + 200 < _; omega⟩
  refine PySem.W.kso_call hr2.units0 I.kIn J1 hs hf ?_
  refine thn (call_at (vs := [.ref a]) F hr2 rfl hb hx I (.cons rfl .nil) h) fun u s' z => ?_
  obtain ⟨v, H', I', rv, ⟨t, rfl⟩, q⟩ := z
  obtain ⟨tk, rfl⟩ := rv
  exact ⟨.str t, H', I', ⟨tk, rfl⟩, q⟩
end
end FP
namespace FP
open PySem PySem.Spec PyProof.Rows L2
/-! ## != by an own == -/
section
variable {M : Model} {prog : Program} {w : World} {A : Around} {Ex : Value → Shared → Prop} {s : Shared} {K : PySem.W.Frag} {x C f : Addr} {ox : Obj} {od : Option Obj} {b tb : Value}
theorem ifBound_ne {args : List Value} {Q : Option Value → Shared → Prop} (hK : K.In s.heap) (J : PySem.W.InstAt s.heap x ox C od)
    (hn : PySem.W.findIn K (.ref C) "__ne__" = some (some (.builtin "object.__ne__")))
    (h : wpAny M A (call (.builtin "object.__ne__") (.ref x :: args)) (fun v => Q (some v)) Ex s) :
    wpAny M A (callSpecialIfBound? (.ref x) "__ne__" args) Q Ex s := by
  have last : wpAny M A (call (.builtin "object.__ne__") ([.ref x] ++ args) >>= fun v => pure (some v)) Q Ex s :=
    wpAny_bind (wpAny_mono h (fun _ _ q => wpAny_pure q) fun _ _ q => q)
  unfold callSpecialIfBound? bindSpecialIfBound?
  refine wpAny_holding (wpAny_bind (wpAny_bind (wpAny_bind ?_)))
  refine J.type.here ((PySem.W.looks_findIn hK hn).here (wpAny_bind (wpAny_askSetting (wpAny_ite ?_))))
  split
  next => exact wpAny_bind (wpAny_of_eq (F.cmp_object.ne.bind _) (wpAny_pure (by exact last)))
  next => exact wpAny_tryCatch (wpAny_bind (wpAny_of_eq (F.cmp_object.ne.bind _) (wpAny_pure (by exact last))))

theorem ne_body {Q : Fin → Shared → Prop} (hu : A.units < cLine) (hK : K.In s.heap) (J : PySem.W.InstAt s.heap x ox C od)
    (hs : PySem.W.findIn K (.ref C) "__eq__" = some (some (.ref f))) (hf : PySem.W.isFn K (.ref f) = true)
    (h : wpAny M A (call (.ref f) [.ref x, b]) (fun v s' => ∃ c, v = .bool c ∧ Q (.done (.ret (.bool (!c)))) s') Ex s) :
    wpAny M A (Builtin.«object.__ne__» ⟨[.ref x, b], []⟩) Q Ex s := by
  have one : wpAny M A (callSpecialIfBound? (.ref x) "__eq__" [b]) (fun r s' => ∃ c, r = some (.bool c) ∧ Q (.done (.ret (.bool (!c)))) s') Ex s :=
    PySem.W.ifBound_K hK J hs hf (wpAny_mono h (fun v s' ⟨c, e, q⟩ => ⟨c, by rw [e], q⟩) fun _ _ q => q)
  unfold Builtin.«object.__ne__»
  repeat (first
    | with_reducible refine wpAny_cRoomFor hu ?_
    | (refine wpAny_bind (m := callSpecialIfBound? (.ref x) (Str.ofString "__eq__") [b]) (wpAny_mono one (fun r s' z => ?_) fun _ _ q => q)
       obtain ⟨c, rfl, q⟩ := z
       repeat (first | exact q | exact wpAny_pure q | exact wpAny_truthy_bool q | (refine wpAny_bind (m := truthy (.bool _)) (wpAny_truthy_bool ?_)) | wp_step))
    | wp_step)

theorem richNe {Q : Value → Shared → Prop} (hu : A.units + 1 < cLine) (hK : K.In s.heap) (J : PySem.W.InstAt s.heap x ox C od)
    (hm : PySem.W.mroIn K C (.type "object") = some true)
    (hb : PySem.W.Looks (model prog w) s.heap (typeOf b) tb) (hnf : PySem.W.notFirst K C tb = true)
    (hn : PySem.W.findIn K (.ref C) "__ne__" = some (some (.builtin "object.__ne__")))
    (hs : PySem.W.findIn K (.ref C) "__eq__" = some (some (.ref f))) (hf : PySem.W.isFn K (.ref f) = true)
    (h : wpAny (model prog w) A.in1 (call (.ref f) [.ref x, b]) (fun v s' => ∃ c, v = .bool c ∧ Q (.bool (!c)) s') Ex s) :
    wpAny (model prog w) A (richCompare .NotEq (.ref x) b) Q Ex s := by
  have one : wpAny (model prog w) A (tryCompare (.ref x) "__ne__" b) (fun r s' => ∃ c, r = some (.bool c) ∧ Q (.bool c) s') Ex s := by
    unfold tryCompare
    refine wpAny_bind (ifBound_ne hK J hn ?_)
    refine wpAny_call (codeAny_call_builtin F.cmp_object.ne.plain F.cmpEntry_ne (PySem.W.check_slot F.cmpKind_ne F.cmpSplit_ne (J.type.andThen (PySem.W.looks_mroIn hK hm)) (F.cmpArgs_ne _ _) ?_))
    refine ne_body (A := A.in1) hu hK J hs hf (wpAny_mono h (fun v s' z => ?_) fun _ _ q => q)
    obtain ⟨c, e, q⟩ := z
    refine ⟨c, e, ?_⟩
    first
      | exact wpAny_pure ⟨!c, rfl, q⟩
      | exact ⟨_, rfl, q⟩
  unfold richCompare
  simp only [oneThing_ref]
  refine wpAny_holding (wpAny_bind (wpAny_cRoomFor (Nat.lt_of_succ_lt hu) ?_))
  rw [cmpInfo_NotEq]
  dsimp only
  refine wpAny_bind (J.type.here (wpAny_bind (hb.here ?_)))
  split
  next q =>
    have e : PySem.W.subIn K tb (.ref C) = some false := by
      unfold PySem.W.notFirst at hnf
      rcases Bool.or_eq_true_iff.mp hnf with z | z
      · rw [beq_iff_eq.mp z] at q
        simp at q
      · exact beq_iff_eq.mp z
    refine wpAny_bind ((PySem.W.looks_subIn hK e).here ?_)
    simp only [Bool.false_eq_true, if_false]
    refine wpAny_bind (wpAny_mono one (fun r s' z => ?_) fun _ _ q => q)
    obtain ⟨c, rfl, q⟩ := z
    exact wpAny_pure q
  next q =>
    refine wpAny_bind (wpAny_pure ?_)
    simp only [Bool.false_eq_true, if_false]
    refine wpAny_bind (wpAny_mono one (fun r s' z => ?_) fun _ _ q => q)
    obtain ⟨c, rfl, q⟩ := z
    exact wpAny_pure q
end
section
variable {X : Cx} {CX : CXT} {k : Nat} {f C : Addr} {fd : FuncData} {ps : List Str} {sp : Sp} {E : XK}
/-- what a class with an own == is known by -/
structure EqC (K : PySem.W.Frag) (C f : Addr) : Prop where
  eq : PySem.W.findIn K (.ref C) "__eq__" = some (some (.ref f))
  fn : PySem.W.isFn K (.ref f) = true
  ne : PySem.W.findIn K (.ref C) "__ne__" = some (some (.builtin "object.__ne__"))
  mro : PySem.W.mroIn K C (.type "object") = some true
def rNeOwn (C : Addr) (sp : Sp) (E : XK) : R2 := rOwn C (fun vs H Q E => sp vs H (fun v H' => ∃ c, v = .bl c ∧ Q (.bl (!c)) H') E) E
theorem op_neOwn (F : FnOk X.prog X.w X.K X.mg X.base CX k f fd ps sp) (hr : Room (k + 1) X.A) (c : EqC X.K C f) (hb : Binds X.K fd ps []) (hx : Passes CX X E) :
    OpR X (compareOp .NotEq) (rNeOwn C sp E) := by
  rintro pins s σ H x y v u Q I rx ry ⟨a, dx, fs, b, dy, gs, rfl, ha, rfl, hb2, h⟩
  cases rx; cases ry
  obtain ⟨_, O1, _⟩ := ins_get I.hok ha
  obtain ⟨_, O2, _⟩ := ins_get I.hok hb2
  obtain ⟨_, J1, _⟩ := O1.look
  obtain ⟨_, J2, _⟩ := O2.look
  have hr1 : Room k X.A.in1 := hr.in1
  refine PySem.W.cmp_ofNotEq (richNe (tb := .ref C) (by have := hr.un; omega) I.kIn J1 c.mro J2.type (by simp [PySem.W.notFirst]) c.ne c.eq c.fn ?_)
  refine thn (call_at (vs := [.ref a, .ref b]) F hr1 rfl hb hx I (.cons rfl (.cons rfl .nil)) h) fun u s' z => ?_
  obtain ⟨v, H', I', rv, ⟨c, rfl, q⟩⟩ := z
  cases rv
  exact ⟨c, rfl, .bl (!c), H', I', rfl, q⟩
end
end FP
namespace FP
open PySem PySem.Spec PyProof.Rows L2
/-! ## // by any divisor of less than 9,000 bits -/
def CQuo (_ j : Int) : Prop := j ≠ 0 ∧ j.natAbs.log2 < 9000
theorem op_quo {X : Cx} : OpR X (binaryOp .FloorDiv) (rI CQuo fun i j => .int (i.fdiv j)) :=
  opI fun _ _ _ _ _ _ _ c q => floordiv_int c.1 q (.inl (PyProof.noPylong_of_log2 c.2))
def CProd (i j : Int) : Prop := i.natAbs.log2 + j.natAbs.log2 < 100000000
theorem CProd.ok {i j : Int} (h : CProd i j) : IntMulOk i j := by
  have bits : ∀ z : Int, Builtin.Int.intBits z ≤ z.natAbs.log2 + 1 := by
    intro z
    unfold Builtin.Int.intBits
    split <;> omega
  have b1 := bits i
  have b2 := bits j
  have b3 : i.natAbs.log2 + j.natAbs.log2 < 100000000 := h
  have e : bitsLine = 134217728 := by decide
  intro z
  have z2 := (Bool.and_eq_true_iff.mp z).2
  unfold Builtin.Int.intTooBig at z2
  have z3 := of_decide_eq_true z2
  omega
theorem op_prod {X : Cx} : OpR X (binaryOp .Mult) (rI CProd fun i j => .int (i * j)) := opI fun _ _ _ _ _ _ _ c q => mul_int q c.ok

/-! ## defs that are called where no repr is under way -/
structure FnG (P : Program) (w : World) (K : PySem.W.Frag) (mg : Str → Option Value) (base : Heap) (CX : CXT) (k : Nat) (f : Addr) (fd : FuncData) (ps : List Str) (sp : Sp) : Prop where
  len : ∀ vs H Q E, sp vs H Q E → vs.length = ps.length
  run : ∀ (A : Around) (out : List Env) (s : Shared) (H : Hp) (args : Args) (us : List Value) (vs : List V) (Q : VK) (E : XK),
    A.guards = some [] → Room k A → Env0 P w K mg base A out s H → BindsTo s fd args (ps.zip us) → Vals vs us → sp vs H Q E →
    codeAny (model P w) A (.call (.ref f) args) (CR CX out P w H s Q E) s
section
variable {P : Program} {w : World} {K : PySem.W.Frag} {mg : Str → Option Value} {base : Heap} {CX : CXT} {j k : Nat} {f : Addr} {fd : FuncData} {ps : List Str} {sp : Sp}
theorem FnG.of (F : FnOk P w K mg base CX k f fd ps sp) : FnG P w K mg base CX k f fd ps sp :=
  ⟨F.len, fun A out s H args us vs Q E _ => F.run A out s H args us vs Q E⟩
theorem FnG.mono (F : FnG P w K mg base CX j f fd ps sp) (h : j ≤ k) : FnG P w K mg base CX k f fd ps sp :=
  ⟨F.len, fun A out s H args us vs Q E g hr => F.run A out s H args us vs Q E g (hr.mono h)⟩

theorem fnG {name qual : Str} {params : Arguments} {body : List Stmt} {scope : Scope} {dV kV doc pm cdv ct oc : Value} {an od : Option Addr} {osl : Array (Option Value)} {N : List Str}
    (lk : K.lookup f = some ⟨oc, od, .func (PySem.W.fnOf name qual params body scope dV kV doc pm an cdv ct), osl⟩)
    (hcd : PySem.W.codeIn K cdv qual = true) (S : FnScope N ps scope) (len : ∀ vs H Q E, sp vs H Q E → vs.length = ps.length)
    (go : ∀ (A : Around) (out : List Env) (s : Shared) (H : Hp) (vs : List V) (Q : VK) (E : XK), A.guards = some [] →
      Room k (A.deeper (envOfC qual scope s.heap.objs.size f cdv)) → sp vs H Q E →
      ∃ t, PSs (cxOf CX P w K mg base N qual scope f cdv A out s H E) body t ∧ t { nx := fun _ H' => Q .non H', rt := Q } (start N vs) H) :
    FnG P w K mg base CX (k + 1) f (PySem.W.fnOf name qual params body scope dV kV doc pm an cdv ct) ps sp := by
  constructor
  · exact len
  intro A out s H args us vs Q E hg hr e0 hb r hsp
  have n := len _ _ _ _ hsp
  have inK : K.In s.heap := e0.mod.kin.keeps fun b o e => (e0.bs b o e).1
  have nl : s.heap.NoLimit := e0.mod.nolimit.keeps fun b o e => (e0.bs b o e).1
  have kinds : ∀ y ∈ ps.zip us, scope.names.lookup y.1 = some .local ∨
      (scope.names.lookup y.1 = some .cell ∧ ((cellsFrom (s.heap.objs.size + 1) scope.names []).lookup y.1).isSome = true) := by
    rintro ⟨a, b⟩ hy
    cases S.par a (List.of_mem_zip hy).1 with
    | inl z => exact .inl z
    | inr z => exact .inr ⟨z, PySem.W.cellsFrom_some _ _ _ (.inl z)⟩
  refine codeAny_call_function hr.depth (inK _ _ lk) rfl S.co S.gen rfl (PySem.W.codeRec_of inK hcd) (hb _ _ _ _ ?_)
  refine wpAny_newFunctionEnv_cells S.kind kinds ?_
  intro env he s1 x
  subst he
  refine ⟨nl.keeps x.toInCall.keep, codeAny_func ?_⟩
  obtain ⟨t, ht, hq⟩ := go A out s H vs Q E hg (hr.deeper _) hsp
  have I : L2.Inv (cxOf CX P w K mg base N qual scope f cdv A out s H E) [] (start N vs) H s1 := inv_start S hr.hd e0 n r x
  refine wpAny_mono (ht.run [] s1 (start N vs) H _ I hq) ?_ fun _ _ z => z
  intro fl s' z
  have last : ∀ {τ : L2.St} {G : Hp} {v : V} {u : Value}, L2.Inv (cxOf CX P w K mg base N qual scope f cdv A out s H E) [] τ G s' → RelV v u → Q v G → CE out P w H s Q u s' :=
    fun {τ G v u} J rv q => ⟨v, G, J.os, J.bare, J.base, J.hok, rv, q⟩
  cases fl with
  | brk =>
    obtain ⟨_, _, _, q⟩ := z
    exact q.elim
  | cont =>
    obtain ⟨_, _, _, q⟩ := z
    exact q.elim
  | next =>
    obtain ⟨_, _, J, q⟩ := z
    exact last (v := V.non) (u := Value.none) J rfl q
  | ret u =>
    obtain ⟨_, _, _, J, rv, q⟩ := z
    exact last J rv q

theorem okG {x qual : Str} {st : Stmt} {N : List Str} (F : Fun K x qual st f fd) (S : FnScope N ps (defScope st)) (len : ∀ vs H Q E, sp vs H Q E → vs.length = ps.length)
    (go : ∀ (cdv : Value) (A : Around) (out : List Env) (s : Shared) (H : Hp) (vs : List V) (Q : VK) (E : XK), A.guards = some [] →
      Room k (A.deeper (envOfC qual (defScope st) s.heap.objs.size f cdv)) → sp vs H Q E →
      ∃ t, PSs (cxOf CX0 P w K mg base N qual (defScope st) f cdv A out s H E).nox (defBody st) t ∧ t { nx := fun _ H' => Q .non H', rt := Q } (start N vs) H) :
    FnG P w K mg base CX0 (k + 1) f fd ps sp := by
  obtain ⟨oc, od, kV, doc, pm, an, cdv, ct, osl, rfl, lk, hcd⟩ := F.ex
  refine fnG lk hcd S len ?_
  intro A out s H vs Q E hg hr h
  obtain ⟨t, a, b⟩ := go cdv A out s H vs Q E hg hr h
  exact ⟨t, a.nox, b⟩
end
section
variable {X : Cx} {CX : CXT} {k : Nat} {f : Addr} {fd : FuncData} {ps : List Str} {sp : Sp} {E : XK} {x : Str} {p pos : Pos} {e : Expr} {es : List Expr} {t : TA}
theorem run_G {pins : List (Addr × Obj)} {σ : L2.St} {H : Hp} {s : Shared} {Q : VK} {us : List Value} {vs : List V} (F : FnG X.prog X.w X.K X.mg X.base CX k f fd ps sp) (hg : X.A.guards = some [])
    (hr : Room k X.A) (hb : Binds X.K fd ps []) (hx : Passes CX X E) (I : L2.Inv X pins σ H s) (r : Vals vs us) (h : sp vs H Q E) :
    wpAny (model X.prog X.w) X.A (call (.ref f) us) (EP X pins σ Q) X.xe s := by
  have n : (us ++ []).length = ps.length := by
    rw [List.append_nil, ← r.length]
    exact F.len _ _ _ _ h
  have b := hb s us I.kIn n
  rw [List.append_nil] at b
  refine wpAny_call (codeAny_mono (F.run X.A X.stack s H ⟨us, []⟩ us vs Q E hg hr I.env0 b r h) ?_)
  intro res s' hq
  match res, hq with
  | .error ex, hq => exact hx pins σ H s ex s' I hq
  | .ok (.ret u), hq => exact I.after hq
/-- f(e, ..) of such a def -/
def tCallG (sp : Sp) (E : XK) (t : TA) : TE := fun σ H Q => t σ H fun vs H1 => sp vs H1 Q E
theorem pe_callG (F : FnG X.prog X.w X.K X.mg X.base CX k f fd ps sp) (hg0 : X.A.guards = some []) (hr : Room k X.A) (hg : Gl X x) (hm : X.mg x = some (.ref f)) (hk : PySem.W.keepIn X.K (.ref f) = true)
    (hb : Binds X.K fd ps []) (hx : Passes CX X E) (ha : PA X (e :: es) t) (hdb : (x == ("__debug__" : Str)) = false := by decide)
    (he : starEach (e :: es) X.env = (false, eval e X.env) :: starEach es X.env := by rfl) (hpl : (backTo pos (starEach es X.env)).any (·.1) = false := by rfl) :
    PE X (.Call (.Name x p) (e :: es) [] pos) (tCallG sp E t) := by
  refine ⟨fun pins s σ H Q I h => wpAny_Call_Name_kw (ld_glob I hg hm ?_ hdb)⟩
  refine PySem.W.callWith_K (h₀ := X.base) I.ok.mod.kin hk ?_ he hpl
  exact thn (ha.run pos pins s σ H _ I h) fun us s1 ⟨vs, H1, I1, r, q⟩ => ⟨I1.kIn, run_G F hg0 hr hb hx I1 r q⟩
end

/-! ## repr of data -/
mutual
theorem dp_noDict {K : PySem.W.Frag} {H : Hp} : ∀ {x : V} {d : PyData}, Dp K H x d → d.hasDict = false
  | _, _, .non => by simp [PyData.hasDict]
  | _, _, .bl b => by simp [PyData.hasDict]
  | _, _, .int i => by simp [PyData.hasDict]
  | _, _, .str x => by simp [PyData.hasDict]
  | _, _, .lst h g => by simpa [PyData.hasDict] using dpAll_noDict g
  | _, _, .tup h g => by simpa [PyData.hasDict] using dpAll_noDict g
theorem dpAll_noDict {K : PySem.W.Frag} {H : Hp} : ∀ {xs : List V} {ds : List PyData}, DpAll K H xs ds → PyData.hasDictAll ds = false
  | _, _, .nil => by simp [PyData.hasDictAll]
  | _, _, .cons h g => by simp [PyData.hasDictAll, dp_noDict h, dpAll_noDict g]
end
/-- repr(x) of data -/
def rRepr (K : PySem.W.Frag) : List V → Hp → VK → Prop := fun xs H Q => ∃ x d, xs = [x] ∧ Dp K H x d ∧ d.showable = true ∧ d.shown.length ≤ sizeLine ∧ d.depth ≤ 60 ∧ Q (.str d.shown) H
theorem call_repr {X : Cx} {k : Nat} (hg : X.A.guards = some []) (hr : Room k X.A) : CallR X (.builtin "repr") (rRepr X.K) := by
  rintro pins s σ H xs us Q I r ⟨x, d, rfl, hd, hs, hz, hn, q⟩
  obtain ⟨u, rfl, rx⟩ := vals1 r
  obtain ⟨as, rd⟩ := Dp.reads I d x u hd rx
  have nd := dp_noDict hd
  cases hd with
  | non => cases rx; exact PySem.P.repr_of_none ⟨.str _, H, I.tok _, ⟨_, rfl⟩, by simpa [PyData.shown] using q⟩
  | bl b => cases rx; exact PySem.P.repr_of_bool ⟨.str _, H, I.tok _, ⟨_, rfl⟩, by simpa [PyData.shown] using q⟩
  | int i =>
    obtain ⟨t, rfl⟩ := rx
    exact PySem.P.repr_of_int (by simpa [PyData.showable] using hs) ⟨.str _, H, I.tok _, ⟨_, rfl⟩, by simpa [PyData.shown] using q⟩
  | str y =>
    obtain ⟨t, rfl⟩ := rx
    exact PySem.P.repr_of_str ⟨.str _, H, I.tok _, ⟨_, rfl⟩, by simpa [PyData.shown] using q⟩ (by simpa [PyData.shown] using hz)
  | lst h g =>
    cases rx
    refine repr_of_reads' rd hs (fun z => by rw [nd] at z; cases z) hg (by have := hr.un; omega) (fun _ _ e => e) (fun h' u tk kk => ?_) hz
    exact ⟨.str _, H, I.kept (t' := tk) kk, ⟨u, rfl⟩, q⟩
  | tup h g =>
    cases rx
    refine repr_of_reads' rd hs (fun z => by rw [nd] at z; cases z) hg (by have := hr.un; omega) (fun _ _ e => e) (fun h' u tk kk => ?_) hz
    exact ⟨.str _, H, I.kept (t' := tk) kk, ⟨u, rfl⟩, q⟩
end FP
namespace FP
open PySem PySem.Spec PyProof.Rows L2
/-! ## an own exception without arguments -/
section
variable {X : Cx} {C : Addr} {bmB : List Value} {B newId initId : String}
theorem pmk_own0 {x : Str} {p pos : Pos} (F : ExcBaseFacts B newId initId bmB) (q : PySem.W.excIn X.K C bmB newId = true) (gC : X.mg x = some (.ref C)) (kC : PySem.W.keepIn X.K (.ref C) = true)
    (r : Raises X (.ref C)) (hg : Gl X x) (hdb : (x == ("__debug__" : Str)) = false := by decide) :
    PMk X (.Call (.Name x p) [] [] pos) (fun _ H Q => Q (.ref C) none H) := by
  intro pins s σ H Q I h
  refine wpAny_Call_Name_kw (ld_glob I hg gC ?_ hdb)
  refine PySem.W.callWith_K0 I.kIn kC ?_
  obtain ⟨bm, N, nm, qn, bs, hdct, sn, sub, ab, col, dd, k0, k1, k2, k3, k5, mN, hC, hN, hni, T⟩ := exc_obj I.kIn q
  refine wpAny_call_exc_subT F T hC hN hni (fun h' e hm => ?_) (Nat.zero_le _)
  exact mk_of I hm r h (I.hok.gone hm.new)
end

/-! ## an exception that stays behind its except suite -/
/-- an exception of the class cls at a, its own dict d -/
def ExT (cls : Value) (d : Option Addr) (a : Addr) : HO := .ext fun h => ∃ (oe : Obj) (vs : Array Value), h.get? a = some oe ∧ Zc cls d oe ∧ oe.data = .fields vs
section
variable {X : Cx} {pins : List (Addr × Obj)} {σ : L2.St} {H : Hp} {s : Shared}
/-- an object that came behind the entry, known to nobody, is tracked from now on -/
theorem track {a : Addr} {o : HO} (I : L2.Inv X pins σ H s) (ha : H a = none) (h0 : X.s_0.heap.get? a = none) (hL : a ≠ X.env.locals)
    (hc : ∀ x c, X.env.cells.lookup x = some c → c ≠ a) (hp : ∀ p ∈ X.pn ++ pins, p.1 ≠ a) (new : ObjOk X.prog X.w (upd H a o) s.heap a o) : L2.Inv X pins σ (upd H a o) s := by
  have away : ∀ {b : Addr} {u : HO}, H b = some u → b ≠ a := fun {b u} e z => by rw [z, ha] at e; cases e
  have old : ∀ {b : Addr} {u : Obj}, X.s_0.heap.get? b = some u → b ≠ a := fun {b u} e z => by rw [z, h0] at e; cases e
  exact {
    ok := I.ok, os := I.os, bare := I.bare, loc := I.loc, cell := I.cell, len := I.len
    base := {
      keep := I.base.keep, slot := I.base.slot, there := I.base.there
      free := fun b u e n hx => by rw [upd_ne (old e)]; exact I.base.free b u e n hx
      tups := fun b xs e => by
        have z := I.base.tups b xs e
        rw [upd_ne (away z)]; exact z
      frzs := fun b u xs e => by
        have z := I.base.frzs b u xs e
        rw [upd_ne (away z)]; exact z
      tbls := fun b ps e => by
        obtain ⟨m, z⟩ := I.base.tbls b ps e
        exact ⟨m, by rw [upd_ne (away z)]; exact z⟩ }
    free := by rw [upd_ne (Ne.symm hL)]; exact I.free
    freeC := fun x c e => by rw [upd_ne (hc x c e)]; exact I.freeC x c e
    pin := fun p q => by
      obtain ⟨z1, z2, z3⟩ := I.pin p q
      exact ⟨z1, by rw [upd_ne (hp p q)]; exact z2, z3⟩
    hok := L2.HOk.laidN I.hok (fun _ _ e => e) ha new }
end
/-- what stands behind the suite: the exception is known on -/
def keepE (cls : Value) (d : Option Addr) (a : Addr) (i : Nat) (D : Ends) : Ends where
  nx := fun τ G => D.nx (τ.set i none) (upd G a (ExT cls d a))
  rt := fun v G => D.rt v (upd G a (ExT cls d a))
  bk := fun τ G => D.bk (τ.set i none) (upd G a (ExT cls d a))
  ct := fun τ G => D.ct (τ.set i none) (upd G a (ExT cls d a))
def wEsc (K : PySem.W.Frag) (c : Value) (i : Nat) (ts : Addr → Value → Option Addr → TS) (Wout : WX) (D : Ends) : WX := fun cls d σ H =>
  ∃ b, PySem.W.exmOne K cls c = some b ∧ (b = true → ∀ a, H a = none → ts a cls d (keepE cls d a i D) (σ.set i (some (.ref a))) H) ∧ (b = false → Wout cls d σ H)
section
variable {X : Cx} {x n : Str} {c : Value} {i : Nat} {body suite : List Stmt} {b0 : Stmt} {np pos pos' : Pos} {tb : WX → TS} {ts : Addr → Value → Option Addr → TS} {Wout : WX}
/-- try: body / except x as n: suite, the exception known behind it -/
theorem ps_try_esc (hs : X.stack = X.env :: X.outer) (hf : X.env.frame = some X.env.locals) (hex : X.ex = []) (hN : X.N.Nodup) (hi : X.N[i]? = some n) (hln : X.env.kindOf n = some .local) (hc : Names X x c) (tk : Takes X Wout)
    (hb : ∀ (W : WX) (pn : List (Addr × Obj)) (xe : Value → Shared → Prop), Takes (X.tr pn xe) W → PassesOwn (model X.prog X.w) X.A X.env xe → PSs (X.tr pn xe) body (tb W))
    (hsu : ∀ (a : Addr) (oe : Obj) (cls : Value) (d : Option Addr) (pn : List (Addr × Obj)), Zc cls d oe → (∃ vs, oe.data = .fields vs) → PSs (X.suite a ((a, oe) :: pn)) (b0 :: suite) (ts a cls d)) :
    PS X (.Try body [.ExceptHandler (some (.Name x np)) (some n) (b0 :: suite) pos'] [] [] pos) (fun D σ H => tb (wEsc X.K c i ts Wout D) D σ H) := by
  constructor
  intro pins s σ H D I h
  have ok := I.ok
  have frames : X.A.frames = some (X.env :: X.outer) := hs ▸ ok.frames
  refine wpAny_Try_except ?_
  let after : Value → Shared → Prop := fun e s1 => wpAny (model X.prog X.w) X.A (noteFrame e X.env) (fun _ s2 =>
    wpAny (model X.prog X.w) X.A (setFlight e none) (fun _ s3 =>
      wpAny (model X.prog X.w) X.A (handleBy e X.env [.ExceptHandler (some (.Name x np)) (some n) (b0 :: suite) pos']) (SP X pins D) X.xe s3) X.xe s2) X.xe s1
  have run := (hb (wEsc X.K c i ts Wout D) (X.pn ++ pins) after ?caught PassesOwn.looking).run [] s σ H D (I.toTry _) h
  case caught =>
    rintro u s' ⟨a, B, sI, pins', τ, G, cls, d, rfl, J', nb, up, sky, na, os, ag, b, hbm, yes, no⟩
    have J : L2.Inv X pins τ G sI := J'.ofTry ok
    rw [hs] at sky
    show wpAny (model X.prog X.w) X.A (noteFrame (.ref a) X.env) _ _ _
    refine Sky.land Zc.steady frames hf sky ?_
    intro g3 fl3 up3
    have J3 : L2.Inv X pins τ G { s' with heap := g3 } := J.landed nb fl3.1 (up.trans up3) os ag
    obtain ⟨oe3, vs3, at3, z3, d3⟩ := fl3.there
    have gone : B.get? a = none := fl3.2.1
    have noFrame : a ∉ frs (X.env :: X.outer) := by
      intro hm
      obtain ⟨_, o, e, nf⟩ := fl3.2.2.1.mem hm
      rw [at3] at e
      cases e
      exact nf _ d3
    have nL : a ≠ X.env.locals := by
      intro z
      exact noFrame (List.mem_filterMap.mpr ⟨X.env, List.mem_cons_self, by rw [hf, z]⟩)
    have nF : a ∉ X.fs := by
      intro hm
      obtain ⟨e, he, q⟩ := List.mem_filterMap.mp hm
      exact noFrame (List.mem_filterMap.mpr ⟨e, List.mem_cons_of_mem _ he, q⟩)
    have fresh : ∀ {b : Addr} {o : Obj}, sI.heap.get? b = some o → b ≠ a := by
      rintro b o e rfl
      rw [nb b o e (by rw [hs]; exact noFrame)] at gone
      cases gone
    have entry : X.s_0.heap.get? a = none := by
      cases e : X.s_0.heap.get? a with
      | none => rfl
      | some o =>
        obtain ⟨o', e'⟩ := J.base.there a o e (by rw [hex]; exact List.not_mem_nil)
        exact absurd rfl (fresh e')
    have noCell : ∀ y q, X.env.cells.lookup y = some q → q ≠ a := by
      intro y q e
      obtain ⟨v, o, at0, _⟩ := J.cell y q e
      exact fresh at0
    have noPin : ∀ p ∈ X.pn ++ pins, p.1 ≠ a := fun p hp => fresh (J.pin p hp).1
    have S3 := J3.suite at3 d3 na nL nF
    refine wpAny_handleBy_cons (codeAny_handlers_test ?_) (by intro q; cases q)
    have kind : PySem.W.Looks (model X.prog X.w) g3 (typeOf (.ref a)) cls := fun A Q E s k q => wpAny_typeOf_ref (k _ _ at3) (by rw [z3.1]; exact q)
    have fits := PySem.W.exm_one (M := model X.prog X.w) J3.kIn kind hbm
    have named : ∀ {Q : Value → Shared → Prop} {E : Value → Shared → Prop}, Q c { s' with heap := g3 } →
        wpAny (model X.prog X.w) (X.A.mark (some (.ref a))) (eval (.Name x np) X.env) Q E { s' with heap := g3 } := by
      intro Q E q
      obtain ⟨g, db, m | ⟨m, v, nn⟩⟩ := hc
      · exact ld_glob (X := X.suite a ((a, oe3) :: (X.pn ++ pins))) S3 g m q db
      · exact ld_blt (X := X.suite a ((a, oe3) :: (X.pn ++ pins))) S3 g m v q nn db
    refine named (fits.here ?_)
    cases b with
    | false =>
      show wpAny _ X.A (handleBy (.ref a) X.env []) _ _ _
      refine wpAny_handleBy_nil ?_
      obtain ⟨_, _, _, oe, vs, T, oT, tsx, he, hz, hd, h1, hr⟩ := id fl3
      unfold PySem.passOn
      refine wpAny_bind (wpAny_field he hd h1 ?_)
      rw [if_neg (show ¬ ((Value.ref T == Value.none) = true) from by simp)]
      have last : wpAny (model X.prog X.w) X.A (setFlight (.ref a) X.env.frame) (fun _ s4 =>
          wpAny (model X.prog X.w) X.A (throw (.ref a) : Sem Flow) (SP X pins D) X.xe s4) X.xe { s' with heap := g3 } := by
        rw [hf]
        refine HandSPX.setFlight_upZ fl3 ?_
        intro g4 held4 up4
        refine wpAny_throw (tk _ _ ⟨a, B, sI, pins, τ, G, cls, d, rfl, J, nb, (up.trans up3).trans up4, ?_, na, os, ag, no rfl⟩)
        exact .inr (.inr (by rw [hs]; exact held4))
      first
        | exact wpAny_bind (wpAny_pure (wpAny_bind last))
        | exact wpAny_bind last
    | true =>
      refine codeAny_handlers_suite_as ?_
      refine HandSPX.lands_againZ fl3 ?_
      intro g4 fl4 up4
      have J4 : L2.Inv X pins τ G { s' with heap := g4 } := J.landed nb fl4.1 ((up.trans up3).trans up4) os ag
      obtain ⟨oe4, vs4, at4, z4, d4⟩ := fl4.there
      have S4 := J4.suite at4 d4 na nL nF
      refine store_ok (X := X.suite a ((a, oe4) :: (X.pn ++ pins))) (v := .ref a) S4 hN hi (.inl hln) rfl ?_ (.inr hln)
      intro s5 S5
      have suiteRun := (hsu a oe4 cls d (X.pn ++ pins) z4 ⟨_, d4⟩).run [] s5 _ G (keepE cls d a i D) S5 (yes rfl a na)
      refine wpAny_mono suiteRun ?_ (fun _ _ z => False.elim z)
      intro f s6 z6
      have close : ∀ {τ6 : L2.St} {G6 : Hp} {R : Shared → Prop}, L2.Inv (X.suite a ((a, oe4) :: (X.pn ++ pins))) [] τ6 G6 s6 →
          (∀ s7, L2.Inv X pins (τ6.set i none) (upd G6 a (ExT cls d a)) s7 → R s7) →
          wpAny (model X.prog X.w) X.A (do bindName X.env n .none; unbindBehindTheSuite X.env n pos') (fun _ s7 => R s7) X.xe s6 := by
        intro τ6 G6 R S6 hR
        obtain ⟨at6, n6, _⟩ := S6.pin (a, oe4) (List.mem_append_left _ List.mem_cons_self)
        have J6 : L2.Inv X pins τ6 G6 s6 := S6.unsuite ok
        have K6 : L2.Inv X pins τ6 (upd G6 a (ExT cls d a)) s6 :=
          track J6 n6 entry nL noCell noPin ⟨⟨oe4, vs4, at6, z4, d4⟩, ⟨oe4, at6⟩, fun _ _ ⟨o, v, q, r⟩ k => ⟨o, v, k o q, r⟩⟩
        exact gone_ok K6 hN hi hln hR
      cases f with
      | next =>
        obtain ⟨_, _, S6, q6⟩ := z6
        exact close S6 fun s7 J7 => ⟨_, _, J7, q6⟩
      | brk =>
        obtain ⟨_, _, S6, q6⟩ := z6
        exact close S6 fun s7 J7 => ⟨_, _, J7, q6⟩
      | cont =>
        obtain ⟨_, _, S6, q6⟩ := z6
        exact close S6 fun s7 J7 => ⟨_, _, J7, q6⟩
      | ret u =>
        obtain ⟨_, _, _, S6, r6, q6⟩ := z6
        exact close S6 fun s7 J7 => ⟨_, _, _, J7, r6, q6⟩
  refine wpAny_mono run ?_ fun _ _ z => z
  intro f s1 z1
  cases f with
  | next =>
    obtain ⟨_, _, J, q⟩ := z1
    exact wpAny_execs_nil ⟨_, _, J.ofTry ok, q⟩
  | brk =>
    obtain ⟨_, _, J, q⟩ := z1
    exact ⟨_, _, J.ofTry ok, q⟩
  | cont =>
    obtain ⟨_, _, J, q⟩ := z1
    exact ⟨_, _, J.ofTry ok, q⟩
  | ret u =>
    obtain ⟨_, _, _, J, r, q⟩ := z1
    exact ⟨_, _, _, J.ofTry ok, r, q⟩
end

/-! ## what is asked of such an exception -/
section
variable {X : Cx}
/-- isinstance(e, c), e without a dict of its own -/
def rIsX (K : PySem.W.Frag) (D : Addr) : List V → Hp → VK → Prop := fun xs H Q => ∃ (a : Addr) (c : V) (cv : Value) (b : Bool), xs = [.ref a, c] ∧ H a = some (ExT (.ref D) none a) ∧
  (∀ u, RelV c u → u = cv) ∧ PySem.W.kitOne K (.ref D) cv = some b ∧ Q (.bl b) H
theorem call_isX {D : Addr} (C : ExcC X.K D) : CallR X (.builtin "isinstance") (rIsX X.K D) := by
  rintro pins s σ H xs us Q I r ⟨a, c, cv, b, rfl, ha, hcv, hk, q⟩
  obtain ⟨u, w', rfl, rx, rt⟩ := vals2 r
  cases rx
  have ec := hcv _ rt
  subst ec
  obtain ⟨⟨oe, vs, at0, z, dt⟩, _, _⟩ := I.hok a _ ha
  obtain ⟨oc, od, oda, osl⟩ := oe
  obtain ⟨h1, h2⟩ := z
  dsimp only at h1 h2 dt
  subst h1 h2 dt
  have J : PySem.W.InstAt s.heap a ⟨.ref D, none, .fields vs, osl⟩ D none := ⟨at0, rfl, rfl, trivial⟩
  exact PySem.W.kia_one (PySem.W.handS_kitx_exc C.hg C.hk C.hs C.hd C.ha C.hn C.ht C.hm) I.kIn J hk (fun z => nomatch z) fun tk => ⟨.bl b, H, I.kept (t' := tk) fun _ _ z => z, rfl, q⟩
end
end FP
namespace FP
open PySem PySem.Spec PyProof.Rows L2
/-! ## defs by what they do -/
section
variable (P : Program) (w : World) (K : PySem.W.Frag) (mg : Str → Option Value) (base : Heap) (CX : CXT) (k : Nat) (f : Addr) (ps : List Str) (sp : Sp)
/-- the def at f keeps sp -/
structure Does : Prop where
  ex : ∃ fd, FnOk P w K mg base CX k f fd ps sp ∧ Binds K fd ps []
  kp : PySem.W.keepIn K (.ref f) = true
/-- .. where no repr is under way -/
structure DoesG : Prop where
  ex : ∃ fd, FnG P w K mg base CX k f fd ps sp ∧ Binds K fd ps []
  kp : PySem.W.keepIn K (.ref f) = true
end
section
variable {P : Program} {w : World} {K : PySem.W.Frag} {mg : Str → Option Value} {base : Heap} {CX : CXT} {j k : Nat} {f : Addr} {fd : FuncData} {ps : List Str} {sp : Sp}
theorem Does.mono (D : Does P w K mg base CX j f ps sp) (h : j ≤ k) : Does P w K mg base CX k f ps sp := let ⟨⟨fd, F, b⟩, kp⟩ := D; ⟨⟨fd, F.mono h, b⟩, kp⟩
theorem DoesG.mono (D : DoesG P w K mg base CX j f ps sp) (h : j ≤ k) : DoesG P w K mg base CX k f ps sp := let ⟨⟨fd, F, b⟩, kp⟩ := D; ⟨⟨fd, F.mono h, b⟩, kp⟩
theorem Does.g (D : Does P w K mg base CX k f ps sp) : DoesG P w K mg base CX k f ps sp := let ⟨⟨fd, F, b⟩, kp⟩ := D; ⟨⟨fd, .of F, b⟩, kp⟩
theorem Does.imp {sp' : Sp} (D : Does P w K mg base CX k f ps sp) (h : ∀ vs H Q E, sp' vs H Q E → sp vs H Q E) : Does P w K mg base CX k f ps sp' := let ⟨⟨fd, F, b⟩, kp⟩ := D; ⟨⟨fd, F.imp h, b⟩, kp⟩

/-- how the arguments bind, where all are given -/
abbrev AllGiven (x qual : Str) (st : Stmt) (ps : List Str) : Prop := ∀ (kV doc pm : Value) (an : Option Addr) (cdv ct : Value) (us : List Value), us.length = ps.length →
  bindArgs (PySem.W.fnOf x qual (defArgs st) (defBody st) (defScope st) .none kV doc pm an cdv ct) ⟨us, []⟩ = pure (ps.zip us)
variable {x qual : Str} {st : Stmt} {N : List Str} {E : XK}
/-- a def that lets nothing out -/
theorem does0 (F : Fun K x qual st f fd) (S : FnScope N ps (defScope st)) (b : AllGiven x qual st ps) (len : ∀ vs H Q E, sp vs H Q E → vs.length = ps.length) (t : TS)
    (der : ∀ (cdv : Value) (A : Around) (out : List Env) (s : Shared) (H : Hp) (E : XK), Room k (A.deeper (envOfC qual (defScope st) s.heap.objs.size f cdv)) →
      PSs (cxOf CX0 P w K mg base N qual (defScope st) f cdv A out s H E).nox (defBody st) t)
    (pure_ : ∀ vs H Q E, sp vs H Q E → t { nx := fun _ H' => Q .non H', rt := Q } (start N vs) H) : Does P w K mg base CX0 (k + 1) f ps sp :=
  ⟨⟨fd, F.ok S len fun cdv A out s H vs Q E hr h => ⟨t, der cdv A out s H E hr, pure_ vs H Q E h⟩, F.binds b⟩, F.kp⟩
/-- a def that may raise: its reading knows the wish E -/
theorem doesX (F : Fun K x qual st f fd) (S : FnScope N ps (defScope st)) (b : AllGiven x qual st ps) (len : ∀ vs H Q E, sp vs H Q E → vs.length = ps.length) (t : XK → TS)
    (der : ∀ (cdv : Value) (A : Around) (out : List Env) (s : Shared) (H : Hp) (E : XK), Room k (A.deeper (envOfC qual (defScope st) s.heap.objs.size f cdv)) →
      PSs (cxOf (L2.CX P w) P w K mg base N qual (defScope st) f cdv A out s H E) (defBody st) (t E))
    (pure_ : ∀ vs H Q E, sp vs H Q E → t E { nx := fun _ H' => Q .non H', rt := Q } (start N vs) H) : Does P w K mg base (L2.CX P w) (k + 1) f ps sp :=
  ⟨⟨fd, F.okX S len fun cdv A out s H vs Q E hr h => ⟨t E, der cdv A out s H E hr, pure_ vs H Q E h⟩, F.binds b⟩, F.kp⟩
theorem fnG0 (F : Fun K x qual st f fd) (S : FnScope N ps (defScope st)) (len : ∀ vs H Q E, sp vs H Q E → vs.length = ps.length) (t : TS)
    (der : ∀ (cdv : Value) (A : Around) (out : List Env) (s : Shared) (H : Hp) (E : XK), A.guards = some [] → Room k (A.deeper (envOfC qual (defScope st) s.heap.objs.size f cdv)) →
      PSs (cxOf CX0 P w K mg base N qual (defScope st) f cdv A out s H E).nox (defBody st) t)
    (pure_ : ∀ vs H Q E, sp vs H Q E → t { nx := fun _ H' => Q .non H', rt := Q } (start N vs) H) : FnG P w K mg base CX0 (k + 1) f fd ps sp :=
  okG F S len fun cdv A out s H vs Q E hg hr h => ⟨t, der cdv A out s H E hg hr, pure_ vs H Q E h⟩
theorem doesG (F : Fun K x qual st f fd) (S : FnScope N ps (defScope st)) (b : AllGiven x qual st ps) (len : ∀ vs H Q E, sp vs H Q E → vs.length = ps.length) (t : TS)
    (der : ∀ (cdv : Value) (A : Around) (out : List Env) (s : Shared) (H : Hp) (E : XK), A.guards = some [] → Room k (A.deeper (envOfC qual (defScope st) s.heap.objs.size f cdv)) →
      PSs (cxOf CX0 P w K mg base N qual (defScope st) f cdv A out s H E).nox (defBody st) t)
    (pure_ : ∀ vs H Q E, sp vs H Q E → t { nx := fun _ H' => Q .non H', rt := Q } (start N vs) H) : DoesG P w K mg base CX0 (k + 1) f ps sp :=
  ⟨⟨fd, okG F S len fun cdv A out s H vs Q E hg hr h => ⟨t, der cdv A out s H E hg hr, pure_ vs H Q E h⟩, F.binds b⟩, F.kp⟩
end

/-! ## calls of them; what may be raised is wished at the slots -/
section
variable {X : Cx} {CX : CXT} {k : Nat} {f C : Addr} {ps : List Str} {sp : Sp} {E : L2.St → XK} {x m : Str} {p pos apos : Pos} {e o : Expr} {es : List Expr} {ta : TE} {t : TA}
theorem pN0 : ∀ σ, PassesAt CX0 X σ ((fun _ => E0 : L2.St → XK) σ) := fun _ _ _ _ _ _ _ h => h.elim
theorem pNL : ∀ σ, PassesAt (L2.CX X.prog X.w) X σ ((fun _ => E0 : L2.St → XK) σ) := fun σ pins H s e s' I h => passL pins σ H s e s' I h
theorem pTk {W : WX} (tk : Takes X W) : ∀ σ, PassesAt (L2.CX X.prog X.w) X σ (WE W σ) := fun σ => passAt tk σ

theorem goS {A : Around} {pins : List (Addr × Obj)} {σ : L2.St} {H : Hp} {s : Shared} {Q : VK} {us : List Value} {vs : List V} (D : Does X.prog X.w X.K X.mg X.base CX k f ps sp) (hr : Room k A) (hfr : A.frames = X.A.frames)
    (hx : PassesAt CX X σ (E σ)) (I : L2.Inv X pins σ H s) (r : Vals vs us) (h : sp vs H Q (E σ)) : wpAny (model X.prog X.w) A (call (.ref f) us) (EP X pins σ Q) X.xe s := by
  obtain ⟨⟨fd, F, hb⟩, _⟩ := D
  have n : (us ++ []).length = ps.length := by
    rw [List.append_nil, ← r.length]
    exact F.len _ _ _ _ h
  have b := hb s us I.kIn n
  rw [List.append_nil] at b
  have e := I.env0
  have e' : Env0 X.prog X.w X.K X.mg X.base A X.stack s H :=
    { frames := hfr.trans e.frames, mod := e.mod, bs := e.bs, bsz := e.bsz, funs := e.funs, frf := e.frf, hok := e.hok, bare := e.bare }
  refine wpAny_call (codeAny_mono (F.run A X.stack s H ⟨us, []⟩ us vs Q (E σ) hr e' b r h) ?_)
  intro res s' hq
  match res, hq with
  | .error ex, hq => exact hx pins H s ex s' I hq
  | .ok (.ret u), hq => exact I.after hq
theorem goSG {pins : List (Addr × Obj)} {σ : L2.St} {H : Hp} {s : Shared} {Q : VK} {us : List Value} {vs : List V} (D : DoesG X.prog X.w X.K X.mg X.base CX k f ps sp) (g : X.A.guards = some []) (hr : Room k X.A)
    (hx : PassesAt CX X σ (E σ)) (I : L2.Inv X pins σ H s) (r : Vals vs us) (h : sp vs H Q (E σ)) : wpAny (model X.prog X.w) X.A (call (.ref f) us) (EP X pins σ Q) X.xe s := by
  obtain ⟨⟨fd, F, hb⟩, _⟩ := D
  have n : (us ++ []).length = ps.length := by
    rw [List.append_nil, ← r.length]
    exact F.len _ _ _ _ h
  have b := hb s us I.kIn n
  rw [List.append_nil] at b
  refine wpAny_call (codeAny_mono (F.run X.A X.stack s H ⟨us, []⟩ us vs Q (E σ) g hr I.env0 b r h) ?_)
  intro res s' hq
  match res, hq with
  | .error ex, hq => exact hx pins H s ex s' I hq
  | .ok (.ret u), hq => exact I.after hq

/-- f(e, ..) -/
def tF (sp : Sp) (E : L2.St → XK) (t : TA) : TE := fun σ H Q => t σ H fun vs H1 => sp vs H1 Q (E σ)
theorem pe_f (D : Does X.prog X.w X.K X.mg X.base CX k f ps sp) (hm : X.mg x = some (.ref f)) (hr : Room k X.A) (hx : ∀ σ, PassesAt CX X σ (E σ)) (ha : PA X (e :: es) t)
    (hg : Gl X x := by rfl) (hdb : (x == ("__debug__" : Str)) = false := by decide) (he : starEach (e :: es) X.env = (false, eval e X.env) :: starEach es X.env := by rfl)
    (hpl : (backTo pos (starEach es X.env)).any (·.1) = false := by rfl) : PE X (.Call (.Name x p) (e :: es) [] pos) (tF sp E t) := by
  refine ⟨fun pins s σ H Q I h => wpAny_Call_Name_kw (ld_glob I hg hm ?_ hdb)⟩
  refine PySem.W.callWith_K (h₀ := X.base) I.ok.mod.kin D.kp ?_ he hpl
  exact thn (ha.run pos pins s σ H _ I h) fun us s1 ⟨vs, H1, I1, r, q⟩ => ⟨I1.kIn, goS D hr rfl (hx σ) I1 r q⟩
theorem pe_f0 (D : Does X.prog X.w X.K X.mg X.base CX k f ps sp) (hm : X.mg x = some (.ref f)) (hr : Room k X.A) (hx : ∀ σ, PassesAt CX X σ (E σ))
    (hg : Gl X x := by rfl) (hdb : (x == ("__debug__" : Str)) = false := by decide) : PE X (.Call (.Name x p) [] [] pos) (tF sp E tNil) := by
  refine ⟨fun pins s σ H Q I h => wpAny_Call_Name_kw (ld_glob I hg hm ?_ hdb)⟩
  exact PySem.W.callWith_K0 I.kIn D.kp (goS (us := []) D hr rfl (hx σ) I .nil h)
theorem pe_g (D : DoesG X.prog X.w X.K X.mg X.base CX k f ps sp) (g : X.A.guards = some []) (hm : X.mg x = some (.ref f)) (hr : Room k X.A) (hx : ∀ σ, PassesAt CX X σ (E σ)) (ha : PA X (e :: es) t)
    (hg : Gl X x := by rfl) (hdb : (x == ("__debug__" : Str)) = false := by decide) (he : starEach (e :: es) X.env = (false, eval e X.env) :: starEach es X.env := by rfl)
    (hpl : (backTo pos (starEach es X.env)).any (·.1) = false := by rfl) : PE X (.Call (.Name x p) (e :: es) [] pos) (tF sp E t) := by
  refine ⟨fun pins s σ H Q I h => wpAny_Call_Name_kw (ld_glob I hg hm ?_ hdb)⟩
  refine PySem.W.callWith_K (h₀ := X.base) I.ok.mod.kin D.kp ?_ he hpl
  exact thn (ha.run pos pins s σ H _ I h) fun us s1 ⟨vs, H1, I1, r, q⟩ => ⟨I1.kIn, goSG D g hr (hx σ) I1 r q⟩

/-- o.m(e, ..) -/
def tM (C : Addr) (m : Str) (sp : Sp) (E : L2.St → XK) (ta : TE) (t : TA) : TE := fun σ H Q => ta σ H fun x H1 => ∃ a dx fs, x = .ref a ∧ H1 a = some (.ins C dx fs) ∧ fs.lookup m = none ∧
  t σ H1 fun vs H2 => sp (x :: vs) H2 Q (E σ)
theorem pe_m {pl : Sem Bool} (D : Does X.prog X.w X.K X.mg X.base CX k f ps sp) (c : Cls X.K C) (hm : Meth X.K C m f) (hr : Room k X.A) (hx : ∀ σ, PassesAt CX X σ (E σ)) (ho : PE X o ta) (ha : PA X (e :: es) t)
    (hst : starEach (e :: es) X.env = (false, eval e X.env) :: starEach es X.env := by rfl) (hpl : (backTo pos (starEach es X.env)).any (·.1) = false := by rfl)
    (ht : eval (.Call (.Attribute o m apos) (e :: es) [] pos) X.env = (do
      let ov ← eval o X.env; standAt apos.atName
      let (f, first) ← holding [ov] (getMethod ov m pl)
      callWith pos f first (backTo pos (starEach (e :: es) X.env)) (backToKw pos (keywordEach [] X.env))) := by rfl) :
    PE X (.Call (.Attribute o m apos) (e :: es) [] pos) (tM C m sp E ta t) := by
  refine ⟨fun pins s σ H Q I h => PySem.W.methodCall_KW (pl := pl) (thn (ho.run pins s σ H _ I h) ?_) ht⟩
  rintro u s1 ⟨x, H1, I1, rx, a, dx, fs, rfl, ea, l, q⟩
  cases rx
  refine getmeth_ok I1 ea c hm l (PySem.W.callWith_K (first := [.ref a]) (h₀ := X.base) I.ok.mod.kin hm.kp ?_ hst hpl)
  exact thn (ha.run pos pins s1 σ H1 _ I1 q) fun us s2 ⟨vs, H2, I2, r, q2⟩ => ⟨I2.kIn, goS (us := .ref a :: us) (vs := .ref a :: vs) D hr rfl (hx σ) I2 (.cons rfl r) q2⟩
theorem pe_m0 {pl : Sem Bool} (D : Does X.prog X.w X.K X.mg X.base CX k f ps sp) (c : Cls X.K C) (hm : Meth X.K C m f) (hr : Room k X.A) (hx : ∀ σ, PassesAt CX X σ (E σ)) (ho : PE X o ta)
    (ht : eval (.Call (.Attribute o m apos) [] [] pos) X.env = (do
      let ov ← eval o X.env; standAt apos.atName
      let (f, first) ← holding [ov] (getMethod ov m pl)
      callWith pos f first (backTo pos (starEach [] X.env)) (backToKw pos (keywordEach [] X.env))) := by rfl) :
    PE X (.Call (.Attribute o m apos) [] [] pos) (tM C m sp E ta tNil) := by
  refine ⟨fun pins s σ H Q I h => PySem.W.methodCall_KW (pl := pl) (thn (ho.run pins s σ H _ I h) ?_) ht⟩
  rintro u s1 ⟨x, H1, I1, rx, a, dx, fs, rfl, ea, l, q⟩
  cases rx
  refine getmeth_ok I1 ea c hm l ?_
  exact PySem.W.callWith_K0 (first := [.ref a]) I1.kIn hm.kp (goS (us := [.ref a]) (vs := [.ref a]) D hr rfl (hx σ) I1 (.cons rfl .nil) q)

/-- C(e, ..) -/
def tK (C : Addr) (sp : Sp) (E : L2.St → XK) (t : TA) : TE := fun σ H Q => t σ H fun vs H1 => ∀ x dx, H1 x = none → H1 dx = none → dx ≠ x →
  sp (.ref x :: vs) (upd (upd H1 dx (.own x)) x (.ins C dx [])) (fun v H2 => v = .non ∧ Q (.ref x) H2) (E σ)
theorem goMk {pins : List (Addr × Obj)} {σ : L2.St} {H : Hp} {s : Shared} {Q : VK} {us : List Value} {vs : List V} (D : Does X.prog X.w X.K X.mg X.base CX k f ps sp) (M : Mk X.K C f) (hr : Room (k + 1) X.A) (hx : PassesAt CX X σ (E σ))
    (I : L2.Inv X pins σ H s) (r : Vals vs us) (h : ∀ x dx, H x = none → H dx = none → dx ≠ x → sp (.ref x :: vs) (upd (upd H dx (.own x)) x (.ins C dx [])) (fun v H2 => v = .non ∧ Q (.ref x) H2) (E σ)) :
    wpAny (model X.prog X.w) X.A (call (.ref C) us) (EP X pins σ Q) X.xe s := by
  obtain ⟨⟨fd, F, hb⟩, _⟩ := D
  have q := h (s.heap.objs.size + 1) s.heap.objs.size (I.hok.fresh (Nat.le_succ _)) (I.hok.fresh (Nat.le_refl _)) (Nat.ne_of_lt (Nat.lt_succ_self _))
  have J := Inv.made (C := C) I
  have n := F.len _ _ _ _ q
  have rr : Vals (V.ref (s.heap.objs.size + 1) :: vs) (Value.ref (s.heap.objs.size + 1) :: us) := .cons rfl r
  have nn : ((Value.ref (s.heap.objs.size + 1) :: us) ++ []).length = ps.length := by
    rw [List.append_nil, ← rr.length]
    exact n
  have b := hb _ (Value.ref (s.heap.objs.size + 1) :: us) J.kIn nn
  rw [List.append_nil] at b
  refine wpAny_call (make_map (f := f) I.kIn M.makes M.init (beq_iff_eq.mp M.fn) (codeAny_mono (F.run _ X.stack _ _ ⟨_, []⟩ _ _ _ _ (hr.make C us []) (J.env0.make C us []) b rr q) ?_))
  intro res s' hq
  match res, hq with
  | .error ex, hq => exact hx pins _ _ ex s' J hq
  | .ok (.ret u), hq =>
    obtain ⟨v, H', J', rv, rfl, z⟩ := J.after hq
    exact ⟨rv, V.ref (s.heap.objs.size + 1), H', J', rfl, z⟩
theorem pe_k (D : Does X.prog X.w X.K X.mg X.base CX k f ps sp) (M : Mk X.K C f) (hm : X.mg x = some (.ref C)) (hr : Room (k + 1) X.A) (hx : ∀ σ, PassesAt CX X σ (E σ)) (ha : PA X (e :: es) t)
    (hg : Gl X x := by rfl) (hdb : (x == ("__debug__" : Str)) = false := by decide) (he : starEach (e :: es) X.env = (false, eval e X.env) :: starEach es X.env := by rfl)
    (hpl : (backTo pos (starEach es X.env)).any (·.1) = false := by rfl) : PE X (.Call (.Name x p) (e :: es) [] pos) (tK C sp E t) := by
  refine ⟨fun pins s σ H Q I h => wpAny_Call_Name_kw (ld_glob I hg hm ?_ hdb)⟩
  refine PySem.W.callWith_K (h₀ := X.base) I.ok.mod.kin M.kp ?_ he hpl
  exact thn (ha.run pos pins s σ H _ I h) fun us s1 ⟨vs, H1, I1, r, q⟩ => ⟨I1.kIn, goMk D M hr (hx σ) I1 r q⟩
theorem pe_k0 (D : Does X.prog X.w X.K X.mg X.base CX k f ps sp) (M : Mk X.K C f) (hm : X.mg x = some (.ref C)) (hr : Room (k + 1) X.A) (hx : ∀ σ, PassesAt CX X σ (E σ))
    (hg : Gl X x := by rfl) (hdb : (x == ("__debug__" : Str)) = false := by decide) : PE X (.Call (.Name x p) [] [] pos) (tK C sp E tNil) := by
  refine ⟨fun pins s σ H Q I h => wpAny_Call_Name_kw (ld_glob I hg hm ?_ hdb)⟩
  exact PySem.W.callWith_K0 I.kIn M.kp (goMk (us := []) D M hr (hx σ) I .nil h)
end
end FP
namespace FP
open PySem PySem.Spec PyProof.Rows L2
/-! ## readings that compute: names, operators on scalars -/
/-- no own operator -/
def noOp : R2 := fun _ _ _ _ => False
theorem opNo {X : Cx} {g : Value → Value → Sem Value} : OpR X g noOp := fun _ _ _ _ _ _ _ _ _ _ _ _ h => h.elim
def uAdd (K : PySem.W.Frag) (O : R2) : R2 := fun x y H Q => match x, y with
  | .int i, .int j => Q (.int (i + j)) H
  | .str i, .str j => i.length + j.length ≤ sizeLine ∧ Q (.str (i ++ j)) H
  | .ref a, .ref b => rCat (.ref a) (.ref b) H Q ∨ rCatA K (.ref a) (.ref b) H Q ∨ O (.ref a) (.ref b) H Q
  | _, _ => False
def uSub (O : R2) : R2 := fun x y H Q => match x, y with
  | .int i, .int j => Q (.int (i - j)) H
  | .ref a, .ref b => O (.ref a) (.ref b) H Q
  | _, _ => False
def uMul (O : R2) : R2 := fun x y H Q => match x, y with
  | .int i, .int j => CProd i j ∧ Q (.int (i * j)) H
  | .ref a, .int k => rRep (.ref a) (.int k) H Q
  | .ref a, .ref b => O (.ref a) (.ref b) H Q
  | _, _ => False
def uQuo : R2 := fun x y H Q => match x, y with
  | .int i, .int j => CQuo i j ∧ Q (.int (i.fdiv j)) H
  | _, _ => False
def uMod : R2 := fun x y H Q => match x, y with
  | .int i, .int j => 0 < j ∧ Q (.int (i % j)) H
  | _, _ => False
def uPow : R2 := fun x y H Q => match x, y with
  | .int i, .int j => CPow i j ∧ Q (.int (i ^ j.toNat)) H
  | _, _ => False
def uEq (K : PySem.W.Frag) (O : R2) : R2 := fun x y H Q => match x, y with
  | .int i, .int j => Q (.bl (decide (i = j))) H
  | .str i, .str j => Q (.bl (decide (i = j))) H
  | .bl i, .bl j => Q (.bl (decide (i = j))) H
  | .ref a, .ref b => rEqD K (.ref a) (.ref b) H Q ∨ O (.ref a) (.ref b) H Q
  | x, y => rEq x y H Q ∨ O x y H Q
def uNe (K : PySem.W.Frag) (O : R2) : R2 := fun x y H Q => match x, y with
  | .int i, .int j => Q (.bl (!decide (i = j))) H
  | .str i, .str j => Q (.bl (!decide (i = j))) H
  | .bl i, .bl j => Q (.bl (!decide (i = j))) H
  | .ref a, .ref b => rNeD K (.ref a) (.ref b) H Q ∨ O (.ref a) (.ref b) H Q
  | x, y => rNe x y H Q ∨ O x y H Q
def uLt : R2 := fun x y H Q => match x, y with
  | .int i, .int j => Q (.bl (decide (i < j))) H
  | _, _ => False
def uLe : R2 := fun x y H Q => match x, y with
  | .int i, .int j => Q (.bl (decide (i ≤ j))) H
  | _, _ => False
def uGt : R2 := fun x y H Q => match x, y with
  | .int i, .int j => Q (.bl (decide (j < i))) H
  | _, _ => False
def uGe : R2 := fun x y H Q => match x, y with
  | .int i, .int j => Q (.bl (decide (j ≤ i))) H
  | _, _ => False
/-- x in y, x not in y: a sign of a text; flat data in a list or tuple -/
def uIn (K : PySem.W.Frag) (neg : Bool) (O : R2) : R2 := fun x y H Q => match y with
  | .str z => ∃ c : Nat, x = .str ⟨#[c]⟩ ∧ Q (.bl (if neg then !decide (c ∈ z.cps.toList) else decide (c ∈ z.cps.toList))) H
  | .ref p => rIn K neg x (.ref p) H Q ∨ O x (.ref p) H Q
  | _ => False
def uIsN (neg : Bool) : R2 := fun x y H Q => y = .non ∧ Q (.bl (if neg then !decide (x = .non) else decide (x = .non))) H
def uNeg (O : V → Hp → VK → Prop) : V → Hp → VK → Prop := fun x H Q => match x with
  | .int i => Q (.int (-i)) H
  | .ref a => O (.ref a) H Q
  | _ => False
/-- a[i] -/
def uIx (K : PySem.W.Frag) : R2 := fun x y H Q => match x, y with
  | .str z, .int i => rIxS (.str z) (.int i) H Q
  | .ref p, .int i => ∃ xs v, (SqL K H p xs ∨ SqT K H p xs) ∧ atI xs i = some v ∧ Q v H
  | _, _ => False
/-- truth -/
def uTru (K : PySem.W.Frag) : V → Hp → (Bool → Hp → Prop) → Prop := fun x H Q => match x with
  | .bl b => Q b H
  | .int i => Q (i != 0) H
  | .non => Q false H
  | x => ∃ k, TruV K x H k ∧ Q k H
def vM (i : Nat) : TE := fun σ H Q => match σ[i]? with
  | some (some v) => Q v H
  | _ => False
def tyes (t : TE) : TT := fun σ H Q => t σ H fun x H' => match x with
  | .bl k => Q k H'
  | _ => False
section
variable {X : Cx} {O : R2}
theorem op_uAdd (ho : OpR X (binaryOp .Add) O) : OpR X (binaryOp .Add) (uAdd X.K O) := by
  intro pins s σ H x y v u Q I rx ry h
  cases x <;> cases y <;> first
    | exact h.elim
    | exact op_add pins s σ H _ _ v u Q I rx ry ⟨_, _, rfl, rfl, h⟩
    | exact op_add_str pins s σ H _ _ v u Q I rx ry ⟨_, _, rfl, rfl, h⟩
    | (rcases h with h | h | h
       · exact op_cat pins s σ H _ _ v u Q I rx ry h
       · exact op_catA pins s σ H _ _ v u Q I rx ry h
       · exact ho pins s σ H _ _ v u Q I rx ry h)
theorem op_uSub (ho : OpR X (binaryOp .Sub) O) : OpR X (binaryOp .Sub) (uSub O) := by
  intro pins s σ H x y v u Q I rx ry h
  cases x <;> cases y <;> first
    | exact h.elim
    | exact op_sub pins s σ H _ _ v u Q I rx ry ⟨_, _, rfl, rfl, h⟩
    | exact ho pins s σ H _ _ v u Q I rx ry h
theorem op_uMul (ho : OpR X (binaryOp .Mult) O) : OpR X (binaryOp .Mult) (uMul O) := by
  intro pins s σ H x y v u Q I rx ry h
  cases x <;> cases y <;> first
    | exact h.elim
    | exact op_prod pins s σ H _ _ v u Q I rx ry ⟨_, _, rfl, rfl, h⟩
    | exact op_rep pins s σ H _ _ v u Q I rx ry h
    | exact ho pins s σ H _ _ v u Q I rx ry h
theorem op_uQuo : OpR X (binaryOp .FloorDiv) uQuo := by
  intro pins s σ H x y v u Q I rx ry h
  cases x <;> cases y <;> first
    | exact h.elim
    | exact op_quo pins s σ H _ _ v u Q I rx ry ⟨_, _, rfl, rfl, h⟩
theorem op_uMod : OpR X (binaryOp .Mod) uMod := by
  intro pins s σ H x y v u Q I rx ry h
  cases x <;> cases y <;> first
    | exact h.elim
    | exact op_mod pins s σ H _ _ v u Q I rx ry ⟨_, _, rfl, rfl, h⟩
theorem op_uPow : OpR X (binaryOp .Pow) uPow := by
  intro pins s σ H x y v u Q I rx ry h
  cases x <;> cases y <;> first
    | exact h.elim
    | exact op_pow pins s σ H _ _ v u Q I rx ry ⟨_, _, rfl, rfl, h⟩
theorem op_uEq (hu : X.A.units + 64 < cLine) (ho : OpR X (compareOp .Eq) O) : OpR X (compareOp .Eq) (uEq X.K O) := by
  intro pins s σ H x y v u Q I rx ry h
  have go : ∀ {c : Bool}, scal x y = true → c = decide (x = y) → Q (.bl c) H → rEq x y H Q := fun {c} a b q => ⟨a, by rw [← b]; exact q⟩
  cases x <;> cases y <;> first
    | (rcases h with h | h
       · exact op_eqD hu pins s σ H _ _ v u Q I rx ry h
       · exact ho pins s σ H _ _ v u Q I rx ry h)
    | (rcases h with h | h
       · exact op_eq pins s σ H _ _ v u Q I rx ry h
       · exact ho pins s σ H _ _ v u Q I rx ry h)
    | exact op_eq pins s σ H _ _ v u Q I rx ry (go rfl (by simp) h)
theorem op_uNe (hu : X.A.units + 64 < cLine) (ho : OpR X (compareOp .NotEq) O) : OpR X (compareOp .NotEq) (uNe X.K O) := by
  intro pins s σ H x y v u Q I rx ry h
  have go : ∀ {c : Bool}, scal x y = true → c = (!decide (x = y)) → Q (.bl c) H → rNe x y H Q := fun {c} a b q => ⟨a, by rw [← b]; exact q⟩
  cases x <;> cases y <;> first
    | (rcases h with h | h
       · exact op_neD hu pins s σ H _ _ v u Q I rx ry h
       · exact ho pins s σ H _ _ v u Q I rx ry h)
    | (rcases h with h | h
       · exact op_ne pins s σ H _ _ v u Q I rx ry h
       · exact ho pins s σ H _ _ v u Q I rx ry h)
    | exact op_ne pins s σ H _ _ v u Q I rx ry (go rfl (by simp) h)
theorem op_uLt : OpR X (compareOp .Lt) uLt := by
  intro pins s σ H x y v u Q I rx ry h
  cases x <;> cases y <;> first
    | exact h.elim
    | exact op_lt pins s σ H _ _ v u Q I rx ry ⟨_, _, rfl, rfl, h⟩
theorem op_uLe : OpR X (compareOp .LtE) uLe := by
  intro pins s σ H x y v u Q I rx ry h
  cases x <;> cases y <;> first
    | exact h.elim
    | exact op_le pins s σ H _ _ v u Q I rx ry ⟨_, _, rfl, rfl, h⟩
theorem op_uGt : OpR X (compareOp .Gt) uGt := by
  intro pins s σ H x y v u Q I rx ry h
  cases x <;> cases y <;> first
    | exact h.elim
    | exact op_gt pins s σ H _ _ v u Q I rx ry ⟨_, _, rfl, rfl, h⟩
theorem op_uGe : OpR X (compareOp .GtE) uGe := by
  intro pins s σ H x y v u Q I rx ry h
  cases x <;> cases y <;> first
    | exact h.elim
    | exact op_ge pins s σ H _ _ v u Q I rx ry ⟨_, _, rfl, rfl, h⟩
theorem op_uIn (ho : OpR X (compareOp .In) O) : OpR X (compareOp .In) (uIn X.K false O) := by
  intro pins s σ H x y v u Q I rx ry h
  cases y <;> first
    | exact h.elim
    | (obtain ⟨c, rfl, q⟩ := h
       exact op_in_sign pins s σ H _ _ v u Q I rx ry ⟨c, _, rfl, rfl, q⟩)
    | (rcases h with h | h
       · exact op_in_seq pins s σ H _ _ v u Q I rx ry h
       · exact ho pins s σ H _ _ v u Q I rx ry h)
theorem op_uNotIn (ho : OpR X (compareOp .NotIn) O) : OpR X (compareOp .NotIn) (uIn X.K true O) := by
  intro pins s σ H x y v u Q I rx ry h
  cases y <;> first
    | exact h.elim
    | (obtain ⟨c, rfl, q⟩ := h
       exact op_notIn_sign pins s σ H _ _ v u Q I rx ry ⟨c, _, rfl, rfl, q⟩)
    | (rcases h with h | h
       · exact op_notIn_seq pins s σ H _ _ v u Q I rx ry h
       · exact ho pins s σ H _ _ v u Q I rx ry h)
theorem op_uIs : OpR X (compareOp .Is) (uIsN false) := fun pins s σ H x y v u Q I rx ry h => op_isN pins s σ H x y v u Q I rx ry h
theorem op_uIsNot : OpR X (compareOp .IsNot) (uIsN true) := fun pins s σ H x y v u Q I rx ry h => op_notN pins s σ H x y v u Q I rx ry h
theorem un_no : UnR X (unaryOp .USub) fun _ _ _ => False := fun _ _ _ _ _ _ _ _ _ h => h.elim
theorem un_uNeg {O : V → Hp → VK → Prop} (ho : UnR X (unaryOp .USub) O) : UnR X (unaryOp .USub) (uNeg O) := by
  intro pins s σ H x v Q I rx h
  cases x <;> first
    | exact h.elim
    | exact un_neg pins s σ H _ v Q I rx ⟨_, rfl, h⟩
    | exact ho pins s σ H _ v Q I rx h
theorem ix_u : IxR X (uIx X.K) := by
  intro value slice pins s σ H x y v u Q I rx ry h hs
  cases x <;> cases y <;> first
    | exact h.elim
    | exact ix_str value slice pins s σ H _ _ v u Q I rx ry h hs
    | (obtain ⟨xs, z, h | h, hat, q⟩ := h
       · exact ix_list value slice pins s σ H _ _ v u Q I rx ry ⟨_, xs, _, z, rfl, rfl, h, hat, q⟩ hs
       · exact ix_tup value slice pins s σ H _ _ v u Q I rx ry ⟨_, xs, _, z, rfl, rfl, h, hat, q⟩ hs)
theorem tru_u : TruR X (uTru X.K) := by
  intro pins s σ H x v Q I rx h
  cases x <;> first
    | exact tru_ok pins s σ H _ v Q I rx ⟨_, rfl, h⟩
    | exact tru_ok pins s σ H _ v Q I rx h
theorem pt_u {a : Expr} {ta : TE} (ha : PE X a ta) (he : ∀ whole, isTrue a X.env whole = (do let v ← whole; standAt a.pos; holding [v] (truthy v)) := by intro _; rfl) :
    PT X a (fun σ H Q => ta σ H fun x H' => uTru X.K x H' Q) := by
  refine ⟨fun pins s σ H Q I h => ?_⟩
  exact isTrue_plain (thn (ha.run pins s σ H _ I h) fun v s1 ⟨x, H1, I1, r1, q1⟩ => tru_u pins s1 σ H1 x v Q I1 r1 q1) (he _)
theorem tyes_eq (t : TE) : tyes t = tTest t := by
  funext σ H Q
  have e : (fun (x : V) (H' : Hp) => match x with | .bl k => Q k H' | _ => False) = fun (x : V) (H' : Hp) => ∃ k, x = .bl k ∧ Q k H' := by
    funext x H'
    apply propext
    cases x <;> simp
  show t σ H _ = t σ H _
  rw [← e]
theorem pt_c {op : CmpOp} {r : R2} {a b : Expr} {ta tb : TE} {pos : Pos} (ho : OpR X (compareOp op) r) (ha : PE X a ta) (hb : PE X b tb) (hm : behindInMarks op b = false) : PT X (.Compare a [op] [b] pos) (tyes (tOp r ta tb)) := by
  rw [tyes_eq]
  exact pt_cmpR ho ha hb hm
theorem vm (i : Nat) {x : Str} {pos : Pos} (hN : X.N[i]? = some x := by rfl) (hv : Vis X.env.scope x := by first | exact Or.inl rfl | exact Or.inr (Or.inl rfl) | exact Or.inr (Or.inr rfl)) (hd : (x == ("__debug__" : Str)) = false := by decide)
    (hcd : (x == ("__classdict__" : Str)) = false := by decide) : PE X (.Name x pos) (vM i) := by
  refine ⟨fun pins s σ H Q I h => (pe_var (i := i) hN hv hd hcd).run pins s σ H Q I ?_⟩
  unfold vM at h
  split at h
  next v e => exact ⟨v, e, h⟩
  next => exact h.elim
end
end FP
namespace FP
open PySem PySem.Spec PyProof.Rows L2
/-! ## what the head tells -/
abbrev AlF : Type := Bool × List He.FnW
def obsF (fn : List He.DefD) (ex : PySem.W.Frag → Bool) (K : PySem.W.Frag) : AlF := (ex K && fn.all fun d => d.ok K, fn.map fun d => He.fnW K d.at_)
def valF (fn : List He.DefD) : AlF := (true, fn.map He.DefD.val)
def obsFG (n : Nat) (fn : List He.DefD) (ex : PySem.W.Frag → Bool) (g : Addr → Option Obj) : AlF := obsF fn ex (He.frG g (He.asD g n))
def hookF (n : Nat) (fn : List He.DefD) (ex : PySem.W.Frag → Bool) : PySem.W.Hook where
  α := AlF
  obs := fun s => obsFG n fn ex s.heap.get?
  val := fun _ => valF fn
  says := fun _ h => ∃ K : PySem.W.Frag, K.In h ∧ obsF fn ex K = valF fn
  of := fun _ _ e => ⟨_, He.frG_in, e⟩
  keeps := fun _ _ _ ⟨K, hK, c⟩ k => ⟨K, PySem.W.Frag.In.keeps hK k, c⟩
theorem obsF_eq {n : Nat} {fn : List He.DefD} {ex : PySem.W.Frag → Bool} {g : Addr → Option Obj} {s : Shared} (h : ∀ a, g a = s.heap.get? a) : obsFG n fn ex g = (hookF n fn ex).obs s := by
  have e : g = s.heap.get? := funext h
  rw [e] <;> rfl
section
variable {fn : List He.DefD} {ex : PySem.W.Frag → Bool} {K : PySem.W.Frag}
theorem told_ex (c : obsF fn ex K = valF fn) : ex K = true := (Bool.and_eq_true_iff.mp (show (ex K && fn.all fun d => d.ok K) = true from congrArg Prod.fst c)).1
theorem told_fn (c : obsF fn ex K = valF fn) (i : Nat) {d : He.DefD} (h : fn[i]? = some d := by rfl) : ∃ fd, FunD K d.name d.qual d.params d.body d.scope (d.dvs K) (d.kws K) (He.fAd K d.at_) fd := by
  have c1 := (Bool.and_eq_true_iff.mp (show (ex K && fn.all fun d => d.ok K) = true from congrArg Prod.fst c)).2
  have c2 : fn.map (fun d => He.fnW K d.at_) = fn.map He.DefD.val := congrArg Prod.snd c
  refine He.DefD.funD ?_ (List.all_eq_true.mp c1 d (List.mem_of_getElem? h))
  have z := congrArg (fun l => l[i]?) c2
  simp only [List.getElem?_map, h, Option.map_some, Option.some.injEq] at z
  exact z
end
/-- a def without defaults -/
def dPlain (at_ : Str × Option Str) (x qual : Str) (st : Stmt) : He.DefD := ⟨at_, x, qual, defArgs st, defBody st, defScope st, [], []⟩
theorem fun_of {K : PySem.W.Frag} {x qual : Str} {st : Stmt} {f : Addr} {at_ : Str × Option Str} {fd : FuncData}
    (F : FunD K (dPlain at_ x qual st).name (dPlain at_ x qual st).qual (dPlain at_ x qual st).params (dPlain at_ x qual st).body (dPlain at_ x qual st).scope ((dPlain at_ x qual st).dvs K) ((dPlain at_ x qual st).kws K) f fd) : Fun K x qual st f fd := by
  obtain ⟨⟨oc, od, dV, kV, doc, pm, an, cdv, ct, osl, e, l, c, hd, hk⟩, kp⟩ := F
  rcases hd with ⟨_, h⟩ | ⟨h, _⟩
  · subst h
    exact ⟨⟨oc, od, kV, doc, pm, an, cdv, ct, osl, e, l, c⟩, kp⟩
  · exact absurd rfl h

/-! ## facts by truth values -/
theorem and_ok {a b : Bool} (h : (a && b) = true) : a = true ∧ b = true := Bool.and_eq_true_iff.mp h
/-- a class -/
structure ClsF (K : PySem.W.Frag) (C : Addr) : Prop where
  cl : Cls K C
  self : PySem.W.selfFirst K C = true
  mro : PySem.W.mroIn K C (.type "object") = some true
  kp : PySem.W.keepIn K (.ref C) = true
  makes : PySem.W.makesIn K C = true
  hc : PySem.W.findIn K (.ref C) "__class__" = some (some (.builtin "object.__class__"))
  hn : PySem.W.specialIn K (.builtin "object.__class__") "__get__" = some (some (.builtin "getset_descriptor.__get__"))
  ht : PySem.W.takesIn K (.builtin "object.__class__") = some true
def clsB (K : PySem.W.Frag) (C : Addr) : Bool :=
  PySem.W.plainGet K C Str.empty && (PySem.W.hasDictIn K C && (PySem.W.plainOver K C && (He.eqO (PySem.W.findIn K (.ref C) "__setattr__") (some (some (.builtin "object.__setattr__"))) &&
  (PySem.W.selfFirst K C && (decide (PySem.W.mroIn K C (.type "object") = some true) && (PySem.W.keepIn K (.ref C) && (PySem.W.makesIn K C &&
  (He.eqO (PySem.W.findIn K (.ref C) "__class__") (some (some (.builtin "object.__class__"))) &&
  (He.eqO (PySem.W.specialIn K (.builtin "object.__class__") "__get__") (some (some (.builtin "getset_descriptor.__get__"))) && decide (PySem.W.takesIn K (.builtin "object.__class__") = some true))))))))))
theorem clsB_ok {K : PySem.W.Frag} {C : Addr} (h : clsB K C = true) : ClsF K C := by
  obtain ⟨h1, h⟩ := and_ok h
  obtain ⟨h2, h⟩ := and_ok h
  obtain ⟨h3, h⟩ := and_ok h
  obtain ⟨h4, h⟩ := and_ok h
  obtain ⟨h5, h⟩ := and_ok h
  obtain ⟨h6, h⟩ := and_ok h
  obtain ⟨h7, h⟩ := and_ok h
  obtain ⟨h8, h⟩ := and_ok h
  obtain ⟨h9, h⟩ := and_ok h
  obtain ⟨h10, h11⟩ := and_ok h
  exact ⟨⟨h1, h2, h3, He.eqO_ok h4⟩, h5, of_decide_eq_true h6, h7, h8, He.eqO_ok h9, He.eqO_ok h10, of_decide_eq_true h11⟩
def noB (K : PySem.W.Frag) (C : Addr) (f : Str) : Bool := He.eqO (PySem.W.findIn K (.ref C) f) (some none)
theorem noB_ok {K : PySem.W.Frag} {C : Addr} {f : Str} (h : noB K C f = true) : NoAttr K C f := He.eqO_ok h
def methB (K : PySem.W.Frag) (C : Addr) (m : Str) : Bool := He.eqO (PySem.W.findIn K (.ref C) m) (some (some (.ref (He.ma K C m)))) && (PySem.W.isFn K (.ref (He.ma K C m)) && PySem.W.keepIn K (.ref (He.ma K C m)))
theorem methB_ok {K : PySem.W.Frag} {C : Addr} {m : Str} (h : methB K C m = true) : Meth K C m (He.ma K C m) := by
  obtain ⟨h1, h⟩ := and_ok h
  obtain ⟨h2, h3⟩ := and_ok h
  exact ⟨He.eqO_ok h1, h2, h3⟩
/-- an exception class over ValueError -/
structure ExcF (K : PySem.W.Frag) (C : Addr) : Prop where
  ex : PySem.W.excIn K C [.type "ValueError", .type "Exception", .type "BaseException", .type "object"] "ValueError.__new__" = true
  kp : PySem.W.keepIn K (.ref C) = true
  sub : PySem.W.subIn K (.ref C) (.type "BaseException") = some true
  ty : PySem.W.typeIn K (.ref C) = some (.type "type")
  c : ExcC K C
def excB (K : PySem.W.Frag) (C : Addr) : Bool :=
  PySem.W.excIn K C [.type "ValueError", .type "Exception", .type "BaseException", .type "object"] "ValueError.__new__" && (PySem.W.keepIn K (.ref C) && (decide (PySem.W.subIn K (.ref C) (.type "BaseException") = some true) &&
  (decide (PySem.W.typeIn K (.ref C) = some (.type "type")) && (He.eqO (PySem.W.findIn K (.ref C) "__getattribute__") (some (some (.builtin "BaseException.__getattribute__"))) && (He.eqO (PySem.W.findIn K (.ref C) "__getattr__") (some none) &&
  (PySem.W.hasDictIn K C && (He.eqO (PySem.W.findIn K (.ref C) "__class__") (some (some (.builtin "object.__class__"))) &&
  (He.eqO (PySem.W.specialIn K (.builtin "object.__class__") "__get__") (some (some (.builtin "getset_descriptor.__get__"))) && (decide (PySem.W.takesIn K (.builtin "object.__class__") = some true) &&
  decide (PySem.W.mroIn K C (.type "object") = some true))))))))))
theorem excB_ok {K : PySem.W.Frag} {C : Addr} (h : excB K C = true) : ExcF K C := by
  obtain ⟨h1, h⟩ := and_ok h
  obtain ⟨h2, h⟩ := and_ok h
  obtain ⟨h3, h⟩ := and_ok h
  obtain ⟨h4, h⟩ := and_ok h
  obtain ⟨h5, h⟩ := and_ok h
  obtain ⟨h6, h⟩ := and_ok h
  obtain ⟨h7, h⟩ := and_ok h
  obtain ⟨h8, h⟩ := and_ok h
  obtain ⟨h9, h⟩ := and_ok h
  obtain ⟨h10, h11⟩ := and_ok h
  have e3 := of_decide_eq_true h3
  exact ⟨h1, h2, e3, of_decide_eq_true h4, ⟨He.eqO_ok h5, He.eqO_ok h6, e3, h7, He.eqO_ok h8, He.eqO_ok h9, of_decide_eq_true h10, of_decide_eq_true h11⟩⟩
def gloB (K : PySem.W.Frag) (x : Str) : Bool := He.eqO (PySem.W.nsIn K mainGlobals x) (some (some (.ref (He.ga K x))))
def freeB (K : PySem.W.Frag) (x : Str) : Bool := He.eqO (PySem.W.nsIn K mainGlobals x) (some none)
theorem gloB_ok {K : PySem.W.Frag} {h : Heap} {mg : Str → Option Value} (X : K.In h) (G : h.Ns mainGlobals mg) {x : Str} (c : gloB K x = true) : mg x = some (.ref (He.ga K x)) := PySem.W.mg_of X G (He.eqO_ok c)
theorem freeB_ok {K : PySem.W.Frag} {h : Heap} {mg : Str → Option Value} (X : K.In h) (G : h.Ns mainGlobals mg) {x : Str} (c : freeB K x = true) : mg x = none := PySem.W.mg_none_of X G (He.eqO_ok c)
theorem ClsF.mk_ {K : PySem.W.Frag} {C f : Addr} (c : ClsF K C) (m : Meth K C "__init__" f) : Mk K C f := ⟨c.makes, m.at_, m.fn, c.kp⟩
theorem ClsF.eqc {K : PySem.W.Frag} {C f : Addr} (c : ClsF K C) (m : Meth K C "__eq__" f) (n : PySem.W.findIn K (.ref C) "__ne__" = some (some (.builtin "object.__ne__"))) : EqC K C f := ⟨m.at_, m.fn, n, c.mro⟩
theorem ClsF.ty {K : PySem.W.Frag} {C : Addr} (c : ClsF K C) {H : Hp} {a dx : Addr} {fs : List (Str × V)} (e : H a = some (.ins C dx fs)) : TyOf K H (.ref a) (.ref C) := .ins e c.cl c.hc c.hn c.ht c.mro

/-! ## own operators by what they do -/
section
variable {X : Cx} {CX : CXT} {k : Nat} {f C : Addr} {ps : List Str} {sp : Sp} {E : XK}
theorem op_ownD {op : Operator} (D : Does X.prog X.w X.K X.mg X.base CX k f ps sp) (hr : Room k X.A) (c : ClsF X.K C) (m : Meth X.K C (PySem.dunder op.info.2) f) (hx : Passes CX X E) :
    OpR X (binaryOp op) (rOwn C sp E) := let ⟨⟨_, F, b⟩, _⟩ := D; op_own F hr c.self m.at_ m.fn b hx
theorem op_eqD1 (D : Does X.prog X.w X.K X.mg X.base CX k f ps sp) (hr : Room k X.A) (m : EqC X.K C f) (hx : Passes CX X E) : OpR X (compareOp .Eq) (rOwn C sp E) := let ⟨⟨_, F, b⟩, _⟩ := D; op_eqOwn F hr m.eq m.fn b hx
theorem op_neD1 (D : Does X.prog X.w X.K X.mg X.base CX k f ps sp) (hr : Room (k + 1) X.A) (m : EqC X.K C f) (hx : Passes CX X E) : OpR X (compareOp .NotEq) (rNeOwn C sp E) := let ⟨⟨_, F, b⟩, _⟩ := D; op_neOwn F hr m b hx
theorem un_negD (D : Does X.prog X.w X.K X.mg X.base CX k f ps sp) (hr : Room k X.A) (m : Meth X.K C "__neg__" f) (hx : Passes CX X E) : UnR X (unaryOp .USub) (rNegOwn C sp E) := let ⟨⟨_, F, b⟩, _⟩ := D; un_negOwn F hr m.at_ m.fn b hx
theorem call_strD (D : Does X.prog X.w X.K X.mg X.base CX k f ps sp) (hr : Room (k + 1) X.A) (m : Meth X.K C "__str__" f) (hx : Passes CX X E) : CallR X (.type "str") (rStrOwn C sp E) := let ⟨⟨_, F, b⟩, _⟩ := D; call_strOwn F hr m.at_ m.fn b hx
theorem CallR.or {g : Value} {r r' : List V → Hp → VK → Prop} (h : CallR X g r) (h' : CallR X g r') : CallR X g (fun xs H Q => r xs H Q ∨ r' xs H Q) := fun pins s σ H xs us Q I rr q =>
  q.elim (h pins s σ H xs us Q I rr) (h' pins s σ H xs us Q I rr)
def noCall : List V → Hp → VK → Prop := fun _ _ _ => False
theorem callNo {g : Value} : CallR X g noCall := fun _ _ _ _ _ _ _ _ _ h => h.elim
/-- str(x) of an int, a text, or what O says -/
def uStr (O : List V → Hp → VK → Prop) : List V → Hp → VK → Prop := fun xs H Q => match xs with
  | [.int i] => i.natAbs.log2 < 1920 ∧ Q (.str (toString i)) H
  | [.str a] => Q (.str a) H
  | xs => O xs H Q
theorem call_uStr {O : List V → Hp → VK → Prop} (ho : CallR X (.type "str") O) : CallR X (.type "str") (uStr O) := by
  intro pins s σ H xs us Q I r h
  unfold uStr at h
  split at h
  · exact call_str_int pins s σ H _ us Q I r ⟨_, rfl, h.1, h.2⟩
  · exact SkE.call_str_str pins s σ H _ us Q I r ⟨_, rfl, h⟩
  · exact ho pins s σ H _ us Q I r h
/-- isinstance(x, c) of a value of the layer, or of a kept exception of one of the classes Ds -/
def uIsi (K : PySem.W.Frag) (Ds : List Addr) : List V → Hp → VK → Prop := fun xs H Q =>
  (∃ x c t u b, xs = [x, c] ∧ ClsV c u ∧ TyOf K H x t ∧ PySem.W.kitOne K t u = some b ∧ Q (.bl b) H) ∨ ∃ D ∈ Ds, rIsX K D xs H Q
theorem call_uIsi {Ds : List Addr} (h : ∀ D ∈ Ds, ExcC X.K D) : CallR X (.builtin "isinstance") (uIsi X.K Ds) := by
  rintro pins s σ H xs us Q I r (⟨x, c, t, u, b, rfl, k, ty, e, q⟩ | ⟨D, hD, q⟩)
  · obtain ⟨u1, u2, rfl, r1, r2⟩ := vals2 r
    have e2 := k.eq r2
    subst e2
    exact isinst_ok I r1 ty e fun tk => ⟨.bl b, H, I.tok tk, rfl, q⟩
  · exact call_isX (h D hD) pins s σ H xs us Q I r q
def uLen (K : PySem.W.Frag) : List V → Hp → VK → Prop := fun xs H Q => ∃ x n, xs = [x] ∧ LenV K x H n ∧ Q (.int (n : Nat)) H
theorem call_uLen : CallR X (.builtin "len") (uLen X.K) := call_len
def uAbs : List V → Hp → VK → Prop := fun xs H Q => match xs with
  | [.int i] => Q (.int (if i < 0 then -i else i)) H
  | _ => False
theorem call_uAbs : CallR X (.builtin "abs") uAbs := by
  intro pins s σ H xs us Q I r h
  unfold uAbs at h
  split at h
  · exact call_abs pins s σ H _ us Q I r ⟨_, rfl, h⟩
  · exact h.elim
def uMax : List V → Hp → VK → Prop := fun xs H Q => match xs with
  | [.int i, .int j] => Q (.int (if j > i then j else i)) H
  | _ => False
theorem call_uMax (hc : X.calm = true) : CallR X (.builtin "max") uMax := by
  intro pins s σ H xs us Q I r h
  unfold uMax at h
  split at h
  · exact call_max2 hc pins s σ H _ us Q I r ⟨_, _, rfl, h⟩
  · exact h.elim
def uMin : List V → Hp → VK → Prop := fun xs H Q => match xs with
  | [.int i, .int j] => Q (.int (if j < i then j else i)) H
  | _ => False
theorem call_uMin (hc : X.calm = true) : CallR X (.builtin "min") uMin := by
  intro pins s σ H xs us Q I r h
  unfold uMin at h
  split at h
  · exact call_min2 hc pins s σ H _ us Q I r ⟨_, _, rfl, h⟩
  · exact h.elim
/-- a statement, then the rest shown once -/
def tMid (t u : TS) : TS := fun D σ H => ∃ M : L2.St → Hp → Prop, t { D with nx := M } σ H ∧ ∀ τ G, M τ G → u D τ G
theorem pss_mid {st : Stmt} {rest : List Stmt} {t u : TS} (h1 : PS X st t) (h2 : PSs X rest u) : PSs X (st :: rest) (tMid t u) := by
  constructor
  rintro pins s σ H D I ⟨M, a, b⟩
  refine wpAny_execs_cons (thn (h1.run pins s σ H { D with nx := M } I a) ?_)
  intro f s1 z
  cases f with
  | ret v => exact z
  | brk => exact z
  | cont => exact z
  | next =>
    obtain ⟨τ, G, J, q⟩ := z
    exact h2.run pins s1 τ G D J (b τ G q)
/-- a op= b at a name, as a op b where no own op= is -/
def rAug (r : R2) : TIp := fun x y H Q => r x y H Q
theorem ip_of {op : Operator} {r : R2} (h : OpR X (inplaceOp op) r) : PIp X op (rAug r) := fun pins s σ H x y v u Q I rx ry q => h pins s σ H x y v u Q I rx ry q
end
end FP
namespace FP
open PySem PySem.Spec PyProof.Rows L2
def wOf (E : XK) : WX := fun cls d _ H => E cls d H
def tRaise0 (C : Addr) (W : WX) : TS := fun _ σ H => W (.ref C) none σ H
theorem ps_raise0 {X : Cx} {W : WX} {C : Addr} {x : Str} {p pos pos2 : Pos} (hc : X.calm = true) (tk : Takes X W) (c : ExcF X.K C) (gC : X.mg x = some (.ref C)) (hg : Gl X x := by rfl) (hdb : (x == ("__debug__" : Str)) = false := by decide) :
    PS X (.Raise (some (.Call (.Name x p) [] [] pos)) none pos2) (tRaise0 C W) :=
  ps_raise (t := fun _ H Q => Q (.ref C) none H) hc tk (pmk_own0 PySem.F.excBase_ValueError c.ex gC c.kp (raises_own c.sub c.ty) hg hdb)
def tTr (K : PySem.W.Frag) (t : TE) : TT := fun σ H Q => t σ H fun x H' => uTru K x H' Q
def tTryE (K : PySem.W.Frag) (C : Addr) (i : Nat) (tb : WX → TS) (ts : Addr → Value → Option Addr → TS) : TS := fun D σ H => tb (wEsc K (.ref C) i ts (fun _ _ _ _ => False) D) D σ H

/-! ## what is tracked stays -/
theorem same_new {H : Hp} {p : Addr} {o : HO} (h : H p = none) : Same H (upd H p o) := fun b u e => by
  rw [upd_ne (ne_of_none e h)]
  exact e
theorem same_up {H G : Hp} {p : Addr} {o : HO} (e : Same H G) (h : G p = none) : Same H (upd G p o) := e.trans (same_new h)
/-- all but what stands at p stays -/
def But (p : Addr) (H G : Hp) : Prop := ∀ b o, b ≠ p → H b = some o → G b = some o
theorem But.refl {p : Addr} {H : Hp} : But p H H := fun _ _ _ e => e
theorem But.trans {p : Addr} {H G J : Hp} (a : But p H G) (b : But p G J) : But p H J := fun c o n e => b c o n (a c o n e)
theorem But.of {p : Addr} {H G : Hp} (a : Same H G) : But p H G := fun c o _ e => a c o e
theorem But.set {p : Addr} {H : Hp} {o : HO} : But p H (upd H p o) := fun c u n e => by rw [upd_ne n]; exact e
/-- forgotten at p, the rest stays -/
theorem But.del {p : Addr} {H G : Hp} (a : But p H G) : Same (delH H p) G := fun c o e => by
  by_cases h : c = p
  · rw [h, delH_same] at e
    cases e
  · rw [delH_ne h] at e
    exact a c o h e
theorem del_same {p : Addr} {H G : Hp} (a : Same H G) (h : H p = none) : Same H (delH G p) := fun c o e => by
  rw [delH_ne (fun z => by rw [z, h] at e; cases e)]
  exact a c o e
end FP
namespace FP
open PySem PySem.Spec PyProof.Rows L2
/-! ## the law's own call, where no repr is under way -/
section
variable {P : Program} {w : World} {K : PySem.W.Frag} {mg mb : Str → Option Value} {k : Nat} {fa a : Addr} {fd : FuncData} {x : Str} {sp : Sp} {s : Shared} {vs : List Value} {ns : List Int}
/-- from a heap H in which the script alone may be tracked -/
theorem law_from {H : Hp} (inK : K.In s.heap) (ns0 : s.heap.Ns mainGlobals mg) (nb : s.heap.Ns builtinsNs mb) (same : ∀ x : Str, x ≠ "__name__" → mb x = bootBuiltins x) (nl : s.heap.NoLimit) (hg : s.gens = #[])
    (ha : s.heap.get? a = some { cls := .type "list", data := .seq vs.toArray }) (hr : Room k callerA) (F : ∀ base : Heap, K.In base → base.Ns mainGlobals mg → FnG P w K mg base CX0 k fa fd [x] sp)
    (hbind : ∀ (s : Shared) (u : Value), BindsTo s fd ⟨[u], []⟩ [(x, u)]) (hsp : sp [.ref a] H (fun v _ => v = .bl true) E0)
    (only : Only H) (ok : HOk P w H s.heap) (at_ : ∀ b, H b ≠ none → b = a) (out : H a ≠ none → K.lookup a = none) :
    codeAny (model P w) callerA (.call (.ref fa) ⟨[.ref a], []⟩) (fun r s' => r = .ok (.ret (.bool true)) ∧ OldK s.heap s'.heap ∧ s'.os = s.os ∧ AllBare s'.gens) s := by
  have untracked : ∀ {b : Addr} {o : Obj}, s.heap.get? b = some o → (b = a → False) → H b = none := by
    intro b o _ n
    cases q : H b with
    | none => rfl
    | some u => exact (n (at_ b (by rw [q]; exact Option.some_ne_none u))).elim
  have dictKeep : ∀ {b : Addr} {m : Str → Option Value}, s.heap.Ns b m → (hidT s.heap H).Ns b m := by
    rintro b m ⟨o, es, ep, e, d, r⟩
    refine ⟨o, es, ep, hidT_get e (untracked e ?_), d, r⟩
    rintro rfl
    rw [ha] at e
    cases e
    cases d
  have kb : K.In (hidT s.heap H) := by
    intro b o e
    refine hidT_get (inK b o e) ?_
    cases q : H b with
    | none => rfl
    | some u =>
      have nn : H b ≠ none := by rw [q]; exact Option.some_ne_none u
      have eq := at_ b nn
      subst eq
      rw [out nn] at e
      cases e
  have limit : (hidT s.heap H).NoLimit := by
    obtain ⟨mc, p1, p2⟩ := nl
    exact ⟨mc, dictKeep p1, p2⟩
  have e0 : Env0 P w K mg (hidT s.heap H) callerA [] s H :=
    { frames := rfl, mod := ⟨kb, dictKeep ns0, ⟨mb, dictKeep nb, same⟩, limit⟩, bs := fun _ _ e => of_hidT e, bsz := Nat.le_of_eq (hidT_size _ _), funs := trivial,
      frf := fun b z => absurd (show b ∈ ([] : List Addr) from z) List.not_mem_nil, hok := ok, bare := .of_eq hg }
  have run := (F _ kb (dictKeep ns0)).run callerA [] s H ⟨[.ref a], []⟩ [.ref a] [.ref a] _ _ rfl hr e0 (hbind s (.ref a)) (.cons rfl .nil) hsp
  refine codeAny_mono run ?_
  intro r s' z
  match r, z with
  | .ok (.ret u), ⟨v, G, os, bare, un, ok', rv, q⟩ =>
    have q' : v = .bl true := q
    subst q'
    cases rv
    refine ⟨rfl, OldK.of_keep ?_, os, bare⟩
    intro b o e
    cases q : H b with
    | none => exact un.keep b o e q (fun z => absurd (show b ∈ ([] : List Addr) from z) List.not_mem_nil) List.not_mem_nil
    | some u =>
      rcases only b with z | ⟨ob, xs, z⟩
      · rw [q] at z
        cases z
      · obtain ⟨e1, _⟩ := ok b _ z
        obtain ⟨e2, _⟩ := ok' b _ (un.frzs b ob _ z)
        rw [e] at e1
        cases e1
        exact e2
theorem law_callG (inK : K.In s.heap) (ns0 : s.heap.Ns mainGlobals mg) (nb : s.heap.Ns builtinsNs mb) (same : ∀ x : Str, x ≠ "__name__" → mb x = bootBuiltins x) (nl : s.heap.NoLimit) (hg : s.gens = #[])
    (ha : s.heap.get? a = some { cls := .type "list", data := .seq vs.toArray }) (hi : IntsAre vs ns) (hl : ns.length ≤ sizeLine) (hr : Room k callerA)
    (F : ∀ base : Heap, K.In base → base.Ns mainGlobals mg → FnG P w K mg base CX0 k fa fd [x] sp) (hbind : ∀ (s : Shared) (u : Value), BindsTo s fd ⟨[u], []⟩ [(x, u)])
    (hsp : ∀ H : Hp, Only H → SqL K H a (ns.map V.int) → sp [.ref a] H (fun v _ => v = .bl true) E0) :
    codeAny (model P w) callerA (.call (.ref fa) ⟨[.ref a], []⟩) (fun r s' => r = .ok (.ret (.bool true)) ∧ OldK s.heap s'.heap ∧ s'.os = s.os ∧ AllBare s'.gens) s := by
  have rv := vals_ints hi
  have len := hi.length
  cases hk : K.lookup a with
  | some o =>
    have e := inK a o hk
    rw [ha] at e
    cases e
    have none_ : Only fun _ => none := fun _ => .inl rfl
    have seq : SqL K (fun _ => none) a (ns.map V.int) := .inr ⟨_, vs.toArray, _, hk, rfl, rfl, rfl, by rw [List.size_toArray, len]; exact hl, by simpa using rv⟩
    exact law_from (H := fun _ => none) inK ns0 nb same nl hg ha hr F hbind (hsp _ none_ seq) none_ (fun b u z => nomatch (show (none : Option HO) = some u from z)) (fun b z => absurd rfl z) (fun z => absurd rfl z)
  | none =>
    let script : HO := .frz { cls := .type "list", data := .seq vs.toArray } (.lst (ns.map V.int))
    have here : upd (fun _ => none) a script a = some script := upd_same
    have there : ∀ b, b ≠ a → upd (fun _ => none) a script b = none := fun b n => upd_ne n
    have only : Only (upd (fun _ => none) a script) := by
      intro b
      by_cases n : b = a
      · subst n
        exact .inr ⟨_, _, here⟩
      · exact .inl (there b n)
    refine law_from inK ns0 nb same nl hg ha hr F hbind (hsp _ only (.inl (.inr ⟨_, here⟩))) only ?_ ?_ (fun _ => hk)
    · intro b u z
      by_cases n : b = a
      · subst n
        rw [here] at z
        cases z
        exact ⟨ha, by rw [List.length_map]; exact hl, vs, _, rv, ha⟩
      · rw [there b n] at z
        cases z
    · intro b z
      by_cases n : b = a
      · exact n
      · exact absurd (there b n) z
end
/-- the end of a law row: the script's ints have at most 2^20 bits -/
theorem walk_G {l : PySem.W.OpenLaw} {n k : Nat} {q : Program} {loose : List Str} {XP : (Str → Option Value) → Heap → Prop} {YP : World → Heap → Prop} {d : DefRec} {x : Str}
    (hn : l.most = some n) (hn2 : n ≤ sizeLine) (hdf : d.params.defaults = []) (hr : Room k callerA)
    (F : ∀ (w : World) (mg : Str → Option Value) (fa : Addr) (h : Heap), YP w h → h.Ns mainGlobals mg → mg d.name = some (.ref fa) →
      ∃ (K : PySem.W.Frag) (fd : FuncData) (sp : Sp), K.In h ∧ (∀ (s : Shared) (u : Value), BindsTo s fd ⟨[u], []⟩ [(x, u)]) ∧
        (∀ (H : Hp) (a : Addr) (ns : List Int), ns.length ≤ n → (∀ z ∈ ns, Builtin.Int.intBits z ≤ 1048576) → Only H → SqL K H a (ns.map V.int) → sp [.ref a] H (fun v _ => v = .bl true) E0) ∧
        ∀ base : Heap, K.In base → base.Ns mainGlobals mg → FnG l.prog w K mg base CX0 k fa fd [x] sp) :
    PySem.W.WalkO q loose XP YP l.row.toRowW d [] (fun f vs => PySem.call f vs) := by
  refine Att.attach_callB hn hdf ?_
  intro w s₀ s₁ mg mb fa o pm cd doc a vs ns G Y ho hd hcd hmg hobj hints hlen hbits hg
  obtain ⟨K, fd, sp, inK, hb, hsp, hF⟩ := F w mg fa _ Y G.T.g hmg
  exact law_callG inK G.T.g G.T.b G.T.builtins G.T.nolimit hg hobj hints (Nat.le_trans hlen hn2) hr hF hb fun H hO hS => hsp H a ns hlen hbits hO hS
end FP
/-! op= at an instance whose class has no own op=: it goes as the two-place operator does -/
namespace FP
open PySem PySem.Spec PyProof.Rows L2
def noIB (K : PySem.W.Frag) (C : Addr) (nm : String) : Bool := match PySem.W.clsIn K C with
  | some cd => cd.mro.all fun c => He.eqO (PySem.W.findIn K c (dunderI nm)) (some none)
  | none => false
def NoI (K : PySem.W.Frag) (C : Addr) (nm : String) : Prop := ∃ cd, PySem.W.clsIn K C = some cd ∧ ∀ c ∈ cd.mro, PySem.W.findIn K c (dunderI nm) = some none
theorem noIB_ok {K : PySem.W.Frag} {C : Addr} {nm : String} (h : noIB K C nm = true) : NoI K C nm := by
  unfold noIB at h
  split at h
  next cd e => exact ⟨cd, e, fun c hc => He.eqO_ok (List.all_eq_true.mp h c hc)⟩
  next => cases h
section
open PySem.W
variable {prog : Program} {w : World} {M : Model} {A : Around} {E : Value → Shared → Prop} {s : Shared} {K : PySem.W.Frag} {x C L f : Addr} {h₀ : Heap} {m : Str → Option Value} {ox : Obj} {od : Option Obj} {nm : String}
theorem any_noI {h : Heap} {add : Bool} (X : K.In h) : ∀ {l : List Value}, (∀ c ∈ l, findIn K c (dunderI nm) = some none) →
    Looks M h (l.anyM fun c => do
      let some x ← typeLookup c (dunderI nm) | return false
      if let .type _ := c then return !isSeqSlot (some x)
      if !ownNameWrapper x (dunderI nm) then return true
      if !(← inheritsSeqSlot c (dunderI nm)) then return true
      if add then return (← seqSlot? c (dunderI nm)).isSome
      return false) false
  | [], _ => Looks.of_pure rfl
  | c :: r, hs => by
    intro A Q E s k q
    have X' := X.keeps k
    have L1 : Looks M s.heap (typeLookup c (dunderI nm)) none := looks_findIn X' (hs c (by simp))
    have L2 := any_noI (h := h) (add := add) X fun c hc => hs c (List.mem_cons_of_mem _ hc)
    rw [List.anyM_cons]
    refine wpAny_bind (wpAny_bind (L1.here (wpAny_pure ?_)))
    exact L2 A Q E s k q
theorem fillsI_no {h : Heap} {add : Bool} (X : K.In h) (n : NoI K C nm) : Looks M h (fillsInplaceSlot (.ref C) nm add) false := by
  obtain ⟨cd, hc, hn⟩ := n
  intro A Q E s k q
  have Lm : Looks M h (mroOf (.ref C)) cd.mro := (looks_clsIn X hc).andThen (f := fun cd => pure cd.mro) .now
  have Lm' := Lm.keeps k
  unfold fillsInplaceSlot
  refine wpAny_bind (Lm'.here ?_)
  exact any_noI X hn A Q E s k q
theorem iop_K {op : Operator} {b : Value} {Q : Value → Shared → Prop} (F : Fr h₀ L s.heap m) (X₀ : K.In h₀) (I : InstAt s.heap x ox C od) (hb : Looks (model prog w) s.heap (typeOf b) (.ref C)) (hc : selfFirst K C = true)
    (n : NoI K C op.info.2) (hs : findIn K (.ref C) (PySem.dunder op.info.2) = some (some (.ref f))) (hf : isFn K (.ref f) = true)
    (h : wpAny (model prog w) A (call (.ref f) [.ref x, b]) (PySem.W.CmpBack Q) E s) : wpAny (model prog w) A (inplaceOp op (.ref x) b) Q E s := by
  have X := X₀.keeps F.keep
  obtain ⟨cd, rest, hcd, hm⟩ := ksp_first hc
  unfold inplaceOp
  refine wpAny_holding (wpAny_bind ?_)
  refine I.type.here (wpAny_bind ((fillsI_no X n).here ?_))
  simp only [Bool.false_eq_true, if_false]
  refine wpAny_bind ?_
  unfold binaryOp1
  refine wpAny_bind (I.type.here (wpAny_bind (hb.here (wpAny_bind ((fills_K X hcd hm hs).here ?_)))))
  simp only [beq_self_eq_true, if_true]
  refine wpAny_bind (wpAny_pure ?_)
  simp only [Bool.and_false, Bool.false_eq_true, if_false, Bool.false_and]
  refine wpAny_bind (wpAny_pure ?_)
  simp only [Bool.false_eq_true, if_false]
  refine wpAny_bind (m := tryMethod (.ref x) _ b) ?_
  unfold tryMethod
  refine wpAny_bind (special_fn X I hs (beq_iff_eq.mp hf) (wpAny_mono h (fun v s' hv => ?_) fun _ _ e => e))
  cases v <;> first | exact hv.elim | exact wpAny_pure (wpAny_pure (wpAny_pure hv))
end
section
variable {X : Cx} {CX : CXT} {k : Nat} {f C : Addr} {ps : List Str} {sp : Sp} {E : XK} {fd : FuncData}
theorem op_iOwn {op : Operator} (F : FnOk X.prog X.w X.K X.mg X.base CX k f fd ps sp) (hr : Room k X.A)
    (hc : PySem.W.selfFirst X.K C = true) (n : NoI X.K C op.info.2) (hs : PySem.W.findIn X.K (.ref C) (PySem.dunder op.info.2) = some (some (.ref f)))
    (hf : PySem.W.isFn X.K (.ref f) = true) (hb : Binds X.K fd ps []) (hx : Passes CX X E) :
    OpR X (inplaceOp op) (rOwn C sp E) := by
  rintro pins s σ H x y v u Q I rx ry ⟨a, dx, fs, b, dy, gs, rfl, ha, rfl, hb2, h⟩
  cases rx; cases ry
  obtain ⟨_, O1, _⟩ := ins_get I.hok ha
  obtain ⟨_, O2, _⟩ := ins_get I.hok hb2
  obtain ⟨_, J1, _⟩ := O1.look
  obtain ⟨_, J2, _⟩ := O2.look
  obtain ⟨m, hF⟩ := I.fr
  refine iop_K hF I.ok.mod.kin J1 J2.type hc n hs hf ?_
  exact thn (call_at (vs := [.ref a, .ref b]) F hr rfl hb hx I (.cons rfl (.cons rfl .nil)) h) fun _ _ z => back_cmp z
theorem op_iD {op : Operator} (D : Does X.prog X.w X.K X.mg X.base CX k f ps sp) (hr : Room k X.A) (c : ClsF X.K C) (n : NoI X.K C op.info.2) (m : Meth X.K C (PySem.dunder op.info.2) f) (hx : Passes CX X E) :
    OpR X (inplaceOp op) (rOwn C sp E) := let ⟨⟨_, F, b⟩, _⟩ := D; op_iOwn F hr c.self n m.at_ m.fn b hx
end
end FP
/-! list.count of a truth value in a list of truth values -/
namespace FP
open PySem PySem.Spec PyProof.Rows L2
theorem eqG_bool (a b : Bool) : MeetsSeq.EqGives (.bool a) (.bool b) (a == b) := by
  intro prog w A E s Q h
  unfold eqBool
  show wpAny _ _ (if (Value.bool a == Value.bool b) = true then _ else _) Q E s
  by_cases hab : (Value.bool a == Value.bool b) = true
  · rw [if_pos hab]
    have e : a = b := by have := eq_of_beq hab; injection this
    subst e
    exact wpAny_bind (wpAny_rule (wpAny_pure (by simpa using h)))
  · rw [if_neg hab]
    exact wpAny_bind (eq_bool (prog := prog) (wpAny_truthy_bool h))
def eqkB (k : Bool) (v : Value) : Bool := match v with
  | .bool n => n == k
  | _ => false
theorem eqkB_count {k : Bool} : ∀ {us : List Value} {ns : List Bool}, Vals (ns.map V.bl) us → (∀ y ∈ us, MeetsSeq.EqGives y (.bool k) (eqkB k y)) ∧ us.countP (eqkB k) = ns.count k
  | _, [], .nil => ⟨(fun y hy => by cases hy), rfl⟩
  | _, n :: ns, .cons r h => by
    have ih := eqkB_count (k := k) h
    cases r
    refine ⟨fun y hy => ?_, ?_⟩
    · rcases List.mem_cons.mp hy with e | e
      · rw [e]
        exact eqG_bool n k
      · exact ih.1 y e
    · rw [List.countP_cons, List.count_cons, ih.2] <;> rfl
section
variable {X : Cx}
def rCntB (K : PySem.W.Frag) : V → List V → Hp → VK → Prop := fun x xs H Q => ∃ (p : Addr) (ns : List Bool) (k : Bool), x = .ref p ∧ xs = [.bl k] ∧ SqL K H p (ns.map V.bl) ∧ Q (.int (ns.count k : Nat)) H
theorem mt_bcount : MtR X "list.count" (rCntB X.K) := by
  intro pins s σ H x xs v us Q I rx rxs h
  obtain ⟨p, ns, k, rfl, rfl, hs, q⟩ := h
  cases rx
  obtain ⟨u, rfl, ru⟩ := rxs.one
  cases ru
  obtain ⟨its, rv, ⟨⟨cls, dd, data, sl⟩, n, ho, hc, hdn, hd⟩, hlen⟩ := I.list hs
  simp only at hc hd
  subst hc hd
  have hi := eqkB_count (k := k) rv
  refine call_meets PySem.F.slot_list_count ⟨_, ho, rfl⟩ PySem.F.entry_list_count (PySem.F.args_list_count_2 _ _)
    (SeqAt.list_countAt p its.toArray n dd sl (.bool k) (eqkB k)) ⟨ho, fun y hy => (hi.1 y (by simpa using hy)).at _ _, ?_⟩
  have ec : its.toArray.toList.countP (eqkB k) = ns.count k := hi.2
  refine ⟨.int (ns.count k : Nat), H, I.tok _, ⟨s.toks, ?_⟩, q⟩
  show Value.int ((its.toArray.toList.countP (eqkB k) : Nat) : Int) s.toks = Value.int ((ns.count k : Nat) : Int) s.toks
  rw [ec]
end
end FP
namespace FP
open PySem PySem.Spec PyProof.Rows L2
section
variable {prog : Program} {w : World} {A : Around} {E : Value → Shared → Prop} {s : Shared} {x C dx : Addr} {Q : Fin → Shared → Prop} {K : PySem.W.Frag}
theorem load' {M : Model} {a : Addr} {o : Obj} {hp : Heap} {g d tk os} {Q : Obj → Shared → Prop} (h : hp.get? a = some o) (q : Q o ⟨hp, g, d, tk, os⟩) : wpAny M A (load a) Q E ⟨hp, g, d, tk, os⟩ := wpAny_load h q
theorem int_decl {a : Int} {t : Tok} (hx : s.heap.get? x = some (PySem.W.instObj C dx)) (h : Q (.done (.ret .notImplemented)) s) : wpAny (model prog w) A (Builtin.«int.__eq__» ⟨[.int a t, .ref x], []⟩) Q E s := by
  obtain ⟨hp, g, d, tk, os⟩ := s
  wp_walk using load' hx
  exact h
theorem bool_decl {a : Bool} (hx : s.heap.get? x = some (PySem.W.instObj C dx)) (h : Q (.done (.ret .notImplemented)) s) : wpAny (model prog w) A (Builtin.«int.__eq__» ⟨[.bool a, .ref x], []⟩) Q E s := by
  obtain ⟨hp, g, d, tk, os⟩ := s
  wp_walk using load' hx
  exact h
theorem str_decl {a : Str} {t : Tok} (hx : s.heap.get? x = some (PySem.W.instObj C dx)) (h : Q (.done (.ret .notImplemented)) s) : wpAny (model prog w) A (Builtin.«str.__eq__» ⟨[.str a t, .ref x], []⟩) Q E s := by
  obtain ⟨hp, g, d, tk, os⟩ := s
  wp_walk using load' hx
  exact h
theorem none_decl (h : Q (.done (.ret .notImplemented)) s) : wpAny (model prog w) A (Builtin.«NoneType.__eq__» ⟨[.none, .ref x], []⟩) Q E s := by
  obtain ⟨hp, g, d, tk, os⟩ := s
  wp_walk
  exact h
theorem sub' {M : Model} {T : String} {hp : Heap} {g d tk os} {Q : Bool → Shared → Prop} (X : K.In hp) (e : PySem.W.subIn K (.ref C) (.type T) = some false) (q : Q false ⟨hp, g, d, tk, os⟩) : wpAny M A (isSubtype (.ref C) (.type T)) Q E ⟨hp, g, d, tk, os⟩ :=
  (PySem.W.looks_subIn X e).at q
theorem list_decl {l : Addr} (X : K.In s.heap) (e : PySem.W.subIn K (.ref C) (.type "list") = some false) (hx : s.heap.get? x = some (PySem.W.instObj C dx)) (h : Q (.done (.ret .notImplemented)) s) : wpAny (model prog w) A (Builtin.«list.__eq__» ⟨[.ref l, .ref x], []⟩) Q E s := by
  obtain ⟨hp, g, d, tk, os⟩ := s
  wp_walk using load' hx, sub' X e
  exact h
theorem tuple_decl {l : Addr} (X : K.In s.heap) (e : PySem.W.subIn K (.ref C) (.type "tuple") = some false) (hx : s.heap.get? x = some (PySem.W.instObj C dx)) (h : Q (.done (.ret .notImplemented)) s) : wpAny (model prog w) A (Builtin.«tuple.__eq__» ⟨[.ref l, .ref x], []⟩) Q E s := by
  obtain ⟨hp, g, d, tk, os⟩ := s
  wp_walk using load' hx, sub' X e
  exact h
theorem dict_decl {l : Addr} {o : Obj} (X : K.In s.heap) (e : PySem.W.subIn K (.ref C) (.type "dict") = some false) (hl : s.heap.get? l = some o) (ho : o.cls = .type "dict") (hx : s.heap.get? x = some (PySem.W.instObj C dx)) (h : Q (.done (.ret .notImplemented)) s) : wpAny (model prog w) A (Builtin.«dict.__eq__» ⟨[.ref l, .ref x], []⟩) Q E s := by
  obtain ⟨hp, g, d, tk, os⟩ := s
  wp_walk using load' hx, sub' X e
  exact h
end
section
variable {prog : Program} {w : World} {A : Around} {E : Value → Shared → Prop} {s : Shared} {K : PySem.W.Frag} {x C f : Addr} {ox : Obj} {od : Option Obj} {a : Value} {T id : String}
/-- == with an instance at the right: the built-in type at the left declines, then the instance's own == is asked -/
theorem richR {Q : Value → Shared → Prop} (hu : A.units < cLine) (ha : s.TypeIs a T) (hsl : Slot T (cmpInfo .Eq).2.1 id) (X : K.In s.heap) (J : PySem.W.InstAt s.heap x ox C od)
    (hsub : PySem.W.subIn K (.ref C) (.type T) = some false) (hs : PySem.W.findIn K (.ref C) "__eq__" = some (some (.ref f))) (hf : PySem.W.isFn K (.ref f) = true)
    (hd : ∀ Q' : Value → Shared → Prop, Q' .notImplemented s → wpAny (model prog w) A (call (.builtin id) [a, .ref x]) Q' E s)
    (h : wpAny (model prog w) A (call (.ref f) [.ref x, a]) (PySem.W.CmpBack Q) E s) : wpAny (model prog w) A (richCompare .Eq a (.ref x)) Q E s := by
  have one : wpAny (model prog w) A (tryCompare (.ref x) "__eq__" a) (fun r s' => ∃ v, r = some v ∧ Q v s') E s := by
    unfold tryCompare
    refine wpAny_bind (PySem.W.ifBound_K X J hs hf (wpAny_mono h (fun v s' hv => ?_) fun _ _ e => e))
    cases v <;> first | exact hv.elim | exact wpAny_pure ⟨_, rfl, hv⟩
  unfold richCompare
  simp only [ha.oneThing_none]
  refine wpAny_holding (wpAny_bind (wpAny_cRoomFor hu ?_))
  refine wpAny_bind (wpAny_typeOf ha (wpAny_bind (J.type.here ?_)))
  have hne : (Value.type T != Value.ref C) = true := by simp
  simp only [hne, if_true]
  refine wpAny_bind ((PySem.W.looks_subIn X hsub).here ?_)
  simp only [Bool.false_eq_true, if_false, Bool.not_false, if_true]
  refine wpAny_bind (m := tryCompare a _ (.ref x)) (wpAny_tryCompare_declines ha hsl (hd _ ⟨rfl, ?_⟩))
  refine wpAny_bind (m := tryCompare (.ref x) _ a) (wpAny_mono one (fun r s' z => ?_) fun _ _ e => e)
  obtain ⟨v, rfl, hq⟩ := z
  exact wpAny_pure hq
end
section
variable {X : Cx} {CX : CXT} {k : Nat} {f C : Addr} {fd : FuncData} {ps : List Str} {sp : Sp} {E : XK}
theorem ty_looks {M : Model} {pins : List (Addr × Obj)} {σ : L2.St} {H : Hp} {s : Shared} {x : V} {u t : Value} (I : Inv X pins σ H s) (rx : RelV x u) (ty : TyOf X.K H x t) : PySem.W.Looks M s.heap (typeOf u) t := by
  cases ty with
  | non => cases (show u = Value.none from rx); exact PySem.W.Looks.of_pure rfl
  | bl y => cases (show u = Value.bool y from rx); exact PySem.W.Looks.of_pure rfl
  | int i => obtain ⟨t, q⟩ := (show ∃ t, u = Value.int i t from rx); cases q; exact PySem.W.Looks.of_pure rfl
  | str y => obtain ⟨t, q⟩ := (show ∃ t, u = Value.str y t from rx); cases q; exact PySem.W.Looks.of_pure rfl
  | flt y => obtain ⟨t, q⟩ := (show ∃ t, u = Value.float y t from rx); cases q; exact PySem.W.Looks.of_pure rfl
  | @lst a xs ea =>
    cases (show u = Value.ref a from rx)
    obtain ⟨_, _, n, _, h1⟩ := (show ObjOk X.prog X.w H s.heap a (.lst xs) from I.hok a _ ea)
    exact (PySem.W.Looks.ld h1).andThen .now
  | @frz a ob xs ea =>
    cases (show u = Value.ref a from rx)
    obtain ⟨_, _, _, n, _, h1⟩ := (show ObjOk X.prog X.w H s.heap a (.frz ob (.lst xs)) from I.hok a _ ea)
    exact (PySem.W.Looks.ld h1).andThen .now
  | @tup a xs ea =>
    cases (show u = Value.ref a from rx)
    obtain ⟨_, _, _, o, h1, h2, _⟩ := (show ObjOk X.prog X.w H s.heap a (.tup xs) from I.hok a _ ea)
    exact h2 ▸ (PySem.W.Looks.ld h1).andThen .now
  | @dK a kvs ea =>
    cases (show u = Value.ref a from rx)
    obtain ⟨_, _, vs, _, o, es, ep, h1, h2, _⟩ := (show ObjOk X.prog X.w H s.heap a (.dK kvs) from I.hok a _ ea)
    exact h2.1 ▸ (PySem.W.Looks.ld h1).andThen .now
  | @dT a kvs ea =>
    cases (show u = Value.ref a from rx)
    obtain ⟨_, _, xs, _, o, es, ep, h1, h2, _⟩ := (show ObjOk X.prog X.w H s.heap a (.dT kvs) from I.hok a _ ea)
    exact h2.1 ▸ (PySem.W.Looks.ld h1).andThen .now
  | @ins a C dx fs ea cl ha hn htk hm =>
    cases (show u = Value.ref a from rx)
    obtain ⟨mA, O, _⟩ := ins_get I.hok ea
    obtain ⟨od, J, _⟩ := O.look
    exact J.type
/-- the own == at the left, any value at the right -/
def rOwnL (K : PySem.W.Frag) (C : Addr) (sp : Sp) (E : XK) : R2 := fun x y H Q => ∃ a dx fs t, x = .ref a ∧ H a = some (.ins C dx fs) ∧ TyOf K H y t ∧ PySem.W.notFirst K C t = true ∧ sp [.ref a, y] H Q E
theorem op_eqL (F : FnOk X.prog X.w X.K X.mg X.base CX k f fd ps sp) (hr : Room k X.A)
    (hs : PySem.W.findIn X.K (.ref C) "__eq__" = some (some (.ref f))) (hf : PySem.W.isFn X.K (.ref f) = true) (hb : Binds X.K fd ps []) (hx : Passes CX X E) :
    OpR X (compareOp .Eq) (rOwnL X.K C sp E) := by
  rintro pins s σ H x y v u Q I rx ry ⟨a, dx, fs, t, rfl, ha, ty, nf, h⟩
  cases rx
  obtain ⟨_, O1, _⟩ := ins_get I.hok ha
  obtain ⟨_, J1, _⟩ := O1.look
  obtain ⟨m, hF⟩ := I.fr
  refine PySem.W.cmp_ofEq (PySem.W.cmp_K (op := .Eq) hr.units0 hF I.ok.mod.kin J1 (ty_looks I ry ty) nf hs hf ?_)
  exact thn (call_at (vs := [.ref a, y]) F hr rfl hb hx I (.cons rfl (.cons ry .nil)) h) fun _ _ z => back_cmp z
def rNeL (K : PySem.W.Frag) (C : Addr) (sp : Sp) (E : XK) : R2 := rOwnL K C (fun vs H Q E => sp vs H (fun v H' => ∃ c, v = .bl c ∧ Q (.bl (!c)) H') E) E
theorem op_neL (F : FnOk X.prog X.w X.K X.mg X.base CX k f fd ps sp) (hr : Room (k + 1) X.A) (c : EqC X.K C f) (hb : Binds X.K fd ps []) (hx : Passes CX X E) :
    OpR X (compareOp .NotEq) (rNeL X.K C sp E) := by
  rintro pins s σ H x y v u Q I rx ry ⟨a, dx, fs, t, rfl, ha, ty, nf, h⟩
  cases rx
  obtain ⟨_, O1, _⟩ := ins_get I.hok ha
  obtain ⟨_, J1, _⟩ := O1.look
  have hr1 : Room k X.A.in1 := hr.in1
  refine PySem.W.cmp_ofNotEq (richNe (tb := t) (by have := hr.un; omega) I.kIn J1 c.mro (ty_looks I ry ty) nf c.ne c.eq c.fn ?_)
  refine thn (call_at (vs := [.ref a, y]) F hr1 rfl hb hx I (.cons rfl (.cons ry .nil)) h) fun u s' z => ?_
  obtain ⟨v, H', I', rv, ⟨c, rfl, q⟩⟩ := z
  cases rv
  exact ⟨c, rfl, .bl (!c), H', I', rfl, q⟩
/-- the own == at the right, a value of a built-in type at the left -/
def rOwnR (K : PySem.W.Frag) (C : Addr) (sp : Sp) (E : XK) : R2 := fun x y H Q => ∃ b dy gs T, y = .ref b ∧ H b = some (.ins C dy gs) ∧ TyOf K H x (.type T) ∧ T ≠ "float" ∧ PySem.W.subIn K (.ref C) (.type T) = some false ∧ sp [.ref b, x] H Q E
theorem op_eqR (F : FnOk X.prog X.w X.K X.mg X.base CX k f fd ps sp) (hr : Room k X.A)
    (hs : PySem.W.findIn X.K (.ref C) "__eq__" = some (some (.ref f))) (hf : PySem.W.isFn X.K (.ref f) = true) (hb : Binds X.K fd ps []) (hx : Passes CX X E) :
    OpR X (compareOp .Eq) (rOwnR X.K C sp E) := by
  rintro pins s σ H x y v u Q I rx ry ⟨b, dy, gs, T, rfl, ha, ty, nT, sb, h⟩
  cases ry
  obtain ⟨_, O1, _⟩ := ins_get I.hok ha
  obtain ⟨_, J1, _⟩ := O1.look
  have hob := J1.at_
  have back := thn (call_at (vs := [.ref b, x]) F hr rfl hb hx I (.cons rfl (.cons rx .nil)) h) fun _ _ z => back_cmp z
  refine PySem.W.cmp_ofEq ?_
  cases ty with
  | non =>
    cases (show v = Value.none from rx)
    exact richR hr.units0 rfl PySem.F.slot_NoneType_eq I.kIn J1 sb hs hf (fun Q' q => wpAny_call_entry PySem.F.slot_NoneType_eq rfl PySem.F.entry_NoneType_eq (none_decl ⟨_, rfl, q⟩) (PySem.F.args_NoneType_eq_2 _ _)) back
  | bl y =>
    cases (show v = Value.bool y from rx)
    exact richR hr.units0 rfl PySem.F.slot_bool_eq I.kIn J1 sb hs hf (fun Q' q => wpAny_call_entry PySem.F.slot_bool_eq rfl PySem.F.entry_int_eq (bool_decl hob ⟨_, rfl, q⟩) (PySem.F.args_int_eq_2 _ _)) back
  | int i =>
    obtain ⟨t, q⟩ := (show ∃ t, v = Value.int i t from rx)
    cases q
    exact richR hr.units0 rfl PySem.F.slot_int_eq I.kIn J1 sb hs hf (fun Q' q => wpAny_call_entry PySem.F.slot_int_eq rfl PySem.F.entry_int_eq (int_decl hob ⟨_, rfl, q⟩) (PySem.F.args_int_eq_2 _ _)) back
  | str y =>
    obtain ⟨t, q⟩ := (show ∃ t, v = Value.str y t from rx)
    cases q
    exact richR hr.units0 rfl PySem.F.slot_str_eq I.kIn J1 sb hs hf (fun Q' q => wpAny_call_entry PySem.F.slot_str_eq rfl PySem.F.entry_str_eq (str_decl hob ⟨_, rfl, q⟩) (PySem.F.args_str_eq_2 _ _)) back
  | flt y => exact absurd rfl nT
  | @lst a xs ea =>
    cases (show v = Value.ref a from rx)
    obtain ⟨_, _, n, _, h1⟩ := (show ObjOk X.prog X.w H s.heap a (.lst xs) from I.hok a _ ea)
    exact richR hr.units0 ⟨_, h1, rfl⟩ PySem.F.slot_list_eq I.kIn J1 sb hs hf (fun Q' q => wpAny_call_entry PySem.F.slot_list_eq ⟨_, h1, rfl⟩ PySem.F.entry_list_eq (list_decl I.kIn sb hob ⟨_, rfl, q⟩) (PySem.F.args_list_eq_2 _ _)) back
  | @frz a ob xs ea =>
    cases (show v = Value.ref a from rx)
    obtain ⟨_, _, _, n, _, h1⟩ := (show ObjOk X.prog X.w H s.heap a (.frz ob (.lst xs)) from I.hok a _ ea)
    exact richR hr.units0 ⟨_, h1, rfl⟩ PySem.F.slot_list_eq I.kIn J1 sb hs hf (fun Q' q => wpAny_call_entry PySem.F.slot_list_eq ⟨_, h1, rfl⟩ PySem.F.entry_list_eq (list_decl I.kIn sb hob ⟨_, rfl, q⟩) (PySem.F.args_list_eq_2 _ _)) back
  | @tup a xs ea =>
    cases (show v = Value.ref a from rx)
    obtain ⟨_, _, _, o, h1, h2, _⟩ := (show ObjOk X.prog X.w H s.heap a (.tup xs) from I.hok a _ ea)
    exact richR hr.units0 ⟨_, h1, h2⟩ PySem.F.slot_tuple_eq I.kIn J1 sb hs hf (fun Q' q => wpAny_call_entry PySem.F.slot_tuple_eq ⟨_, h1, h2⟩ PySem.F.entry_tuple_eq (tuple_decl I.kIn sb hob ⟨_, rfl, q⟩) (PySem.F.args_tuple_eq_2 _ _)) back
  | @dK a kvs ea =>
    cases (show v = Value.ref a from rx)
    obtain ⟨_, _, vs, _, o, es, ep, h1, h2, _⟩ := (show ObjOk X.prog X.w H s.heap a (.dK kvs) from I.hok a _ ea)
    exact richR hr.units0 ⟨_, h1, h2.1⟩ PySem.F.slot_dict_eq I.kIn J1 sb hs hf (fun Q' q => wpAny_call_entry PySem.F.slot_dict_eq ⟨_, h1, h2.1⟩ PySem.F.entry_dict_eq (dict_decl I.kIn sb h1 h2.1 hob ⟨_, rfl, q⟩) (PySem.F.args_dict_eq_2 _ _)) back
  | @dT a kvs ea =>
    cases (show v = Value.ref a from rx)
    obtain ⟨_, _, xs, _, o, es, ep, h1, h2, _⟩ := (show ObjOk X.prog X.w H s.heap a (.dT kvs) from I.hok a _ ea)
    exact richR hr.units0 ⟨_, h1, h2.1⟩ PySem.F.slot_dict_eq I.kIn J1 sb hs hf (fun Q' q => wpAny_call_entry PySem.F.slot_dict_eq ⟨_, h1, h2.1⟩ PySem.F.entry_dict_eq (dict_decl I.kIn sb h1 h2.1 hob ⟨_, rfl, q⟩) (PySem.F.args_dict_eq_2 _ _)) back
end
end FP
/-! lists of one instance: x not in [y], [x] != [y], the two of one class with an own == -/
namespace FP
open PySem PySem.Spec PyProof.Rows L2
section
open PySem.SeqAt PySem.MeetsSeq PySem.MeetsSeq2 PySem.MeetsSeq3 PySem.SeqRoads2
variable {prog : Program} {w : World} {A : Around} {E : Value → Shared → Prop} {s : Shared} {l l2 b : Addr} {n n2 : Nat} {x y : Value} {R : Result → Shared → Prop}
theorem loop_in1 {items : Array Value} (hi : items[0]? = some y) (hl : s.heap.get? l = some { cls := .type "list", dict := none, data := .seq items n, slots := #[] })
    (he : wpAny (model prog w) A.in1 (eqBool y x) (fun r s' => r = true ∧ R (.ok (.ret (.bool true))) s') (fun e s' => R (.error e) s') s) :
    wpAny (model prog w) A.in1 (Builtin.«list.__contains__.loop» ⟨[.ref l, x, rawInt 0], []⟩) (GQ.FinOf prog w A R) (fun e s' => R (.error e) s') s := by
  obtain ⟨hp, g, d, tk, os⟩ := s
  wp_walk using AutoSeq1.wpAny_loadPart' hl
  have hi1 : items[(0 : Int).toNat]? = some y := hi
  rw [hi1]
  refine wpAny_bind (wpAny_mono he (fun r s2 h2 => ?_) fun _ _ z => z)
  obtain ⟨hr, h2⟩ := h2
  subst hr
  obtain ⟨hp2, g2, d2, tk2, os2⟩ := s2
  wp_walk
  exact h2
theorem body_in1 {items : Array Value} (hi : items[0]? = some y) (hl : s.heap.get? l = some { cls := .type "list", dict := none, data := .seq items n, slots := #[] })
    (he : wpAny (model prog w) A.in1 (eqBool y x) (fun r s' => r = true ∧ R (.ok (.ret (.bool true))) s') (fun e s' => R (.error e) s') s) :
    wpAny (model prog w) A.in1 (Builtin.«list.__contains__» ⟨[.ref l, x], []⟩) (GQ.FinOf prog w A R) (fun e s' => R (.error e) s') s := by
  have rec_ := loop_in1 hi hl he
  obtain ⟨hp, g, d, tk, os⟩ := s
  wp_walk using AutoSeq1.wpAny_loadPart' hl
  exact ⟨plainId_quiet plain_contains_loop _, codeAny_builtin entry_contains_loop (by
    rw [Around.under_plainId plain_contains_loop _]
    exact rec_)⟩
/-- one item -/
def One (items : Array Value) (y : Value) : Prop := items = #[y]
theorem loop_end {items items2 : Array Value} (hi : One items x) (hi2 : One items2 y) (hl : s.heap.get? l = some { cls := .type "list", dict := none, data := .seq items n, slots := #[] }) (hl2 : s.heap.get? l2 = some { cls := .type "list", dict := none, data := .seq items2 n2, slots := #[] })
    (h : R (.ok (.ret (.bool false))) s) :
    wpAny (model prog w) A.in1 (Builtin.«list.__eq__.loop» ⟨[.ref l, .ref l2, rawInt 1, rawInt 3], []⟩) (GQ.FinOf prog w A R) (fun e s' => R (.error e) s') s := by
  obtain ⟨hp, g, d, tk, os⟩ := s
  wp_walk using AutoSeq1.wpAny_loadPart' hl, AutoSeq1.wpAny_loadPart' hl2
  have h1 : items[(1 : Int).toNat]? = none := by rw [show items = #[x] from hi]; rfl
  have h2 : items2[(1 : Int).toNat]? = none := by rw [show items2 = #[y] from hi2]; rfl
  rw [h1, h2]
  wp_walk using AutoSeq1.wpAny_loadPart' hl, AutoSeq1.wpAny_loadPart' hl2
  show R (.ok (.ret (.bool (items.size != items2.size)))) _
  rw [show items = #[x] from hi, show items2 = #[y] from hi2]
  exact h
theorem loop_ne1 {items items2 : Array Value} (hi : One items x) (hi2 : One items2 y) (hl : s.heap.get? l = some { cls := .type "list", dict := none, data := .seq items n, slots := #[] }) (hl2 : s.heap.get? l2 = some { cls := .type "list", dict := none, data := .seq items2 n2, slots := #[] })
    (he : wpAny (model prog w) A.in1 (eqBool x y) (fun r s' => r = true ∧ (∃ m m2, s'.heap.get? l = some { cls := .type "list", dict := none, data := .seq #[x] m, slots := #[] } ∧ s'.heap.get? l2 = some { cls := .type "list", dict := none, data := .seq #[y] m2, slots := #[] }) ∧ R (.ok (.ret (.bool false))) s') (fun e s' => R (.error e) s') s) :
    wpAny (model prog w) A.in1 (Builtin.«list.__eq__.loop» ⟨[.ref l, .ref l2, rawInt 0, rawInt 3], []⟩) (GQ.FinOf prog w A R) (fun e s' => R (.error e) s') s := by
  obtain ⟨hp, g, d, tk, os⟩ := s
  wp_walk using AutoSeq1.wpAny_loadPart' hl, AutoSeq1.wpAny_loadPart' hl2
  have h1 : items[(0 : Int).toNat]? = some x := by rw [show items = #[x] from hi]; rfl
  have h2 : items2[(0 : Int).toNat]? = some y := by rw [show items2 = #[y] from hi2]; rfl
  rw [h1, h2]
  refine wpAny_bind (wpAny_mono he (fun r s2 h2 => ?_) fun _ _ z => z)
  obtain ⟨hr, ⟨m, m2, k1, k2⟩, h2⟩ := h2
  subst hr
  have rec_ := loop_end (prog := prog) (w := w) (A := A) (R := R) (x := x) (y := y) rfl rfl k1 k2 h2
  obtain ⟨hp2, g2, d2, tk2, os2⟩ := s2
  wp_walk
  exact ⟨plainId_quiet plain_eq_loop _, codeAny_builtin entry_eq_loop (by
    rw [Around.under_plainId plain_eq_loop _]
    exact rec_)⟩
theorem body_ne1 {items items2 : Array Value} (hi : One items x) (hi2 : One items2 y) (hl : s.heap.get? l = some { cls := .type "list", dict := none, data := .seq items n, slots := #[] }) (hl2 : s.heap.get? l2 = some { cls := .type "list", dict := none, data := .seq items2 n2, slots := #[] })
    (he : wpAny (model prog w) A.in1 (eqBool x y) (fun r s' => r = true ∧ (∃ m m2, s'.heap.get? l = some { cls := .type "list", dict := none, data := .seq #[x] m, slots := #[] } ∧ s'.heap.get? l2 = some { cls := .type "list", dict := none, data := .seq #[y] m2, slots := #[] }) ∧ R (.ok (.ret (.bool false))) s') (fun e s' => R (.error e) s') s) :
    wpAny (model prog w) A.in1 (Builtin.«list.__ne__» ⟨[.ref l, .ref l2], []⟩) (GQ.FinOf prog w A R) (fun e s' => R (.error e) s') s := by
  have rec_ := loop_ne1 hi hi2 hl hl2 he
  obtain ⟨hp, g, d, tk, os⟩ := s
  have f3 := AutoSeq1.sub_list_list
  have hne : ¬ (items.size != items2.size) = true := by rw [show items = #[x] from hi, show items2 = #[y] from hi2]; simp
  wp_walk using AutoSeq1.wpAny_loadPart' hl, AutoSeq1.wpAny_loadPart' hl2
  exact ⟨plainId_quiet plain_eq_loop _, codeAny_builtin entry_eq_loop (by
    rw [Around.under_plainId plain_eq_loop _]
    exact rec_)⟩
end
section
variable {X : Cx} {CX : CXT} {k : Nat} {f C : Addr} {fd : FuncData} {ps : List Str} {sp : Sp} {E : XK}
/-- == inside a builtin, of two different instances -/
theorem eqB_own (F : FnOk X.prog X.w X.K X.mg X.base CX k f fd ps sp) {A : Around} (hr : Room k A) (hfr : A.frames = X.A.frames)
    (hs : PySem.W.findIn X.K (.ref C) "__eq__" = some (some (.ref f))) (hf : PySem.W.isFn X.K (.ref f) = true) (hb : Binds X.K fd ps []) (hx : Passes CX X E)
    {pins : List (Addr × Obj)} {σ : L2.St} {H : Hp} {s : Shared} (I : Inv X pins σ H s) {a b dx dy : Addr} {fs gs : List (Str × V)} (ha : H a = some (.ins C dx fs)) (hb2 : H b = some (.ins C dy gs)) (hne : a ≠ b)
    {Q : Hp → Prop} (h : sp [.ref a, .ref b] H (fun v H' => v = .bl true ∧ Q H') E) :
    wpAny (model X.prog X.w) A (eqBool (.ref a) (.ref b)) (fun r s' => r = true ∧ ∃ H', Inv X pins σ H' s' ∧ Q H') X.xe s := by
  obtain ⟨_, O1, _⟩ := ins_get I.hok ha
  obtain ⟨_, O2, _⟩ := ins_get I.hok hb2
  obtain ⟨_, J1, _⟩ := O1.look
  obtain ⟨_, J2, _⟩ := O2.look
  obtain ⟨m, hF⟩ := I.fr
  refine GQ.eqBool_refG hne ?_
  refine PySem.W.cmp_K (op := .Eq) (tb := .ref C) hr.units0 hF I.ok.mod.kin J1 J2.type (by simp [PySem.W.notFirst]) hs hf ?_
  refine thn (call_at (vs := [.ref a, .ref b]) F hr hfr hb hx I (.cons rfl (.cons rfl .nil)) h) fun u s' z => ?_
  obtain ⟨v, H', I', rv, rfl, q⟩ := z
  cases rv
  exact ⟨true, rfl, rfl, H', I', q⟩
/-- x not in [y] -/
def rNotInOwn (C : Addr) (sp : Sp) (E : XK) : R2 := fun x y H Q => ∃ a dx fs l b dy gs, x = .ref a ∧ y = .ref l ∧ H l = some (.lst [.ref b]) ∧ H a = some (.ins C dx fs) ∧ H b = some (.ins C dy gs) ∧ b ≠ a ∧
  sp [.ref b, .ref a] H (fun v H' => v = .bl true ∧ Q (.bl false) H') E
theorem op_notInOwn (F : FnOk X.prog X.w X.K X.mg X.base CX k f fd ps sp) (hr : Room (k + 1) X.A)
    (hs : PySem.W.findIn X.K (.ref C) "__eq__" = some (some (.ref f))) (hf : PySem.W.isFn X.K (.ref f) = true) (hb : Binds X.K fd ps []) (hx : Passes CX X E) :
    OpR X (compareOp .NotIn) (rNotInOwn C sp E) := by
  rintro pins s σ H x y v u Q I rx ry ⟨a, dx, fs, l, b, dy, gs, rfl, rfl, hl, ha, hb2, hne, h⟩
  cases rx; cases ry
  obtain ⟨_, its, n, r, h1⟩ := (show ObjOk X.prog X.w H s.heap l (.lst [.ref b]) from I.hok l _ hl)
  obtain ⟨i, rfl, ri⟩ := r.one
  cases ri
  have eq := eqB_own F (A := X.A.in1) hr.in1 rfl hs hf hb hx I hb2 ha hne h
  show wpAny _ X.A (do return Value.bool (!(← contains (Value.ref l) (Value.ref a)))) _ _ s
  refine wpAny_bind (wpAny_contains_slot ⟨_, h1, rfl⟩ PySem.F.slot_list_contains (wpAny_mono (GQ.call_here (Q := fun v s' => v = .bool true ∧ EP X pins σ Q (.bool false) s') PySem.F.slot_list_contains ⟨_, h1, rfl⟩ PySem.F.entry_list_contains (PySem.F.args_list_contains_2 _ _) (body_in1 rfl h1 (wpAny_mono eq (fun r s' z => ?_) fun _ _ z => z))) (fun v s' z => ?_) fun _ _ z => z))
  · obtain ⟨hr', H', I', q⟩ := z
    exact ⟨hr', rfl, .bl false, H', I', rfl, q⟩
  · obtain ⟨rfl, q⟩ := z
    exact wpAny_truthy_bool (wpAny_pure q)
/-- [x] != [y] -/
def rNeOne (C : Addr) (sp : Sp) (E : XK) : R2 := fun x y H Q => ∃ l m a dx fs b dy gs, x = .ref l ∧ y = .ref m ∧ H l = some (.lst [.ref a]) ∧ H m = some (.lst [.ref b]) ∧ H a = some (.ins C dx fs) ∧ H b = some (.ins C dy gs) ∧ a ≠ b ∧
  sp [.ref a, .ref b] H (fun v H' => v = .bl true ∧ H' l = some (.lst [.ref a]) ∧ H' m = some (.lst [.ref b]) ∧ Q (.bl false) H') E
theorem op_neOne (F : FnOk X.prog X.w X.K X.mg X.base CX k f fd ps sp) (hr : Room (k + 1) X.A)
    (hs : PySem.W.findIn X.K (.ref C) "__eq__" = some (some (.ref f))) (hf : PySem.W.isFn X.K (.ref f) = true) (hb : Binds X.K fd ps []) (hx : Passes CX X E) :
    OpR X (compareOp .NotEq) (rNeOne C sp E) := by
  rintro pins s σ H x y v u Q I rx ry ⟨l, m, a, dx, fs, b, dy, gs, rfl, rfl, hl, hm, ha, hb2, hne, h⟩
  cases rx; cases ry
  obtain ⟨_, its, n, r, h1⟩ := (show ObjOk X.prog X.w H s.heap l (.lst [.ref a]) from I.hok l _ hl)
  obtain ⟨i, rfl, ri⟩ := r.one
  cases ri
  obtain ⟨_, its2, n2, r2, h2⟩ := (show ObjOk X.prog X.w H s.heap m (.lst [.ref b]) from I.hok m _ hm)
  obtain ⟨i2, rfl, ri2⟩ := r2.one
  cases ri2
  have eq := eqB_own F (A := X.A.in1) hr.in1 rfl hs hf hb hx I ha hb2 hne h
  show wpAny _ X.A (richCompare .NotEq (.ref l) (.ref m)) _ _ s
  have ne : ∀ c : Bool, Value.bool c ≠ Value.notImplemented := fun _ z => nomatch z
  refine wpAny_richCompare_same_room (op := .NotEq) ⟨_, h1, rfl⟩ ⟨_, h2, rfl⟩ PySem.F.slot_list_ne (GQ.call_here PySem.F.slot_list_ne ⟨_, h1, rfl⟩ PySem.F.entry_list_ne (PySem.F.args_list_ne_2 _ _) ?_) hr.units0
  refine body_ne1 rfl rfl h1 h2 (wpAny_mono eq (fun r s' z => ?_) fun _ _ z => z)
  obtain ⟨hr', H', I', hl', hm', q⟩ := z
  obtain ⟨_, its, k1, r, g1⟩ := (show ObjOk X.prog X.w H' s'.heap l (.lst [.ref a]) from I'.hok l _ hl')
  obtain ⟨i, rfl, ri⟩ := r.one
  cases ri
  obtain ⟨_, its2, k2, r2, g2⟩ := (show ObjOk X.prog X.w H' s'.heap m (.lst [.ref b]) from I'.hok m _ hm')
  obtain ⟨i2, rfl, ri2⟩ := r2.one
  cases ri2
  exact ⟨hr', ⟨k1, k2, g1, g2⟩, ne _, .bl false, H', I', rfl, q⟩
/-! by a def that is known to do its promise -/
theorem op_eqLRD (D : Does X.prog X.w X.K X.mg X.base CX k f ps sp) (hr : Room k X.A) (m : EqC X.K C f) (hx : Passes CX X E) : OpR X (compareOp .Eq) (fun x y H Q => rOwnL X.K C sp E x y H Q ∨ rOwnR X.K C sp E x y H Q) :=
  let ⟨⟨_, F, b⟩, _⟩ := D; (op_eqL F hr m.eq m.fn b hx).or (op_eqR F hr m.eq m.fn b hx)
theorem op_neLRD (D : Does X.prog X.w X.K X.mg X.base CX k f ps sp) (hr : Room (k + 1) X.A) (m : EqC X.K C f) (hx : Passes CX X E) : OpR X (compareOp .NotEq) (fun x y H Q => rNeL X.K C sp E x y H Q ∨ rNeOne C sp E x y H Q) :=
  let ⟨⟨_, F, b⟩, _⟩ := D; (op_neL F hr m b hx).or (op_neOne F hr m.eq m.fn b hx)
theorem op_notInD1 (D : Does X.prog X.w X.K X.mg X.base CX k f ps sp) (hr : Room (k + 1) X.A) (m : EqC X.K C f) (hx : Passes CX X E) : OpR X (compareOp .NotIn) (rNotInOwn C sp E) :=
  let ⟨⟨_, F, b⟩, _⟩ := D; op_notInOwn F hr m.eq m.fn b hx
end
end FP
/-! classmethods, calls of a class that a name holds, functions that stand anywhere -/
namespace FP
open PySem PySem.Spec PyProof.Rows L2
/-! ### functions by the address that is told -/
structure DX where
  ad : PySem.W.Frag → Addr
  name : Str
  qual : Str
  st : Stmt
def fnX (K : PySem.W.Frag) (a : Addr) : He.FnW := match K.lookup a with
  | some ⟨_, _, .func fd, _⟩ => some (fd.name, fd.qualname, fd.params, fd.body, fd.scope, fd.globals, fd.closure, fd.builtins)
  | _ => none
def DX.val (d : DX) : He.FnW := some (d.name, d.qual, defArgs d.st, .stmts (defBody d.st), defScope d.st, mainGlobals, [], builtinsNs)
def DX.ok (K : PySem.W.Frag) (d : DX) : Bool := PySem.W.keepIn K (.ref (d.ad K)) && (match K.lookup (d.ad K) with
  | some ⟨_, _, .func fd, _⟩ => PySem.W.codeIn K fd.code d.qual && fd.defaults == Value.none
  | _ => false)
def obsX (fn : List DX) (ex : PySem.W.Frag → Bool) (K : PySem.W.Frag) : AlF := (ex K && fn.all fun d => d.ok K, fn.map fun d => fnX K (d.ad K))
def valX (fn : List DX) : AlF := (true, fn.map DX.val)
def obsXG (n : Nat) (fn : List DX) (ex : PySem.W.Frag → Bool) (g : Addr → Option Obj) : AlF := obsX fn ex (He.frG g (cStatics :: He.asD g n))
def hookX (n : Nat) (fn : List DX) (ex : PySem.W.Frag → Bool) : PySem.W.Hook where
  α := AlF
  obs := fun s => obsXG n fn ex s.heap.get?
  val := fun _ => valX fn
  says := fun _ h => ∃ K : PySem.W.Frag, K.In h ∧ obsX fn ex K = valX fn
  of := fun _ _ e => ⟨_, He.frG_in, e⟩
  keeps := fun _ _ _ ⟨K, hK, c⟩ k => ⟨K, PySem.W.Frag.In.keeps hK k, c⟩
theorem obsX_eq {n : Nat} {fn : List DX} {ex : PySem.W.Frag → Bool} {g : Addr → Option Obj} {s : Shared} (h : ∀ a, g a = s.heap.get? a) : obsXG n fn ex g = (hookX n fn ex).obs s := by
  have e : g = s.heap.get? := funext h
  rw [e] <;> rfl
section
variable {fn : List DX} {ex : PySem.W.Frag → Bool} {K : PySem.W.Frag}
theorem told_exX (c : obsX fn ex K = valX fn) : ex K = true := (and_ok (show (ex K && fn.all fun d => d.ok K) = true from congrArg Prod.fst c)).1
theorem DX.fun_ {d : DX} (e : fnX K (d.ad K) = d.val) (c : d.ok K = true) : ∃ fd, Fun K d.name d.qual d.st (d.ad K) fd := by
  obtain ⟨kp, c2⟩ := and_ok c
  unfold fnX at e
  split at e
  next oc od fd osl q =>
    rw [q] at c2
    obtain ⟨n1, n2, n3, n4, n5, n6, n7, n8, n9, n10, n11, n12, n13, n14, n15⟩ := fd
    have e2 : (some (n1, n2, n3, n4, n5, n6, n7, n15) : He.FnW) = some (d.name, d.qual, defArgs d.st, .stmts (defBody d.st), defScope d.st, mainGlobals, [], builtinsNs) := e
    simp only [Option.some.injEq, Prod.mk.injEq] at e2
    obtain ⟨h1, h2, h3, h4, h5, h6, h7, h8⟩ := e2
    subst h1 h2 h3 h4 h5 h6 h7 h8
    have c3 : (PySem.W.codeIn K n13 d.qual && n8 == Value.none) = true := c2
    obtain ⟨k1, k2⟩ := and_ok c3
    have k2 := eq_of_beq k2
    subst k2
    exact ⟨_, ⟨oc, od, n9, n10, n11, n12, n13, n14, osl, rfl, q, k1⟩, kp⟩
  next => cases e
theorem told_fnX (c : obsX fn ex K = valX fn) (i : Nat) {d : DX} (h : fn[i]? = some d := by rfl) : ∃ fd, Fun K d.name d.qual d.st (d.ad K) fd := by
  have c1 := (and_ok (show (ex K && fn.all fun d => d.ok K) = true from congrArg Prod.fst c)).2
  have c2 : fn.map (fun d => fnX K (d.ad K)) = fn.map DX.val := congrArg Prod.snd c
  refine DX.fun_ ?_ (List.all_eq_true.mp c1 d (List.mem_of_getElem? h))
  have z := congrArg (fun l => l[i]?) c2
  simp only [List.getElem?_map, h, Option.map_some, Option.some.injEq] at z
  exact z
end
/-- the def of a record (a classmethod, a property) -/
def reG (K : PySem.W.Frag) (T : String) (p : Addr) : Addr := match PySem.W.recIn K p T with
  | some (.ref g :: _) => g
  | _ => 0
/-! ### classmethods -/
def crdB (K : PySem.W.Frag) (C : Addr) : Bool := PySem.W.readsIn K C (.type "type") && He.eqO (PySem.W.specialIn K (.ref C) "__getattribute__") (some (some (.builtin "type.__getattribute__")))
theorem crdB_ok {K : PySem.W.Frag} {C : Addr} (h : crdB K C = true) : ClX.CRead K C (.type "type") := let ⟨h1, h2⟩ := and_ok h; ⟨h1, He.eqO_ok h2⟩
def cmtB (K : PySem.W.Frag) (C : Addr) (m : Str) (p : Addr) : Bool := (match PySem.W.findCls K (.ref C) (.type "type") m with
  | some (.get (.builtin b) (.ref p') .none (.ref c')) => b == "classmethod.__get__" && (p' == p && c' == C)
  | _ => false) && ((match PySem.W.recIn K p "classmethod" with
  | some (.ref _ :: _) => true
  | _ => false) && PySem.W.fnIn K (reG K "classmethod" p))
theorem cmtB_ok {K : PySem.W.Frag} {C : Addr} {m : Str} {p : Addr} (h : cmtB K C m p = true) : ClX.CMet K C (.type "type") m p (reG K "classmethod" p) := by
  obtain ⟨h1, h2⟩ := and_ok h
  obtain ⟨h2, h3⟩ := and_ok h2
  refine ⟨?_, ?_, h3⟩
  · split at h1
    next b p' c' e =>
      obtain ⟨a1, a2⟩ := and_ok h1
      obtain ⟨a2, a3⟩ := and_ok a2
      rw [e, eq_of_beq a1, eq_of_beq a2, eq_of_beq a3]
    next => cases h1
  · split at h2
    next g r e =>
      refine ⟨r, ?_⟩
      unfold reG
      rw [e]
    next => cases h2
/-- C.m(e, ..), C a class, m its classmethod -/
def tCM (C : Addr) (sp : Sp) (E : L2.St → XK) (ta : TE) (t : TA) : TE := fun σ H Q => ta σ H fun x H1 => x = .ref C ∧ t σ H1 fun vs H2 => sp (.ref C :: vs) H2 Q (E σ)
section
variable {X : Cx} {CX : CXT} {k : Nat} {C p g : Addr} {mc : Value} {sp : Sp} {E : L2.St → XK} {o e : Expr} {es : List Expr} {ps : List Str} {m : Str} {pos apos : Pos} {ta : TE} {t : TA} {pl : Sem Bool}
theorem goC {pins : List (Addr × Obj)} {σ : L2.St} {H : Hp} {s : Shared} {Q : VK} {us : List Value} {vs : List V} (D : Does X.prog X.w X.K X.mg X.base CX k g ps sp) (hr : Room k X.A)
    (hx : PassesAt CX X σ (E σ)) (I : L2.Inv X pins σ H s) (r : Vals vs us) (h : sp vs H Q (E σ)) :
    codeAny (model X.prog X.w) X.A (.call (.ref g) ⟨us, []⟩) (fun r s' => match r with | .ok (.ret v) => EP X pins σ Q v s' | .ok _ => False | .error e => X.xe e s') s := by
  obtain ⟨⟨fd, F, hb⟩, _⟩ := D
  have n : (us ++ []).length = ps.length := by
    rw [List.append_nil, ← r.length]
    exact F.len _ _ _ _ h
  have b := hb s us I.kIn n
  rw [List.append_nil] at b
  refine codeAny_mono (F.run X.A X.stack s H ⟨us, []⟩ us vs Q (E σ) hr I.env0 b r h) ?_
  intro res s' hq
  match res, hq with
  | .error ex, hq => exact hx pins H s ex s' I hq
  | .ok (.ret u), hq => exact I.after hq
theorem pe_cm (D : Does X.prog X.w X.K X.mg X.base CX k g ps sp) (r : ClX.CRead X.K C mc) (c : ClX.CMet X.K C mc m p g) (hr : Room k X.A) (hx : ∀ σ, PassesAt CX X σ (E σ)) (he : PE X o ta) (ha : PA X (e :: es) t)
    (hst : starEach (e :: es) X.env = (false, eval e X.env) :: starEach es X.env := by rfl) (hpl : (backTo pos (starEach es X.env)).any (·.1) = false := by rfl)
    (ht : eval (.Call (.Attribute o m apos) (e :: es) [] pos) X.env = (do
      let ov ← eval o X.env; standAt apos.atName
      let (f, first) ← holding [ov] (getMethod ov m pl)
      callWith pos f first (backTo pos (starEach (e :: es) X.env)) (backToKw pos (keywordEach [] X.env))) := by rfl) :
    PE X (.Call (.Attribute o m apos) (e :: es) [] pos) (tCM C sp E ta t) := by
  refine ⟨fun pins s σ H Q I h => PySem.W.methodCall_KW (pl := pl) (thn (he.run pins s σ H _ I h) ?_) ht⟩
  rintro u s1 ⟨x, H1, I1, rx, rfl, q⟩
  cases rx
  refine ClX.getmethcm_ok I1 r c fun s2 I2 => ClX.callwith_cm I2 (ClX.base_none I1 (Nat.le_refl _)) c.fi (thn (ha.run pos _ s2 σ H1 _ I2 q) ?_) hst hpl
  rintro us s3 ⟨vs, H2, I3, rv, q2⟩
  refine ⟨⟨ClX.pin_at I3, I3.kIn⟩, ?_⟩
  exact thn (wpAny_call (PySem.W.method_call (ClX.pin_at I3) (goC (us := .ref C :: us) (vs := .ref C :: vs) D hr (hx σ) I3 (.cons rfl rv) q2))) fun _ _ y => ClX.unpinE y
end
/-! ### a class that a name holds is called -/
def tKV (i : Nat) (C : Addr) (sp : Sp) (E : L2.St → XK) (t : TA) : TE := fun σ H Q => σ[i]? = some (some (.ref C)) ∧ tK C sp E t σ H Q
section
variable {X : Cx} {CX : CXT} {k i : Nat} {f C : Addr} {sp : Sp} {E : L2.St → XK} {x : Str} {e : Expr} {es : List Expr} {ps : List Str} {t : TA} {p pos : Pos}
theorem pe_kv (D : Does X.prog X.w X.K X.mg X.base CX k f ps sp) (M : Mk X.K C f) (hr : Room (k + 1) X.A) (hx : ∀ σ, PassesAt CX X σ (E σ)) (ha : PA X (e :: es) t)
    (hN : X.N[i]? = some x := by rfl) (hv : Vis X.env.scope x := by first | exact Or.inl rfl | exact Or.inr (Or.inl rfl) | exact Or.inr (Or.inr rfl))
    (hd : (x == ("__debug__" : Str)) = false := by decide) (hcd : (x == ("__classdict__" : Str)) = false := by decide)
    (he : starEach (e :: es) X.env = (false, eval e X.env) :: starEach es X.env := by rfl) (hpl : (backTo pos (starEach es X.env)).any (·.1) = false := by rfl) : PE X (.Call (.Name x p) (e :: es) [] pos) (tKV i C sp E t) := by
  refine ⟨fun pins s σ H Q I h => ?_⟩
  obtain ⟨hs, h⟩ := h
  refine wpAny_Call_Name_kw (thn ((pe_var (pos := p) (i := i) hN hv hd hcd).run pins s σ H (fun v H1 => v = .ref C ∧ H1 = H) I ⟨.ref C, hs, rfl, rfl⟩) ?_)
  rintro u s1 ⟨v, H1, I1, r1, rfl, rfl⟩
  cases r1
  refine PySem.W.callWith_K (h₀ := X.base) I.ok.mod.kin M.kp ?_ he hpl
  exact thn (ha.run pos pins s1 σ H1 _ I1 h) fun us s1 ⟨vs, H1, I1, r, q⟩ => ⟨I1.kIn, goMk D M hr (hx σ) I1 r q⟩
/-- a statement that is never reached -/
def tNever : TS := fun _ _ _ => False
theorem ps_never {X : Cx} {st : Stmt} : PS X st tNever := ⟨fun _ _ _ _ _ _ h => h.elim⟩
end
end FP
/-! texts: split by a text, int of a text, a comprehension over the signs of a text -/
namespace FP
open PySem PySem.Spec PyProof.Rows L2
def rSplit1 : V → List V → Hp → VK → Prop := fun x xs H Q => ∃ a b, x = .str a ∧ xs = [.str b] ∧ (b.length == 0) = false ∧ a.length + 2 ≤ sizeLine ∧ rNewStrs (Txt.split a b) H Q
section
variable {X : Cx} {o e : Expr} {to te : TE} {apos pos : Pos}
theorem pe_split1 (ho : PE X o to) (he : PE X e te) (hs : starEach [e] X.env = [(false, eval e X.env)] := by rfl) (hbase : attributeBase o "split" X.env (eval o X.env) = eval o X.env := by rfl) (hline : (apos.endLine == pos.line) = true := by rfl) :
    PE X (.Call (.Attribute o "split" apos) [e] [] pos) (tM1 rSplit1 to te) := pe_split ho he hs hbase hline
def uInt : List V → Hp → VK → Prop := fun xs H Q => ∃ a n, xs = [.str a] ∧ PySem.intText? a = some n ∧ a.length ≤ 640 ∧ Q (.int n) H
theorem call_uInt : CallR X (.type "int") uInt := call_int_str
end
/-- over the signs of a text -/
theorem lc_str {x : Str} {g : TG} {tt : TT} {te : TE} {vs : List Nat} {σ : L2.St} {H1 : Hp} {D : Addr} {Qd : Hp → Prop} (Pv : Nat → Hp → Prop) (h0 : Pv 0 (upd H1 D (.lst [])))
    (hs : ∀ i c H, x.cps.toList[i]? = some c → Pv i H → g (.str ⟨#[c]⟩) (wipe σ vs) H fun σ2 H2 => wipe σ2 vs = wipe σ vs ∧ tt σ2 H2 fun b H3 =>
      if b = true then te σ2 H3 fun y H4 => ∃ acc, H4 D = some (.lst acc) ∧ acc.length < sizeLine ∧ Pv (i + 1) (upd H4 D (.lst (acc ++ [y]))) else Pv (i + 1) H3) (hd : ∀ H, Pv x.cps.toList.length H → Qd H) :
    ∃ W : Nat → Nat → Hp → Prop, (∃ m, W 0 m (upd H1 D (.lst []))) ∧ ∀ i m H, W i m H →
      ((Its x).stop i H ∧ Qd H) ∨ ((Its x).go i H ∧ ∃ Nx : Hp → Prop, (∀ H', Nx H' → ∃ m', m' < m ∧ W (i + 1) m' H') ∧ ∀ v H', (Its x).yld i H v H' → g v (wipe σ vs) H' fun σ2 H2 => wipe σ2 vs = wipe σ vs ∧ tt σ2 H2 fun b H3 =>
        if b = true then te σ2 H3 fun y H4 => ∃ acc, H4 D = some (.lst acc) ∧ acc.length < sizeLine ∧ Nx (upd H4 D (.lst (acc ++ [y]))) else Nx H3) := by
  have len : x.cps.toList.length = x.cps.size := Array.length_toList
  refine ⟨fun i m H => m = x.cps.size - i ∧ i ≤ x.cps.size ∧ Pv i H, ⟨x.cps.size, rfl, Nat.zero_le _, h0⟩, ?_⟩
  rintro i m H ⟨rfl, hi, p⟩
  by_cases hlt : i < x.cps.size
  · refine .inr ⟨hlt, Pv (i + 1), fun H' p' => ⟨x.cps.size - (i + 1), by omega, rfl, hlt, p'⟩, fun v H' y => ?_⟩
    obtain ⟨e, c, ec, ev⟩ := y
    subst e ev
    exact hs i c _ (by rw [Array.getElem?_toList]; exact ec) p
  · have e : i = x.cps.size := by omega
    subst e
    exact .inl ⟨Nat.le_refl _, hd H (by rw [len]; exact p)⟩
end FP
/-! whole numbers of up to 4300 digits: int of a text, a number within a text -/
namespace FP
open PySem PySem.Spec PyProof.Rows L2
/-- the limit on digits is as it is at the start -/
def ndB (K : PySem.W.Frag) : Bool := match K.lookup cStatics with
  | some ⟨_, _, .dict es _, _⟩ => es.all (fun e => match e.key with | .str _ _ => true | _ => false) && (nsFind es "sys.int_max_str_digits").isNone
  | _ => false
def ND (K : PySem.W.Frag) : Prop := ∀ h : Heap, K.In h → h.NoDigits
theorem ndB_ok {K : PySem.W.Frag} (h : ndB K = true) : ND K := by
  intro hp X
  unfold ndB at h
  split at h
  next oc od es ep sl e =>
    obtain ⟨h1, h2⟩ := and_ok h
    refine ⟨fun n => nsFind es n, ⟨_, es, ep, X _ _ e, rfl, fun en hen => ?_, fun _ => rfl⟩, ?_⟩
    · have := Array.all_eq_true_iff_forall_mem.mp h1 en hen
      split at this
      next n t ek => exact ⟨n, t, ek⟩
      next => cases this
    · simpa using h2
  next => cases h
section
open PySem.W PySem.Calls PySem.NumText
theorem maxd {M : Model} {A : Around} {E : Value → Shared → Prop} {s : Shared} {Q : Nat → Shared → Prop} (hn : s.heap.NoDigits) (h : Q 4300 s) : wpAny M A Builtin.intMaxStrDigits Q E s := by
  obtain ⟨mc, hns, e⟩ := hn
  unfold Builtin.intMaxStrDigits
  refine wpAny_bind (wpAny_nsGet hns ?_)
  rw [e]
  exact wpAny_pure h
theorem wp_textL {M : Model} {A : Around} {E : Value → Shared → Prop} {s : Shared} {Q : Value → Shared → Prop} {v : Value} {text : List Nat} {n : Int} (hd : s.heap.NoDigits)
    (hs : ¬ (text.takeWhile (· != 0)).length ≤ 640) (hr : (int_private% "readNumeral") 4300 10 (text.takeWhile (· != 0)) = (int_private% "Numeral.value") n)
    (ha : ((text.takeWhile (· != 0)).length == text.length) = true) (h : Q (.int n s.toks) { s with toks := s.toks + 1 }) :
    wpAny M A ((int_private% "intFromText") v text 10) Q E s := by
  obtain ⟨hp, g, d, tk, os⟩ := s
  have hd : Heap.NoDigits hp := hd
  repeat (any_goals (first
    | assumption
    | ((with_reducible show wpAny _ _ Builtin.intMaxStrDigits _ _ _); refine maxd hd ?_)
    | (with_reducible refine wpAny_ite_false (by simpa using hs) ?_)
    | (with_reducible refine wpAny_ite_true (decide_eq_true ha) ?_)
    | wp_step))
  all_goals (try rw [hr])
  all_goals (try dsimp only)
  repeat (any_goals (first
    | assumption
    | (with_reducible refine wpAny_ite_true (decide_eq_true ha) ?_)
    | wp_step))
structure Hid2 (p : Prop) : Prop where
  out : p
theorem meets_textL {x : PySem.Str} {u : Tok} {n : Int} (hl : x.length ≤ sizeLine) (hn : PySem.intText? x = some n) :
    Meets (Builtin.«int.__new__» ⟨[.type "int", .str x u], []⟩) (fun _ R s => s.heap.NoDigits ∧ R (.ok (.ret (.int n s.toks))) { s with toks := s.toks + 1 }) := by
  intro prog w A R s hq
  obtain ⟨hd, h⟩ := hq
  have key : ∀ (v : Value) (E : Value → Shared → Prop) (Q : Value → Shared → Prop), Q (.int n s.toks) { s with toks := s.toks + 1 } → wpAny (model prog w) A.in1 ((int_private% "intFromText") v (numTextOf x) 10) Q E s := by
    intro v E Q q
    have hr : ((numSeenOf x).length == (numTextOf x).length) = true ∧ (int_private% "readNumeral") (numLimitOf x) 10 (numSeenOf x) = (int_private% "Numeral.value") n := by
      rcases readAny x hl with ⟨m, h1, h2, h3⟩ | ⟨h1, _⟩
      · rw [hn] at h1
        injection h1 with h1
        subst h1
        exact ⟨h2, h3⟩
      · rw [hn] at h1
        cases h1
    by_cases hs : (numSeenOf x).length ≤ 640
    · have e : numLimitOf x = 0 := if_pos hs
      rw [e] at hr
      exact PySem.W.KIN.wp_text hs hr.2 hr.1 q
    · have e : numLimitOf x = 4300 := if_neg hs
      rw [e] at hr
      exact wp_textL hd hs hr.2 hr.1 q
  obtain ⟨hp, g, d, tk, os⟩ := s
  have f1 := F.conv_sub_int
  have f2 := F.madeHere_int
  have f3 := PySem.W.KIN.str_int
  have f4 := PySem.W.KIN.str_idx
  have f5 := PySem.W.KIN.str_trunc
  have f6 : typeOf (.str x u) = pure (.type "str") := rfl
  have hk := Hid2.mk key
  clear key hl hn hd
  repeat (any_goals (first
    | assumption
    | ((with_reducible show wpAny _ _ ((int_private% "intFromText") _ _ _) _ _ _); refine hk.out _ _ _ ?_)
    | wp_step))
  all_goals first | exact h | skip
end
section
variable {X : Cx}
/-- int of a text, of up to 4300 digits -/
def uIntL : List V → Hp → VK → Prop := fun xs H Q => ∃ a n, xs = [.str a] ∧ PySem.intText? a = some n ∧ a.length ≤ sizeLine ∧ Q (.int n) H
theorem call_uIntL (hd : ND X.K) : CallR X (.type "int") uIntL := by
  rintro pins s σ H xs us Q I rs ⟨a, n, rfl, hn, hl, h⟩
  obtain ⟨u, rfl, r1⟩ := vals1 rs
  obtain ⟨t, rfl⟩ := r1
  exact PySem.call_int_1 (meets_textL hl hn) ⟨hd _ I.kIn, rfl, .int n, H, I.tok _, ⟨_, rfl⟩, h⟩
/-- {x}: an int of up to 4300 digits -/
def tFmtL (te : TE) : TE := fun σ H Q => te σ H fun x H1 => ∃ i : Int, x = .int i ∧ i.natAbs < 10 ^ 4300 ∧ Q (.str (toString i)) H1
theorem pe_fmtL {e : Expr} {te : TE} {pos : Pos} {k : Nat} (hd : ND X.K) (hr : Room k X.A) (he : PE X e te) : PE X (.FormattedValue e (-1) none pos) (tFmtL te) := by
  refine ⟨fun pins s σ H Q I h => ?_⟩
  refine wpAny_FormattedValue_plain (thn (he.run pins s σ H _ I h) fun v s1 hv => ?_)
  obtain ⟨x, H1, I1, r1, i, rfl, hz, q⟩ := hv
  obtain ⟨t, rfl⟩ := r1
  generalize hP : 10 ^ 4300 = P at hz
  refine formatField_int hr.hd (hd _ I1.kIn) (fun _ => ⟨.str (toString i), H1, I1.tok _, ⟨_, rfl⟩, q⟩) (fun hge => ?_)
  rw [hP] at hge
  exact absurd hz (Nat.not_lt.mpr hge)
end
end FP
/-! own exceptions with an own __init__: what the head tells, isinstance and a field behind the suite -/
namespace FP
open PySem PySem.Spec PyProof.Rows L2
/-! ### by truth values -/
def oexB (K : PySem.W.Frag) (C : Addr) : Bool := (match K.lookup C with
  | some ⟨.type t, _, .cls cd, sl⟩ => t == "type" && (match cd.mro, sl.toList with
    | .ref C' :: bm, [_, _, _, _, some (.builtin n), _] => (C' == C && n == "ValueError.__new__") && (!cd.hasDel && (cd.hasDict && PySem.HandSPX.refsVE bm))
    | _, _ => false)
  | _ => false) && (He.eqO (PySem.W.findIn K (.ref C) "__setattr__") (some (some (.builtin "object.__setattr__"))) && (decide (PySem.W.subIn K (.ref C) (.type "BaseException") = some true) && (decide (PySem.W.typeIn K (.ref C) = some (.type "type")) && PySem.W.keepIn K (.ref C))))
theorem oexB_ok {K : PySem.W.Frag} {C : Addr} (h : oexB K C = true) : OexC K C := by
  obtain ⟨h1, h⟩ := and_ok h
  obtain ⟨h2, h⟩ := and_ok h
  obtain ⟨h3, h⟩ := and_ok h
  obtain ⟨h4, h5⟩ := and_ok h
  refine ⟨?_, He.eqO_ok h2, of_decide_eq_true h3, of_decide_eq_true h4, h5⟩
  split at h1
  next t dd cd sl e =>
    obtain ⟨ht, g1⟩ := and_ok h1
    clear h1
    have ht := eq_of_beq ht
    subst ht
    split at g1
    next C' bm k0 k1 k2 k3 n k5 hm hs =>
      obtain ⟨a1, a2⟩ := and_ok g1
      obtain ⟨b1, b2⟩ := and_ok a1
      obtain ⟨c1, c2⟩ := and_ok a2
      obtain ⟨d1, d2⟩ := and_ok c2
      have b1 := eq_of_beq b1
      have b2 := eq_of_beq b2
      subst b1 b2
      obtain ⟨nm, bs, mro, ns, qn, hd, sn, sub, ab, col, del⟩ := cd
      dsimp only at hm c1 d1
      subst hm d1
      have c1 : del = false := by simpa using c1
      subst c1
      have hsl : sl = #[k0, k1, k2, k3, some (.builtin "ValueError.__new__"), k5] := by
        obtain ⟨l⟩ := sl
        simp only at hs
        rw [hs]
      subst hsl
      exact ⟨nm, qn, ns, bs, bm, sn, sub, ab, col, dd, k0, k1, k2, k3, k5, e, d2⟩
    next => cases g1
  next => cases h1
def excsB (K : PySem.W.Frag) (C : Addr) : Bool := xfB K C && (He.eqO (PySem.W.findIn K (.ref C) "__class__") (some (some (.builtin "object.__class__"))) &&
  (He.eqO (PySem.W.specialIn K (.builtin "object.__class__") "__get__") (some (some (.builtin "getset_descriptor.__get__"))) && (decide (PySem.W.takesIn K (.builtin "object.__class__") = some true) && decide (PySem.W.mroIn K C (.type "object") = some true))))
structure ExcS (K : PySem.W.Frag) (C : Addr) : Prop where
  f : XfC K C
  c : ExcC K C
theorem excsB_ok {K : PySem.W.Frag} {C : Addr} (h : excsB K C = true) : ExcS K C := by
  obtain ⟨h1, h⟩ := and_ok h
  obtain ⟨h2, h⟩ := and_ok h
  obtain ⟨h3, h⟩ := and_ok h
  obtain ⟨h4, h5⟩ := and_ok h
  have x := xfB_ok h1
  exact ⟨x, x.ga, x.gg, x.exC, x.hdC, He.eqO_ok h2, He.eqO_ok h3, of_decide_eq_true h4, of_decide_eq_true h5⟩
def tyfB (K : PySem.W.Frag) (f : Addr) : Bool := decide (PySem.W.typeIn K (.ref f) = some (.type "function"))
/-! ### such an exception, known behind the suite -/
section
variable {X : Cx} {pins : List (Addr × Obj)} {σ : L2.St} {H : Hp} {s : Shared}
theorem ext_inst {a d : Addr} {D : Addr} {fs : List (Str × V)} (I : Inv X pins σ H s) (ha : H a = some (ExT (.ref D) (some d) a)) (hd : H d = some (.xd fs)) :
    ∃ (oe od : Obj) (mA : Str → Option Value), PySem.W.InstAt s.heap a oe D (some od) ∧ (∀ n, PySem.W.lookIn n od = some (mA n)) ∧ ∀ f, RelO (fs.lookup f) (mA f) := by
  obtain ⟨⟨oe, vs, at0, z, dt⟩, _, _⟩ := I.hok a _ ha
  obtain ⟨mA, hns, hr⟩ := (show ObjOk X.prog X.w H s.heap d (.xd fs) from I.hok d _ hd)
  obtain ⟨od, ho, hl⟩ := lookIn_ns hns
  exact ⟨oe, od, mA, ⟨at0, z.1, by unfold PySem.W.notCls; rw [dt] <;> rfl, by rw [z.2]; exact ho⟩, hl, hr⟩
end
/-- e.f, e such an exception -/
def tXfE (C : Addr) (f : Str) (te : TE) : TE := fun σ H Q => te σ H fun x H1 => ∃ (a d : Addr) (fs : List (Str × V)) (v : V), x = .ref a ∧ H1 a = some (ExT (.ref C) (some d) a) ∧ H1 d = some (.xd fs) ∧ fs.lookup f = some v ∧ Q v H1
theorem pe_xfE {X : Cx} {C : Addr} {e : Expr} {te : TE} {pos : Pos} {n : Str} (T : ExcS X.K C) (hno : NoAttr X.K C n) (he : PE X e te) (hb : attributeBase e n X.env (eval e X.env) = eval e X.env := by rfl) :
    PE X (.Attribute e n pos) (tXfE C n te) := by
  refine ⟨fun pins s σ H Q I h => attr_of hb (thn (he.run pins s σ H _ I h) ?_)⟩
  rintro u s1 ⟨x, H1, I1, rx, a, d, fs, v, rfl, ha, hd, l, q⟩
  cases rx
  obtain ⟨oe, od, mA, J, hl, hr⟩ := ext_inst I1 ha hd
  obtain ⟨u, hu, ru⟩ := RelO.some_of (v := v) (o := mA n) (by rw [← l]; exact hr n)
  exact HandSPX.exc_get I1.kIn J T.f.ga T.f.gg T.f.exC (PySem.W.findObj_own T.f.hdC hno rfl (by rw [hl, hu])) (handed_of ru) ⟨v, H1, I1.tok _, ru, q⟩
/-! ### isinstance of it -/
section
open PySem.W PySem.Calls
variable {prog : Program} {w : World} {A : Around} {E : Value → Shared → Prop} {s : Shared} {K : Frag} {x D : Addr} {ox od : Obj}
theorem class_of {Q : Option Value → Shared → Prop} (T : ExcC K D) (X : K.In s.heap) (J : InstAt s.heap x ox D (some od)) (h : Q (some (.ref D)) { s with toks := s.toks + 1 }) : wpAny (model prog w) A (getAttr? (.ref x) "__class__") Q E s := by
  have isC : (clsIn K D).isSome = true := by
    obtain ⟨cd, hc, _⟩ := any_some T.hd
    rw [hc]
    rfl
  have hf := findObj_data (od := od) isC T.ha T.hn T.ht
  obtain ⟨hp, g, dr, tk, os⟩ := s
  have T0 := J.type (M := model prog w)
  have T1 := looks_findIn (M := model prog w) X T.hg
  have T2 := looks_findIn (M := model prog w) X T.hk
  have T3 := looks_find (M := model prog w) X J hf
  have below : Looks (model prog w) hp (isInstance (.ref x) (.type "BaseException")) true := T0.andThen (looks_subIn X T.hs)
  have n0 : (false && onTheHeap (Value.builtin "BaseException.__getattribute__")) = false := rfl
  have n1 : (onTheHeap (Value.ref D) && Value.builtin "BaseException.__getattribute__" == Value.builtin "object.__getattribute__") = false := by
    have : (Value.builtin "BaseException.__getattribute__" == Value.builtin "object.__getattribute__") = false := by decide +kernel
    rw [this]
    rfl
  unfold getAttr? getAttrBy? getAttrBy
  refine wpAny_bind (wpAny_mkText (wpAny_bind (wpAny_attempt (wpAny_holding (wpAny_bind (T0.at (wpAny_bind (T1.at ?_))))))))
  dsimp only
  rw [n1]
  rw [if_neg Bool.false_ne_true]
  unfold getAttrByItsOwn hookBefore
  refine wpAny_bind ?_
  rw [if_pos (show onTheHeap (Value.ref D) = true from rfl)]
  refine T2.at (wpAny_bind (wpAny_attempt (wpAny_holding ?_)))
  unfold callGetattribute
  rw [n0]
  rw [if_neg Bool.false_ne_true]
  unfold boundAndCalled
  rw [PySem.F.excAttr_ValueError.ga.bind (.ref x)]
  refine wpAny_bind (wpAny_pure (wpAny_call (codeAny_call_builtin PySem.F.excAttr_ValueError.ga.plain PySem.F.entry_bexc_ga ?_)))
  refine @check_slot (model prog w) _ _ ⟨hp, g, dr, tk + 1, os⟩ "BaseException.__getattribute__" "BaseException" "__getattribute__" (.ref x) [.str "__class__" tk] [] _ (by decide +kernel) (by decide +kernel) below (PySem.F.args_bexc_ga (.ref x) (.str "__class__" tk)) ?_
  unfold Builtin.«object.__getattribute__»
  refine wpAny_bind (wpAny_of_eq (a := ((Value.ref x : Value), [Value.str "__class__" tk])) (by first | rfl | (simp only [slotArgs]; rfl)) (wpAny_bind (wpAny_pure (wpAny_bind (T0.at (wpAny_bind (T3.at ?_)))))))
  refine wpAny_bind (wpAny_holding (wpAny_call (class_get (s := ⟨hp, g, dr, tk + 1, os⟩) (ox := ox) (od := some od) X J T.hm (wpAny_pure ?_))))
  show wpAny _ _ (handedOut (.ref D)) _ _ _
  rw [handedOut_of (v := .ref D) rfl]
  first
    | exact wpAny_pure (wpAny_pure h)
    | exact wpAny_pure h
    | exact wpAny_pure (wpAny_bind (wpAny_pure (wpAny_pure h)))
theorem kitx_dict (T : ExcC K D) : KitX K (.ref x) (.ref D) (fun h => InstAt h x ox D (some od)) where
  ty := fun _ _ _ J => J.type
  it := fun _ _ X _ => by
    obtain ⟨cdD, hcD, _⟩ := any_some T.hd
    unfold clsIn at hcD
    split at hcD
    next ho =>
      intro A' Q' E' s' k q
      unfold isType loadHead
      exact wpAny_bind (wpAny_loadPart (k _ _ (X _ _ ho)) (wpAny_pure q))
    next => cases hcD
  ne := fun h tp dd its n sl X htp => by
    obtain ⟨cdD, hcD, _⟩ := any_some T.hd
    refine Bool.eq_false_iff.mpr fun q => ?_
    have e : D = tp := Value.ref.inj (beq_iff_eq.mp q)
    subst e
    unfold clsIn at hcD
    split at hcD
    next ho => cases (X _ _ ho).symm.trans htp
    next => cases hcD
  ca := fun X J k => class_of T X J k
end
section
variable {X : Cx}
def rIsXd (K : PySem.W.Frag) (D : Addr) : List V → Hp → VK → Prop := fun xs H Q => ∃ (a d : Addr) (fs : List (Str × V)) (c : V) (cv : Value) (b : Bool), xs = [.ref a, c] ∧ H a = some (ExT (.ref D) (some d) a) ∧ H d = some (.xd fs) ∧
  (∀ u, RelV c u → u = cv) ∧ PySem.W.kitOne K (.ref D) cv = some b ∧ Q (.bl b) H
theorem call_isXd {D : Addr} (C : ExcC X.K D) : CallR X (.builtin "isinstance") (rIsXd X.K D) := by
  rintro pins s σ H xs us Q I r ⟨a, d, fs, c, cv, b, rfl, ha, hd, hcv, hk, q⟩
  obtain ⟨u, w', rfl, rx, rt⟩ := vals2 r
  cases rx
  have ec := hcv _ rt
  subst ec
  obtain ⟨oe, od, mA, J, _, _⟩ := ext_inst I ha hd
  exact PySem.W.kia_one (kitx_dict C) I.kIn J hk (fun z => nomatch z) fun tk => ⟨.bl b, H, I.kept (t' := tk) fun _ _ z => z, rfl, q⟩
end
/-! ### raise C(e, ..), C with an own __init__ -/
def tRaiseO (C : Addr) (sp : Sp) (W : WX) (t : TA) : TS := fun _ σ H => tMkO C sp [] t σ H fun cls d H' => W cls d σ H'
theorem ps_raiseO {X : Cx} {W : WX} {C fI : Addr} {k : Nat} {ps : List Str} {sp : Sp} {x : Str} {e : Expr} {es : List Expr} {t : TA} {p pos pos2 : Pos} (D : Does X.prog X.w X.K X.mg X.base CX0 k fI ps sp) (hc : X.calm = true) (tk : Takes X W) (T : OexC X.K C)
    (m : Meth X.K C "__init__" fI) (tI : PySem.W.typeIn X.K (.ref fI) = some (.type "function")) (gC : X.mg x = some (.ref C)) (hr : Room (k + 1) X.A) (ha : PA X (e :: es) t) (hg : Gl X x := by rfl) (hdb : (x == ("__debug__" : Str)) = false := by decide)
    (he : starEach (e :: es) X.env = (false, eval e X.env) :: starEach es X.env := by rfl) (hpl : (backTo pos (starEach es X.env)).any (·.1) = false := by rfl) :
    PS X (.Raise (some (.Call (.Name x p) (e :: es) [] pos)) none pos2) (tRaiseO C sp W t) := by
  obtain ⟨⟨fd, F, b⟩, _⟩ := D
  exact ps_raise (t := tMkO C sp [] t) hc tk (pmk_oex T m.at_ tI F hr b .nil pass0 hg gC ha hdb he hpl)
theorem fun_ty {K : PySem.W.Frag} {f : Addr} (h : tyfB K f = true) : PySem.W.typeIn K (.ref f) = some (.type "function") := of_decide_eq_true h
/-! ### a text so many times -/
def uMulS (O : R2) : R2 := fun x y H Q => match x, y with
  | .str z, .int k => MulOk z k ∧ Q (.str (Txt.mul z k)) H
  | x, y => uMul O x y H Q
theorem op_uMulS {X : Cx} {O : R2} (ho : OpR X (binaryOp .Mult) O) : OpR X (binaryOp .Mult) (uMulS O) := by
  intro pins s σ H x y v u Q I rx ry h
  unfold uMulS at h
  split at h
  next z k =>
    obtain ⟨t, rfl⟩ := rx
    obtain ⟨t', rfl⟩ := ry
    exact PySem.SB.mul h.1 fun t' k' => ⟨.str _, H, I.tok k', ⟨t', rfl⟩, h.2⟩
  next => exact op_uMul ho pins s σ H _ _ v u Q I rx ry h
end FP
namespace FM
/-! mathematics of fractions -/
/-- the divisor that a Ratio is divided by -/
def dvs (t b : Int) : Int := if b < 0 then -(Int.gcd t b : Int) else Int.gcd t b
theorem gcd_ne {t b : Int} (h : b ≠ 0) : (Int.gcd t b : Int) ≠ 0 := by
  have := Int.gcd_pos_of_ne_zero_right t h
  omega
theorem dvs_ne {t b : Int} (h : b ≠ 0) : dvs t b ≠ 0 := by
  have := gcd_ne (t := t) h
  unfold dvs
  split <;> omega
theorem dvs_dvd_left (t b : Int) : dvs t b ∣ t := by
  unfold dvs
  split
  · exact Int.neg_dvd.mpr (Int.gcd_dvd_left ..)
  · exact Int.gcd_dvd_left ..
theorem dvs_dvd_right (t b : Int) : dvs t b ∣ b := by
  unfold dvs
  split
  · exact Int.neg_dvd.mpr (Int.gcd_dvd_right ..)
  · exact Int.gcd_dvd_right ..
theorem num_eq {t b : Int} (h : b ≠ 0) : t.fdiv (dvs t b) = (Rat.divInt t b).num := by
  rw [Int.fdiv_eq_ediv_of_dvd (dvs_dvd_left t b), Rat.num_divInt, Int.gcd_comm b t]
  unfold dvs
  rcases Int.lt_trichotomy b 0 with n | n | n
  · rw [if_pos n, Int.sign_eq_neg_one_of_neg n, Int.ediv_neg, Int.neg_mul, Int.one_mul, Int.neg_ediv_of_dvd (Int.gcd_dvd_left ..)]
  · exact absurd n h
  · rw [if_neg (by omega), Int.sign_eq_one_of_pos n, Int.one_mul]
theorem den_eq {t b : Int} (h : b ≠ 0) : b.fdiv (dvs t b) = ((Rat.divInt t b).den : Int) := by
  rw [Int.fdiv_eq_ediv_of_dvd (dvs_dvd_right t b), Rat.den_divInt, if_neg h, Int.gcd_comm b t, Int.natCast_ediv]
  unfold dvs
  rcases Int.lt_trichotomy b 0 with n | n | n
  · rw [if_pos n, Int.ediv_neg, Int.ofNat_natAbs_of_nonpos (by omega), Int.neg_ediv_of_dvd (Int.gcd_dvd_right ..)]
  · exact absurd n h
  · rw [if_neg (by omega), Int.natAbs_of_nonneg (by omega)]
theorem log2_le {a b : Nat} (h : a ≤ b) : a.log2 ≤ b.log2 := by
  by_cases ha : a = 0
  · subst ha; simp
  · have h1 := Nat.log2_self_le ha
    exact (Nat.le_log2 (by omega)).mpr (Nat.le_trans h1 h)
theorem dvs_small {t b : Int} (h : b ≠ 0) : (dvs t b).natAbs.log2 ≤ b.natAbs.log2 := by
  have e : (dvs t b).natAbs = Int.gcd t b := by
    unfold dvs
    split <;> simp
  rw [e]
  refine log2_le (Nat.le_of_dvd (by omega) ?_)
  exact Int.natAbs_dvd_natAbs.mpr (Int.gcd_dvd_right t b) |> fun z => by simpa using z
/-- one step of the divisor's loop -/
theorem gcd_step (x y : Int) : Int.gcd y (x % y) = Int.gcd x y := by
  rw [Int.emod_def, Int.gcd_sub_mul_left_right, Int.gcd_comm]
theorem gcd_step' (x y : Int) : Int.gcd y (x - x / y * y) = Int.gcd x y := by
  rw [Int.gcd_sub_mul_right_right, Int.gcd_comm]
end FM
namespace FM
theorem lg {n k : Nat} (hk : 0 < k) (h : n < 2 ^ k) : n.log2 < k := by
  by_cases e : n = 0
  · subst e
    simpa using hk
  · exact (Nat.log2_lt e).mpr h
theorem of_lg {n k : Nat} (h : n.log2 < k) : n < 2 ^ k := by
  by_cases e : n = 0
  · subst e
    exact Nat.two_pow_pos k
  · exact (Nat.log2_lt e).mp h
theorem num_le {t b : Int} (h : b ≠ 0) : (Rat.divInt t b).num.natAbs ≤ t.natAbs := by
  have e := num_eq (t := t) h
  rw [← e, Int.fdiv_eq_ediv_of_dvd (dvs_dvd_left t b), Int.natAbs_ediv_of_dvd (dvs_dvd_left t b)]
  exact Nat.div_le_self ..
theorem den_le {t b : Int} (h : b ≠ 0) : (Rat.divInt t b).den ≤ b.natAbs := by
  rw [Rat.den_divInt, if_neg h]
  exact Nat.div_le_self ..
theorem inv_of (q : Rat) : Rat.divInt (q.den : Int) q.num = q⁻¹ := by
  rw [← Rat.inv_divInt, Rat.num_divInt_den]
theorem num_zero {q : Rat} : q.num = 0 ↔ q = 0 := Rat.num_eq_zero
end FM
namespace FM
/-! sizes of numbers, and the four operations on fractions -/
theorem mulL {a b : Int} {k m : Nat} (ha : a.natAbs.log2 < k) (hb : b.natAbs.log2 < m) : (a * b).natAbs.log2 < k + m := by
  refine lg (by omega) ?_
  rw [Int.natAbs_mul, Nat.pow_add]
  exact Nat.mul_lt_mul'' (of_lg ha) (of_lg hb)
theorem addL {a b : Int} {k : Nat} (ha : a.natAbs.log2 < k) (hb : b.natAbs.log2 < k) : (a + b).natAbs.log2 < k + 1 := by
  refine lg (by omega) ?_
  have h1 := of_lg ha
  have h2 := of_lg hb
  have h3 := Int.natAbs_add_le a b
  rw [Nat.pow_succ]
  omega
theorem subL {a b : Int} {k : Nat} (ha : a.natAbs.log2 < k) (hb : b.natAbs.log2 < k) : (a - b).natAbs.log2 < k + 1 := by
  rw [Int.sub_eq_add_neg]
  exact addL ha (by rw [Int.natAbs_neg]; exact hb)
theorem castL {n k : Nat} (h : n.log2 < k) : (n : Int).natAbs.log2 < k := h
theorem den0 (q : Rat) : (q.den : Int) ≠ 0 := by
  have := q.den_pos
  omega
theorem add_of (q s : Rat) : Rat.divInt (q.num * s.den + s.num * q.den) ((q.den : Int) * s.den) = q + s := by
  rw [← Rat.divInt_add_divInt _ _ (den0 q) (den0 s), Rat.num_divInt_den, Rat.num_divInt_den]
theorem sub_of (q s : Rat) : Rat.divInt (q.num * s.den - s.num * q.den) ((q.den : Int) * s.den) = q - s := by
  rw [← Rat.divInt_sub_divInt _ _ (den0 q) (den0 s), Rat.num_divInt_den, Rat.num_divInt_den]
theorem mul_of (q s : Rat) : Rat.divInt (q.num * s.num) ((q.den : Int) * s.den) = q * s := by
  rw [← Rat.divInt_mul_divInt, Rat.num_divInt_den, Rat.num_divInt_den]
theorem neg_of (q : Rat) : Rat.divInt (-q.num) (q.den : Int) = -q := by
  rw [← Rat.neg_divInt, Rat.num_divInt_den]
theorem eq_of (q s : Rat) : (decide (q.num = s.num) && decide ((q.den : Int) = s.den)) = decide (q = s) := by
  by_cases h : q = s
  · subst h; simp
  · rw [decide_eq_false h]
    by_cases h1 : q.num = s.num
    · have h2 : (q.den : Int) ≠ s.den := fun z => h (Rat.ext h1 (by omega))
      rw [decide_eq_false h2, Bool.and_false]
    · rw [decide_eq_false h1, Bool.false_and]
end FM
namespace FM
/-! the order of fractions -/
theorem cnt3 (x y : Rat) : ([decide (x < y), decide (y < x), decide (x = y)].count true : Nat) = 1 := by
  by_cases h : x < y
  · have h1 : ¬ y < x := by grind
    have h2 : x ≠ y := by grind
    simp [h, h1, h2]
  · by_cases h1 : y < x
    · have h2 : x ≠ y := by grind
      simp [h, h1, h2]
    · have h2 : x = y := by grind
      simp [h2, Rat.lt_irrefl]
theorem inv1 {x y : Rat} (hx : 0 < x) (hy : 0 < y) (h : x < y) : y⁻¹ < x⁻¹ := by
  have hx' : x ≠ 0 := by grind
  have hy' : y ≠ 0 := by grind
  have c := Rat.mul_pos (Rat.inv_pos.mpr hx) (Rat.inv_pos.mpr hy)
  have e := Rat.mul_pos c (show 0 < y - x by grind)
  have e1 := Rat.mul_inv_cancel x hx'
  have e2 := Rat.mul_inv_cancel y hy'
  have k : x⁻¹ * y⁻¹ * (y - x) = x⁻¹ - y⁻¹ := by
    have : x⁻¹ * y⁻¹ * (y - x) = x⁻¹ * (y * y⁻¹) - y⁻¹ * (x * x⁻¹) := by grind
    rw [this, e1, e2, Rat.mul_one, Rat.mul_one]
  rw [k] at e
  grind
theorem inv_less {x y : Rat} (hx : 0 < x) (hy : 0 < y) : decide (y⁻¹ < x⁻¹) = decide (x < y) := by
  by_cases h : x < y
  · rw [decide_eq_true h, decide_eq_true (inv1 hx hy h)]
  · rw [decide_eq_false h, decide_eq_false]
    intro k
    have := inv1 (Rat.inv_pos.mpr hy) (Rat.inv_pos.mpr hx) k
    rw [Rat.inv_inv, Rat.inv_inv] at this
    exact h this
theorem sq_ge (x : Rat) : ¬ x * x < 0 := by
  intro h
  by_cases p : 0 < x
  · have := Rat.mul_pos p p
    grind
  · by_cases n : 0 < -x
    · have := Rat.mul_pos n n
      grind
    · have : x = 0 := by grind
      subst this
      simp at h
theorem add_less (x y z : Rat) : decide (x + z < y + z) = decide (x < y) := by
  by_cases h : x < y
  · rw [decide_eq_true h, decide_eq_true (by grind)]
  · rw [decide_eq_false h, decide_eq_false (by grind)]
theorem neg_less (x y : Rat) : decide (-y < -x) = decide (x < y) := by
  by_cases h : x < y
  · rw [decide_eq_true h, decide_eq_true (by grind)]
  · rw [decide_eq_false h, decide_eq_false (by grind)]
theorem ch1 {b o : Int} (h : o ≠ 0) : Rat.divInt (b + o) o - Rat.divInt 1 1 = Rat.divInt b o := by
  rw [Rat.divInt_sub_divInt _ _ h (by decide), Rat.divInt_eq_divInt_iff (by simpa using h) h]
  grind
theorem ch2 {t o : Int} (h : o ≠ 0) (h' : t ≠ 0) : Rat.divInt t o * Rat.divInt o t = Rat.divInt 1 1 := by
  rw [Rat.divInt_mul_divInt, Rat.divInt_eq_divInt_iff (Int.mul_ne_zero h h') (by decide)]
  grind
theorem pos_of {b o : Int} (hb : 0 < b) (h : 0 < o) : (0 : Rat) < Rat.divInt b o := by
  have h1 := Rat.divInt_nonneg (Int.le_of_lt hb) (Int.le_of_lt h)
  have h2 : Rat.divInt b o ≠ 0 := by
    intro z
    have := (Rat.divInt_eq_divInt_iff (n₁ := b) (n₂ := 0) (by omega : o ≠ 0) (by decide : (1 : Int) ≠ 0)).mp (by rw [z]; simp)
    omega
  grind
theorem ch4 {b o : Int} (hb : 0 < b) (h : 0 < o) : Rat.divInt 1 1 < Rat.divInt (b + o) o := by
  have h1 := ch1 (b := b) (o := o) (by omega)
  have h2 := pos_of hb h
  rw [← h1] at h2
  grind
/-- 1/(1*2) + .. -/
theorem chain_step (n : Nat) : Rat.divInt (n : Int) (n + 1) + Rat.divInt 1 ((n + 1 : Int) * (n + 1 + 1)) = Rat.divInt (n + 1 : Int) (n + 1 + 1) := by
  have h1 : ((n : Int) + 1) ≠ 0 := by omega
  have h2 : ((n : Int) + 1 + 1) ≠ 0 := by omega
  have h3 := Int.mul_ne_zero h1 h2
  rw [Rat.divInt_add_divInt _ _ h1 h3, Rat.divInt_eq_divInt_iff (Int.mul_ne_zero h1 h3) h2]
  grind
end FM
/-! texts of whole numbers and of fractions -/
namespace FP
open PySem PySem.Spec PyProof.Rows L2
theorem tl_nat (n : Nat) : TL.tl (Str.ofString (toString (n : Int))) = TL.numL n := TL.tl_num n
theorem tl_int (i : Int) : TL.tl (Str.ofString (toString i)) = (if i < 0 then [45] else []) ++ TL.numL i.natAbs := by
  by_cases h : i < 0
  · rw [if_pos h, PyProof.Rows.toString_neg h, TL.tl_ofString, String.toList_append, List.map_append, ← TL.tl_ofString, ← TL.tl_ofString]
    have e : (0 - i) = ((i.natAbs : Nat) : Int) := by omega
    rw [e, tl_nat]
    rfl
  · rw [if_neg h]
    have e : i = ((i.natAbs : Nat) : Int) := by omega
    rw [e, tl_nat]
    rfl
theorem slash : TL.tl (Str.ofString "/") = [47] := by decide +kernel
theorem split_two {a b : Str} (ha : 47 ∉ TL.tl a) (hb : 47 ∉ TL.tl b) : Txt.split (a ++ Str.ofString "/" ++ b) (Str.ofString "/") = [a, b] := by
  have e := TL.split_join (y := Str.ofString "/") slash (by decide +kernel) (parts := [a, b]) (by simp) (fun p hp => by
    simp only [List.mem_cons, List.not_mem_nil, or_false] at hp
    rcases hp with rfl | rfl <;> assumption)
  rw [TL.join_eq] at e
  exact e
theorem split_one {a : Str} (ha : 47 ∉ TL.tl a) : Txt.split a (Str.ofString "/") = [a] := by
  have e := TL.split_join (y := Str.ofString "/") slash (by decide +kernel) (parts := [a]) (by simp) (fun p hp => by
    simp only [List.mem_cons, List.not_mem_nil, or_false] at hp
    rcases hp with rfl
    assumption)
  rw [TL.join_eq] at e
  exact e
theorem spl_ne (S : List Nat) : ∀ (k : Nat) (acc l : List Nat), TL.spl S k acc l ≠ []
  | _, acc, [] => by simp [TL.spl]
  | 0, acc, c :: r => by
    unfold TL.spl
    split
    · simp
    · exact spl_ne S 0 _ r
  | k + 1, acc, _ :: r => by
    unfold TL.spl
    exact spl_ne S k acc r
/-! ### numbers as texts -/
def isDig (c : Nat) : Bool := decide (48 ≤ c) && decide (c ≤ 57)
def isNumL (a : List Nat) : Bool := decide (a ≠ []) && (a.all isDig && (decide (a = [48]) || !decide (a.head? = some 48)))
theorem digits_are (c : Nat) : decide (c ∈ (Str.ofString "0123456789").cps.toList) = isDig c := by
  have e : (Str.ofString "0123456789").cps.toList = [48, 49, 50, 51, 52, 53, 54, 55, 56, 57] := by decide +kernel
  rw [e]
  unfold isDig
  rw [Bool.eq_iff_iff, decide_eq_true_eq, Bool.and_eq_true, decide_eq_true_eq, decide_eq_true_eq]
  simp only [List.mem_cons, List.not_mem_nil, or_false]
  omega
theorem numL_dig (n : Nat) : (TL.numL n).all isDig = true := by
  rw [List.all_eq_true]
  intro c hc
  have := TL.numL_digits n c hc
  unfold isDig
  rw [Bool.and_eq_true, decide_eq_true_eq, decide_eq_true_eq]
  exact this
theorem numL_head (n : Nat) (h : n ≠ 0) : (TL.numL n).head? ≠ some 48 := by
  induction n using Nat.strongRecOn with
  | _ n ih =>
    by_cases hn : n < 10
    · rw [TL.numL_lt hn]
      simp
      omega
    · rw [TL.numL_step (by omega)]
      have := ih (n / 10) (by omega) (by omega)
      cases e : TL.numL (n / 10) with
      | nil => exact absurd e (TL.numL_ne _)
      | cons c r =>
        rw [e] at this
        exact this
theorem isNumL_num (n : Nat) : isNumL (TL.numL n) = true := by
  unfold isNumL
  rw [numL_dig, decide_eq_true (TL.numL_ne n)]
  by_cases h : n = 0
  · subst h
    decide +kernel
  · rw [decide_eq_false (numL_head n h)]
    simp
theorem numL_no (n s : Nat) (h : s < 48 ∨ 57 < s) : s ∉ TL.numL n := TL.numL_free h
/-- what int() reads of such a text -/
theorem int_of {z : Str} (h : isNumL (TL.tl z) = true) (hl : z.length ≤ 4300) : PySem.intText? z = some ((NumText.digitsVal (TL.tl z) : Nat) : Int) := by
  unfold isNumL at h
  obtain ⟨h1, h2⟩ := and_ok h
  obtain ⟨h2, _⟩ := and_ok h2
  refine PySem.intText_digits (fun c hc => ?_) (of_decide_eq_true h1) hl
  have := List.all_eq_true.mp h2 c hc
  unfold isDig at this
  rw [Bool.and_eq_true, decide_eq_true_eq, decide_eq_true_eq] at this
  exact this
/-! ### cut texts -/
theorem cut_to1 (z : Str) : TL.tl (cutS z none (some 1)) = (TL.tl z).take 1 := by
  have hl : z.length = (TL.tl z).length := TL.len_tl z
  unfold cutS
  show ((TL.tl z).drop _).take _ = _
  cases e : TL.tl z with
  | nil => simp
  | cons c r =>
    rw [e] at hl
    have h1 : HT.sIx z.length 0 (Option.none : Option Int) = 0 := rfl
    rw [h1]
    have h2 : HT.sIx z.length z.length (some (1 : Int)) = 1 := by
      rw [hl]
      unfold HT.sIx
      simp
      first | omega | (split <;> omega) | skip
    rw [h2]
    rfl
theorem cut_from1 (z : Str) : TL.tl (cutS z (some 1) none) = (TL.tl z).drop 1 := by
  have hl : z.length = (TL.tl z).length := TL.len_tl z
  unfold cutS
  show ((TL.tl z).drop _).take _ = _
  cases e : TL.tl z with
  | nil => simp
  | cons c r =>
    rw [e] at hl
    have h1 : HT.sIx z.length 0 (some (1 : Int)) = 1 := by
      rw [hl]
      unfold HT.sIx
      simp
      first | omega | (split <;> omega) | skip
    have h2 : HT.sIx z.length z.length (Option.none : Option Int) = z.length := rfl
    rw [h1, h2, hl]
    simp
end FP
namespace FP
open PySem PySem.Spec PyProof.Rows L2
def top (i : Nat) : Stmt := PySem.Challenge.pw_foldparts_k04_texts_of_ratios.main.body.getD i (.Pass ⟨0, 0, 0, 0⟩)
abbrev s_InvalidText___init : Stmt := inClass (top 3) 0
theorem sc_InvalidText___init : FnScope ["self", "row"] ["self", "row"] (defScope s_InvalidText___init) := ⟨rfl, rfl, rfl, by decide +kernel, rfl, by decide +kernel, by decide +kernel⟩
abbrev s_common_divisor : Stmt := top 7
theorem sc_common_divisor : FnScope ["first", "second"] ["first", "second"] (defScope s_common_divisor) := ⟨rfl, rfl, rfl, by decide +kernel, rfl, by decide +kernel, by decide +kernel⟩
abbrev s_is_number : Stmt := top 8
theorem sc_is_number : FnScope ["word", "digit"] ["word"] (defScope s_is_number) := ⟨rfl, rfl, rfl, by decide +kernel, rfl, by decide +kernel, by decide +kernel⟩
abbrev s_is_positive_text : Stmt := top 9
theorem sc_is_positive_text : FnScope ["text", "words", "word"] ["text"] (defScope s_is_positive_text) := ⟨rfl, rfl, rfl, by decide +kernel, rfl, by decide +kernel, by decide +kernel⟩
abbrev s_Ratio___init : Stmt := inClass (top 10) 0
theorem sc_Ratio___init : FnScope ["self", "top", "bottom", "divisor"] ["self", "top", "bottom"] (defScope s_Ratio___init) := ⟨rfl, rfl, rfl, by decide +kernel, rfl, by decide +kernel, by decide +kernel⟩
abbrev s_Ratio_parse : Stmt := inClass (top 10) 1
theorem sc_Ratio_parse : FnScope ["cls", "text", "digits", "words", "sign"] ["cls", "text"] (defScope s_Ratio_parse) := ⟨rfl, rfl, rfl, by decide +kernel, rfl, by decide +kernel, by decide +kernel⟩
abbrev s_Ratio___str : Stmt := inClass (top 10) 2
theorem sc_Ratio___str : FnScope ["self"] ["self"] (defScope s_Ratio___str) := ⟨rfl, rfl, rfl, by decide +kernel, rfl, by decide +kernel, by decide +kernel⟩
abbrev s_law_feed : Stmt := top 12
theorem sc_law_feed : FnScope ["script", "k", "cell", "digits", "state"] ["script", "k"] (defScope s_law_feed) := ⟨rfl, rfl, rfl, by decide +kernel, rfl, by decide +kernel, by decide +kernel⟩
abbrev s_law_take : Stmt := top 13
theorem sc_law_take : FnScope ["feed", "many", "digit"] ["feed", "many"] (defScope s_law_take) := ⟨rfl, rfl, rfl, by decide +kernel, rfl, by decide +kernel, by decide +kernel⟩
abbrev s_law_pick : Stmt := top 14
theorem sc_law_pick : FnScope ["feed", "some"] ["feed", "some"] (defScope s_law_pick) := ⟨rfl, rfl, rfl, by decide +kernel, rfl, by decide +kernel, by decide +kernel⟩
abbrev s_law_integer : Stmt := top 15
theorem sc_law_integer : FnScope ["feed", "value"] ["feed"] (defScope s_law_integer) := ⟨rfl, rfl, rfl, by decide +kernel, rfl, by decide +kernel, by decide +kernel⟩
abbrev s_law_pair : Stmt := top 16
theorem sc_law_pair : FnScope ["feed", "top", "bottom"] ["feed"] (defScope s_law_pair) := ⟨rfl, rfl, rfl, by decide +kernel, rfl, by decide +kernel, by decide +kernel⟩
abbrev s_law_lowest : Stmt := top 17
theorem sc_law_lowest : FnScope ["top", "bottom", "one", "other"] ["top", "bottom"] (defScope s_law_lowest) := ⟨rfl, rfl, rfl, by decide +kernel, rfl, by decide +kernel, by decide +kernel⟩
abbrev s_law_text : Stmt := top 18
theorem sc_law_text : FnScope ["top", "bottom"] ["top", "bottom"] (defScope s_law_text) := ⟨rfl, rfl, rfl, by decide +kernel, rfl, by decide +kernel, by decide +kernel⟩
abbrev s_law_is_number : Stmt := top 20
theorem sc_law_is_number : FnScope ["word", "sign"] ["word"] (defScope s_law_is_number) := ⟨rfl, rfl, rfl, by decide +kernel, rfl, by decide +kernel, by decide +kernel⟩
abbrev s_law_is_text : Stmt := top 21
theorem sc_law_is_text : FnScope ["text", "digits", "words", "word", "top", "bottom"] ["text"] (defScope s_law_is_text) := ⟨rfl, rfl, rfl, by decide +kernel, rfl, by decide +kernel, by decide +kernel⟩
abbrev s_law_told : Stmt := top 22
theorem sc_law_told : FnScope ["text", "caught", "found", "error"] ["text"] (defScope s_law_told) := ⟨rfl, rfl, rfl, by decide +kernel, rfl, by decide +kernel, by decide +kernel⟩
abbrev s_law_changed : Stmt := top 23
theorem sc_law_changed : FnScope ["feed", "text", "at", "sign", "left", "right", "some"] ["feed", "text"] (defScope s_law_changed) := ⟨rfl, rfl, rfl, by decide +kernel, rfl, by decide +kernel, by decide +kernel⟩
abbrev s_law : Stmt := top 24
theorem sc_law : FnScope ["script", "k", "feed", "texts", "turn", "top", "bottom", "text", "again", "due"] ["script"] (defScope s_law) := ⟨rfl, rfl, rfl, by decide +kernel, rfl, by decide +kernel, by decide +kernel⟩
/-- where things stand -/
structure Ad where
  Ratio : Addr
  ZeroDenominator : Addr
  PartError : Addr
  InvalidText : Addr
  f_InvalidText___init : Addr
  f_common_divisor : Addr
  f_is_number : Addr
  f_is_positive_text : Addr
  f_Ratio___init : Addr
  p_Ratio_parse : Addr
  f_Ratio_parse : Addr
  f_Ratio___str : Addr
  f_law_feed : Addr
  f_law_take : Addr
  f_law_pick : Addr
  f_law_integer : Addr
  f_law_pair : Addr
  f_law_lowest : Addr
  f_law_text : Addr
  f_law_is_number : Addr
  f_law_is_text : Addr
  f_law_told : Addr
  f_law_changed : Addr
  f_law : Addr
/-- what the head tells of them -/
structure Txt (K : PySem.W.Frag) (mg : Str → Option Value) (a : Ad) : Prop where
  g_Ratio : mg "Ratio" = some (.ref a.Ratio)
  g_ZeroDenominator : mg "ZeroDenominator" = some (.ref a.ZeroDenominator)
  g_PartError : mg "PartError" = some (.ref a.PartError)
  g_InvalidText : mg "InvalidText" = some (.ref a.InvalidText)
  k_DIGITS : ∃ t, mg "DIGITS" = some (.str "0123456789" t)
  c_Ratio : ClsF K a.Ratio
  n_Ratio_top : NoAttr K a.Ratio "top"
  n_Ratio_bottom : NoAttr K a.Ratio "bottom"
  x_ZeroDenominator : ExcF K a.ZeroDenominator
  nd : ND K
  ox_InvalidText : OexC K a.InvalidText
  xs_InvalidText : ExcS K a.InvalidText
  tf_InvalidText___init : PySem.W.typeIn K (.ref a.f_InvalidText___init) = some (.type "function")
  n_InvalidText_row : NoAttr K a.InvalidText "row"
  xm_ZeroDenominator_PartError : PySem.W.exmOne K (.ref a.ZeroDenominator) (.ref a.PartError) = some true
  xm_InvalidText_PartError : PySem.W.exmOne K (.ref a.InvalidText) (.ref a.PartError) = some true
  kt_Ratio_Ratio : PySem.W.kitOne K (.ref a.Ratio) (.ref a.Ratio) = some true
  kt_InvalidText_InvalidText : PySem.W.kitOne K (.ref a.InvalidText) (.ref a.InvalidText) = some true
  kt_InvalidText_ValueError : PySem.W.kitOne K (.ref a.InvalidText) (.type "ValueError") = some true
  b_ValueError : mg "ValueError" = none
  b_abs : mg "abs" = none
  b_all : mg "all" = none
  b_int : mg "int" = none
  b_isinstance : mg "isinstance" = none
  b_len : mg "len" = none
  b_max : mg "max" = none
  b_min : mg "min" = none
  b_range : mg "range" = none
  b_repr : mg "repr" = none
  b_str : mg "str" = none
  cr_Ratio : ClX.CRead K a.Ratio (.type "type")
  m_InvalidText___init : Meth K a.InvalidText "__init__" a.f_InvalidText___init
  d_InvalidText___init : ∃ fd, Fun K "__init__" "InvalidText.__init__" s_InvalidText___init a.f_InvalidText___init fd
  g_common_divisor : mg "common_divisor" = some (.ref a.f_common_divisor)
  d_common_divisor : ∃ fd, Fun K "common_divisor" "common_divisor" s_common_divisor a.f_common_divisor fd
  g_is_number : mg "is_number" = some (.ref a.f_is_number)
  d_is_number : ∃ fd, Fun K "is_number" "is_number" s_is_number a.f_is_number fd
  g_is_positive_text : mg "is_positive_text" = some (.ref a.f_is_positive_text)
  d_is_positive_text : ∃ fd, Fun K "is_positive_text" "is_positive_text" s_is_positive_text a.f_is_positive_text fd
  m_Ratio___init : Meth K a.Ratio "__init__" a.f_Ratio___init
  d_Ratio___init : ∃ fd, Fun K "__init__" "Ratio.__init__" s_Ratio___init a.f_Ratio___init fd
  cm_Ratio_parse : ClX.CMet K a.Ratio (.type "type") "parse" a.p_Ratio_parse a.f_Ratio_parse
  d_Ratio_parse : ∃ fd, Fun K "parse" "Ratio.parse" s_Ratio_parse a.f_Ratio_parse fd
  m_Ratio___str : Meth K a.Ratio "__str__" a.f_Ratio___str
  d_Ratio___str : ∃ fd, Fun K "__str__" "Ratio.__str__" s_Ratio___str a.f_Ratio___str fd
  g_law_feed : mg "_law_feed" = some (.ref a.f_law_feed)
  d_law_feed : ∃ fd, Fun K "_law_feed" "_law_feed" s_law_feed a.f_law_feed fd
  g_law_take : mg "_law_take" = some (.ref a.f_law_take)
  d_law_take : ∃ fd, Fun K "_law_take" "_law_take" s_law_take a.f_law_take fd
  g_law_pick : mg "_law_pick" = some (.ref a.f_law_pick)
  d_law_pick : ∃ fd, Fun K "_law_pick" "_law_pick" s_law_pick a.f_law_pick fd
  g_law_integer : mg "_law_integer" = some (.ref a.f_law_integer)
  d_law_integer : ∃ fd, Fun K "_law_integer" "_law_integer" s_law_integer a.f_law_integer fd
  g_law_pair : mg "_law_pair" = some (.ref a.f_law_pair)
  d_law_pair : ∃ fd, Fun K "_law_pair" "_law_pair" s_law_pair a.f_law_pair fd
  g_law_lowest : mg "_law_lowest" = some (.ref a.f_law_lowest)
  d_law_lowest : ∃ fd, Fun K "_law_lowest" "_law_lowest" s_law_lowest a.f_law_lowest fd
  g_law_text : mg "_law_text" = some (.ref a.f_law_text)
  d_law_text : ∃ fd, Fun K "_law_text" "_law_text" s_law_text a.f_law_text fd
  g_law_is_number : mg "_law_is_number" = some (.ref a.f_law_is_number)
  d_law_is_number : ∃ fd, Fun K "_law_is_number" "_law_is_number" s_law_is_number a.f_law_is_number fd
  g_law_is_text : mg "_law_is_text" = some (.ref a.f_law_is_text)
  d_law_is_text : ∃ fd, Fun K "_law_is_text" "_law_is_text" s_law_is_text a.f_law_is_text fd
  g_law_told : mg "_law_told" = some (.ref a.f_law_told)
  d_law_told : ∃ fd, Fun K "_law_told" "_law_told" s_law_told a.f_law_told fd
  g_law_changed : mg "_law_changed" = some (.ref a.f_law_changed)
  d_law_changed : ∃ fd, Fun K "_law_changed" "_law_changed" s_law_changed a.f_law_changed fd
  g_law : mg "law" = some (.ref a.f_law)
  d_law : ∃ fd, Fun K "law" "law" s_law a.f_law fd
def adOf (K : PySem.W.Frag) : Ad := ⟨He.ga K "Ratio", He.ga K "ZeroDenominator", He.ga K "PartError", He.ga K "InvalidText", He.ma K (He.ga K "InvalidText") "__init__", He.ga K "common_divisor", He.ga K "is_number", He.ga K "is_positive_text", He.ma K (He.ga K "Ratio") "__init__", He.ma K (He.ga K "Ratio") "parse", reG K "classmethod" (He.ma K (He.ga K "Ratio") "parse"), He.ma K (He.ga K "Ratio") "__str__", He.ga K "_law_feed", He.ga K "_law_take", He.ga K "_law_pick", He.ga K "_law_integer", He.ga K "_law_pair", He.ga K "_law_lowest", He.ga K "_law_text", He.ga K "_law_is_number", He.ga K "_law_is_text", He.ga K "_law_told", He.ga K "_law_changed", He.ga K "law"⟩
def fns : List DX := [⟨fun K => He.ma K (He.ga K "InvalidText") "__init__", "__init__", "InvalidText.__init__", s_InvalidText___init⟩,
  ⟨fun K => He.ga K "common_divisor", "common_divisor", "common_divisor", s_common_divisor⟩,
  ⟨fun K => He.ga K "is_number", "is_number", "is_number", s_is_number⟩,
  ⟨fun K => He.ga K "is_positive_text", "is_positive_text", "is_positive_text", s_is_positive_text⟩,
  ⟨fun K => He.ma K (He.ga K "Ratio") "__init__", "__init__", "Ratio.__init__", s_Ratio___init⟩,
  ⟨fun K => reG K "classmethod" (He.ma K (He.ga K "Ratio") "parse"), "parse", "Ratio.parse", s_Ratio_parse⟩,
  ⟨fun K => He.ma K (He.ga K "Ratio") "__str__", "__str__", "Ratio.__str__", s_Ratio___str⟩,
  ⟨fun K => He.ga K "_law_feed", "_law_feed", "_law_feed", s_law_feed⟩,
  ⟨fun K => He.ga K "_law_take", "_law_take", "_law_take", s_law_take⟩,
  ⟨fun K => He.ga K "_law_pick", "_law_pick", "_law_pick", s_law_pick⟩,
  ⟨fun K => He.ga K "_law_integer", "_law_integer", "_law_integer", s_law_integer⟩,
  ⟨fun K => He.ga K "_law_pair", "_law_pair", "_law_pair", s_law_pair⟩,
  ⟨fun K => He.ga K "_law_lowest", "_law_lowest", "_law_lowest", s_law_lowest⟩,
  ⟨fun K => He.ga K "_law_text", "_law_text", "_law_text", s_law_text⟩,
  ⟨fun K => He.ga K "_law_is_number", "_law_is_number", "_law_is_number", s_law_is_number⟩,
  ⟨fun K => He.ga K "_law_is_text", "_law_is_text", "_law_is_text", s_law_is_text⟩,
  ⟨fun K => He.ga K "_law_told", "_law_told", "_law_told", s_law_told⟩,
  ⟨fun K => He.ga K "_law_changed", "_law_changed", "_law_changed", s_law_changed⟩,
  ⟨fun K => He.ga K "law", "law", "law", s_law⟩]
def more (K : PySem.W.Frag) : Bool := gloB K "Ratio" && (gloB K "ZeroDenominator" && (gloB K "PartError" && (gloB K "InvalidText" && ((He.Fa.str "DIGITS" "0123456789").ok K && (clsB K (He.ga K "Ratio") && (noB K (He.ga K "Ratio") "top" && (noB K (He.ga K "Ratio") "bottom" && (excB K (He.ga K "ZeroDenominator") && (ndB K && (oexB K (He.ga K "InvalidText") && (excsB K (He.ga K "InvalidText") && (tyfB K (He.ma K (He.ga K "InvalidText") "__init__") && (noB K (He.ga K "InvalidText") "row" && (decide (PySem.W.exmOne K (.ref (He.ga K "ZeroDenominator")) (.ref (He.ga K "PartError")) = some true) && (decide (PySem.W.exmOne K (.ref (He.ga K "InvalidText")) (.ref (He.ga K "PartError")) = some true) && (decide (PySem.W.kitOne K (.ref (He.ga K "Ratio")) (.ref (He.ga K "Ratio")) = some true) && (decide (PySem.W.kitOne K (.ref (He.ga K "InvalidText")) (.ref (He.ga K "InvalidText")) = some true) && (decide (PySem.W.kitOne K (.ref (He.ga K "InvalidText")) (.type "ValueError") = some true) && (freeB K "ValueError" && (freeB K "abs" && (freeB K "all" && (freeB K "int" && (freeB K "isinstance" && (freeB K "len" && (freeB K "max" && (freeB K "min" && (freeB K "range" && (freeB K "repr" && (freeB K "str" && (crdB K (He.ga K "Ratio") && (methB K (He.ga K "InvalidText") "__init__" && (gloB K "common_divisor" && (gloB K "is_number" && (gloB K "is_positive_text" && (methB K (He.ga K "Ratio") "__init__" && (cmtB K (He.ga K "Ratio") "parse" (He.ma K (He.ga K "Ratio") "parse") && (methB K (He.ga K "Ratio") "__str__" && (gloB K "_law_feed" && (gloB K "_law_take" && (gloB K "_law_pick" && (gloB K "_law_integer" && (gloB K "_law_pair" && (gloB K "_law_lowest" && (gloB K "_law_text" && (gloB K "_law_is_number" && (gloB K "_law_is_text" && (gloB K "_law_told" && (gloB K "_law_changed" && (gloB K "law")))))))))))))))))))))))))))))))))))))))))))))))))
theorem txt_of {K : PySem.W.Frag} {h : Heap} {mg : Str → Option Value} (X : K.In h) (G : h.Ns mainGlobals mg) (c : obsX fns more K = valX fns) : Txt K mg (adOf K) := by
  have h := told_exX c
  obtain ⟨h0, h⟩ := and_ok h
  obtain ⟨h1, h⟩ := and_ok h
  obtain ⟨h2, h⟩ := and_ok h
  obtain ⟨h3, h⟩ := and_ok h
  obtain ⟨h4, h⟩ := and_ok h
  obtain ⟨h5, h⟩ := and_ok h
  obtain ⟨h6, h⟩ := and_ok h
  obtain ⟨h7, h⟩ := and_ok h
  obtain ⟨h8, h⟩ := and_ok h
  obtain ⟨h9, h⟩ := and_ok h
  obtain ⟨h10, h⟩ := and_ok h
  obtain ⟨h11, h⟩ := and_ok h
  obtain ⟨h12, h⟩ := and_ok h
  obtain ⟨h13, h⟩ := and_ok h
  obtain ⟨h14, h⟩ := and_ok h
  obtain ⟨h15, h⟩ := and_ok h
  obtain ⟨h16, h⟩ := and_ok h
  obtain ⟨h17, h⟩ := and_ok h
  obtain ⟨h18, h⟩ := and_ok h
  obtain ⟨h19, h⟩ := and_ok h
  obtain ⟨h20, h⟩ := and_ok h
  obtain ⟨h21, h⟩ := and_ok h
  obtain ⟨h22, h⟩ := and_ok h
  obtain ⟨h23, h⟩ := and_ok h
  obtain ⟨h24, h⟩ := and_ok h
  obtain ⟨h25, h⟩ := and_ok h
  obtain ⟨h26, h⟩ := and_ok h
  obtain ⟨h27, h⟩ := and_ok h
  obtain ⟨h28, h⟩ := and_ok h
  obtain ⟨h29, h⟩ := and_ok h
  obtain ⟨h30, h⟩ := and_ok h
  obtain ⟨h31, h⟩ := and_ok h
  obtain ⟨h32, h⟩ := and_ok h
  obtain ⟨h33, h⟩ := and_ok h
  obtain ⟨h34, h⟩ := and_ok h
  obtain ⟨h35, h⟩ := and_ok h
  obtain ⟨h36, h⟩ := and_ok h
  obtain ⟨h37, h⟩ := and_ok h
  obtain ⟨h38, h⟩ := and_ok h
  obtain ⟨h39, h⟩ := and_ok h
  obtain ⟨h40, h⟩ := and_ok h
  obtain ⟨h41, h⟩ := and_ok h
  obtain ⟨h42, h⟩ := and_ok h
  obtain ⟨h43, h⟩ := and_ok h
  obtain ⟨h44, h⟩ := and_ok h
  obtain ⟨h45, h⟩ := and_ok h
  obtain ⟨h46, h⟩ := and_ok h
  obtain ⟨h47, h⟩ := and_ok h
  obtain ⟨h48, h⟩ := and_ok h
  have h49 := h
  exact {
    g_Ratio := gloB_ok X G (h0)
    g_ZeroDenominator := gloB_ok X G (h1)
    g_PartError := gloB_ok X G (h2)
    g_InvalidText := gloB_ok X G (h3)
    k_DIGITS := He.str_ok X G (h4)
    c_Ratio := clsB_ok (h5)
    n_Ratio_top := noB_ok (h6)
    n_Ratio_bottom := noB_ok (h7)
    x_ZeroDenominator := excB_ok (h8)
    nd := ndB_ok (h9)
    ox_InvalidText := oexB_ok (h10)
    xs_InvalidText := excsB_ok (h11)
    tf_InvalidText___init := fun_ty (h12)
    n_InvalidText_row := noB_ok (h13)
    xm_ZeroDenominator_PartError := of_decide_eq_true (h14)
    xm_InvalidText_PartError := of_decide_eq_true (h15)
    kt_Ratio_Ratio := of_decide_eq_true (h16)
    kt_InvalidText_InvalidText := of_decide_eq_true (h17)
    kt_InvalidText_ValueError := of_decide_eq_true (h18)
    b_ValueError := freeB_ok X G (h19)
    b_abs := freeB_ok X G (h20)
    b_all := freeB_ok X G (h21)
    b_int := freeB_ok X G (h22)
    b_isinstance := freeB_ok X G (h23)
    b_len := freeB_ok X G (h24)
    b_max := freeB_ok X G (h25)
    b_min := freeB_ok X G (h26)
    b_range := freeB_ok X G (h27)
    b_repr := freeB_ok X G (h28)
    b_str := freeB_ok X G (h29)
    cr_Ratio := crdB_ok (h30)
    m_InvalidText___init := methB_ok (h31)
    d_InvalidText___init := told_fnX c 0 (d := ⟨fun K => He.ma K (He.ga K "InvalidText") "__init__", "__init__", "InvalidText.__init__", s_InvalidText___init⟩) rfl
    g_common_divisor := gloB_ok X G (h32)
    d_common_divisor := told_fnX c 1 (d := ⟨fun K => He.ga K "common_divisor", "common_divisor", "common_divisor", s_common_divisor⟩) rfl
    g_is_number := gloB_ok X G (h33)
    d_is_number := told_fnX c 2 (d := ⟨fun K => He.ga K "is_number", "is_number", "is_number", s_is_number⟩) rfl
    g_is_positive_text := gloB_ok X G (h34)
    d_is_positive_text := told_fnX c 3 (d := ⟨fun K => He.ga K "is_positive_text", "is_positive_text", "is_positive_text", s_is_positive_text⟩) rfl
    m_Ratio___init := methB_ok (h35)
    d_Ratio___init := told_fnX c 4 (d := ⟨fun K => He.ma K (He.ga K "Ratio") "__init__", "__init__", "Ratio.__init__", s_Ratio___init⟩) rfl
    cm_Ratio_parse := cmtB_ok (h36)
    d_Ratio_parse := told_fnX c 5 (d := ⟨fun K => reG K "classmethod" (He.ma K (He.ga K "Ratio") "parse"), "parse", "Ratio.parse", s_Ratio_parse⟩) rfl
    m_Ratio___str := methB_ok (h37)
    d_Ratio___str := told_fnX c 6 (d := ⟨fun K => He.ma K (He.ga K "Ratio") "__str__", "__str__", "Ratio.__str__", s_Ratio___str⟩) rfl
    g_law_feed := gloB_ok X G (h38)
    d_law_feed := told_fnX c 7 (d := ⟨fun K => He.ga K "_law_feed", "_law_feed", "_law_feed", s_law_feed⟩) rfl
    g_law_take := gloB_ok X G (h39)
    d_law_take := told_fnX c 8 (d := ⟨fun K => He.ga K "_law_take", "_law_take", "_law_take", s_law_take⟩) rfl
    g_law_pick := gloB_ok X G (h40)
    d_law_pick := told_fnX c 9 (d := ⟨fun K => He.ga K "_law_pick", "_law_pick", "_law_pick", s_law_pick⟩) rfl
    g_law_integer := gloB_ok X G (h41)
    d_law_integer := told_fnX c 10 (d := ⟨fun K => He.ga K "_law_integer", "_law_integer", "_law_integer", s_law_integer⟩) rfl
    g_law_pair := gloB_ok X G (h42)
    d_law_pair := told_fnX c 11 (d := ⟨fun K => He.ga K "_law_pair", "_law_pair", "_law_pair", s_law_pair⟩) rfl
    g_law_lowest := gloB_ok X G (h43)
    d_law_lowest := told_fnX c 12 (d := ⟨fun K => He.ga K "_law_lowest", "_law_lowest", "_law_lowest", s_law_lowest⟩) rfl
    g_law_text := gloB_ok X G (h44)
    d_law_text := told_fnX c 13 (d := ⟨fun K => He.ga K "_law_text", "_law_text", "_law_text", s_law_text⟩) rfl
    g_law_is_number := gloB_ok X G (h45)
    d_law_is_number := told_fnX c 14 (d := ⟨fun K => He.ga K "_law_is_number", "_law_is_number", "_law_is_number", s_law_is_number⟩) rfl
    g_law_is_text := gloB_ok X G (h46)
    d_law_is_text := told_fnX c 15 (d := ⟨fun K => He.ga K "_law_is_text", "_law_is_text", "_law_is_text", s_law_is_text⟩) rfl
    g_law_told := gloB_ok X G (h47)
    d_law_told := told_fnX c 16 (d := ⟨fun K => He.ga K "_law_told", "_law_told", "_law_told", s_law_told⟩) rfl
    g_law_changed := gloB_ok X G (h48)
    d_law_changed := told_fnX c 17 (d := ⟨fun K => He.ga K "_law_changed", "_law_changed", "_law_changed", s_law_changed⟩) rfl
    g_law := gloB_ok X G (h49)
    d_law := told_fnX c 18 (d := ⟨fun K => He.ga K "law", "law", "law", s_law⟩) rfl
  }
end FP
namespace FP
open PySem PySem.Spec PyProof.Rows L2
section
variable {P : Program} {w : World} {K : PySem.W.Frag} {mg : Str → Option Value} {base : Heap} {a : Ad}
/-- a Ratio stands at p -/
def IsR (a : Ad) (H : Hp) (p : Addr) (q : Rat) : Prop := ∃ dx, H p = some (.ins a.Ratio dx [("top", .int q.num), ("bottom", .int (q.den : Int))])
theorem IsR.mono {a : Ad} {H G : Hp} {p : Addr} {q : Rat} (r : IsR a H p q) (e : Same H G) : IsR a G p q := let ⟨dx, h⟩ := r; ⟨dx, e _ _ h⟩
def sp_common_divisor (K : PySem.W.Frag) (a : Ad) : Sp := fun vs H Q E => match vs with
  | [.int i, .int j] => Q (.int (Int.gcd i j : Int)) H
  | _ => False
def sp_Ratio___init (K : PySem.W.Frag) (a : Ad) : Sp := fun vs H Q E => match vs with
  | [.ref x, .int t, .int b] => ∃ dx, H x = some (.ins a.Ratio dx []) ∧ b.natAbs.log2 < 9000 ∧
      (b ≠ 0 → Q .non (upd H x (.ins a.Ratio dx [("top", .int (Rat.divInt t b).num), ("bottom", .int ((Rat.divInt t b).den : Int))]))) ∧ (b = 0 → E (.ref a.ZeroDenominator) none H)
  | _ => False
/-- the text of a fraction -/
def txt (q : Rat) : Str := if q.den = 1 then (toString q.num : Str) else Str.empty ++ (toString q.num : Str) ++ ("/" : Str) ++ (toString (q.den : Int) : Str)
/-- a source of draws at f -/
def Feed (H : Hp) (f : Addr) : Prop := ∃ d s : Int, H f = some (.lst [.int d, .int s]) ∧ 0 ≤ d ∧ 0 ≤ s ∧ s < 2305843009213693951
def sp_law_feed (K : PySem.W.Frag) (a : Ad) : Sp := fun vs H Q E => match vs with
  | [.ref p, .int k] => ∃ ns : List Int, SqL K H p (ns.map V.int) ∧ (∀ z ∈ ns, z.natAbs.log2 ≤ 1048576) ∧ ns.length ≤ 63 ∧ 0 ≤ k ∧ k < 64 ∧ ∀ f G, H f = none → Same H G → Feed G f → Q (.ref f) G
  | _ => False
def sp_law_take (K : PySem.W.Frag) (a : Ad) : Sp := fun vs H Q E => match vs with
  | [.ref f, .int m] => Feed H f ∧ 0 < m ∧ m.natAbs.log2 < 9000 ∧ ∀ k G, 0 ≤ k → k < m → But f H G → Feed G f → Q (.int k) G
  | _ => False
def big : Nat := 100000000000000000039
def sp_law_integer (K : PySem.W.Frag) (a : Ad) : Sp := fun vs H Q E => match vs with
  | [.ref f] => Feed H f ∧ ∀ (i : Int) G, i.natAbs ≤ big → But f H G → Feed G f → Q (.int i) G
  | _ => False
def sp_law_pair (K : PySem.W.Frag) (a : Ad) : Sp := fun vs H Q E => match vs with
  | [.ref f] => Feed H f ∧ ∀ (t b : Int) p G, t.natAbs ≤ big → b ≠ 0 → b.natAbs ≤ big → But f H G → Feed G f → H p = none → G p = some (.tup [.int t, .int b]) → Q (.ref p) G
  | _ => False
theorem tl (i : Int) (h : i.natAbs.log2 < 1920) : (toString i : Str).length ≤ 1921 := int_text_len_1921 h
theorem line5 {n : Nat} (h : n ≤ 100000) : n ≤ sizeLine := Nat.le_trans h (by decide)
theorem Feed.mono {H G : Hp} {f : Addr} (h : Feed H f) (e : Same H G) : Feed G f := let ⟨d, s, e1, r⟩ := h; ⟨d, s, e _ _ e1, r⟩
theorem lgi {i : Int} {k : Nat} (hk : 0 < k) (h : i.natAbs < 2 ^ k) : i.natAbs.log2 < k := FM.lg hk h
theorem nil_append (x : Str) : Str.empty ++ x = x := by
  cases x with
  | mk c =>
    show (⟨#[] ++ c⟩ : Str) = ⟨c⟩
    simp
theorem txt_eq (q : Rat) : txt q = if q.den = 1 then (toString q.num : Str) else (toString q.num : Str) ++ ("/" : Str) ++ (toString (q.den : Int) : Str) := by
  unfold txt
  rw [nil_append]
theorem shown2 {n m : Int} (h1 : n.natAbs.log2 < 1920) (h2 : m.natAbs.log2 < 1920) : (PyData.shown (.tuple [.int n, .int m])).length ≤ sizeLine := by
  have z1 := tl n h1
  have z2 := tl m h2
  have e : PyData.shown (.tuple [.int n, .int m]) = tupleText [(toString n : Str), (toString m : Str)] := by simp [PyData.shown, PyData.shownAll]
  rw [e]
  have z := fmt_text [(toString n : Str), (toString m : Str)]
  have p : piled [(toString n : Str), (toString m : Str)] ≤ 4000 := by
    rw [piled_cons, piled_cons]
    have : piled ([] : List Str) = 0 := rfl
    omega
  exact line5 (by omega)
theorem Same.none {H G : Hp} (e : Same H G) {p : Addr} (h : G p = none) : H p = none := e.free h
def sp_law_text (K : PySem.W.Frag) (a : Ad) : Sp := fun vs H Q E => match vs with
  | [.int t, .int b] => b ≠ 0 ∧ t.natAbs.log2 < 1900 ∧ b.natAbs.log2 < 1900 ∧ ∀ G, Same H G → Q (.str (txt (Rat.divInt t b))) G
  | _ => False
theorem nlog {t b : Int} {k : Nat} (h : b ≠ 0) (ht : t.natAbs.log2 < k) : (Rat.divInt t b).num.natAbs.log2 < k := Nat.lt_of_le_of_lt (FM.log2_le (FM.num_le h)) ht
theorem dlog {t b : Int} {k : Nat} (h : b ≠ 0) (ht : b.natAbs.log2 < k) : (Rat.divInt t b).den.log2 < k := Nat.lt_of_le_of_lt (FM.log2_le (FM.den_le h)) ht
/-- a Ratio is made -/
theorem use_make {t b : Int} {H : Hp} {Q : VK} {E : XK} (hb : b ≠ 0) (lb : b.natAbs.log2 < 9000) (k : ∀ r G, H r = none → Same H G → IsR a G r (Rat.divInt t b) → Q (.ref r) G) :
    ∀ x dx, H x = none → H dx = none → dx ≠ x → sp_Ratio___init K a [.ref x, .int t, .int b] (upd (upd H dx (.own x)) x (.ins a.Ratio dx [])) (fun v H2 => v = .non ∧ Q (.ref x) H2) E := by
  intro x d hx hd hne
  have hd' : Same H (upd H d (.own x)) := same_new hd
  have hx' : upd H d (.own x) x = none := by rw [upd_ne (Ne.symm hne)]; exact hx
  refine ⟨d, upd_same, lb, fun _ => ⟨rfl, ?_⟩, fun z => absurd z hb⟩
  rw [upd_upd]
  exact k x _ hx (same_up hd' hx') ⟨d, upd_same⟩
theorem butNe {f p : Addr} {H : Hp} (h : Feed H f) (n : H p = none) : p ≠ f := by
  rintro rfl
  obtain ⟨d, s, e, _⟩ := h
  rw [n] at e
  cases e
theorem shown1 : ((PyData.shown (.int 0)) : Str) = ("0" : Str) := by decide +kernel
theorem b20 {t : Int} (h : t.natAbs ≤ big) : t.natAbs.log2 < 100 := FM.lg (by decide) (Nat.lt_of_le_of_lt h (by decide))
theorem shownB (d : Bool) : (PyData.shown (.bool d)).length ≤ sizeLine := by
  cases d <;> exact line5 (by decide +kernel)
theorem depthB (d : Bool) : (PyData.bool d).depth ≤ 60 := by cases d <;> decide
theorem neS {K : PySem.W.Frag} {O : R2} {a b : Str} {H : Hp} {Q : V → Hp → Prop} (h : a = b) (q : Q (.bl false) H) : uNe K O (.str a) (.str b) H Q := by
  show Q (.bl (!decide (a = b))) H
  rw [decide_eq_true h]
  exact q
/-- .. as it stands at a call -/
theorem use_make1 {t b : Int} {H : Hp} {R : Hp → Prop} {E : XK} {x d : Addr} (hx : H x = none) (hd : H d = none) (hne : d ≠ x) (hb : b ≠ 0) (lb : b.natAbs.log2 < 9000) (k : ∀ G, Same H G → IsR a G x (Rat.divInt t b) → R G) :
    sp_Ratio___init K a [.ref x, .int t, .int b] (upd (upd H d (.own x)) x (.ins a.Ratio d [])) (fun v H2 => v = .non ∧ R H2) E := by
  have hd' : Same H (upd H d (.own x)) := same_new hd
  have hx' : upd H d (.own x) x = none := by rw [upd_ne (Ne.symm hne)]; exact hx
  refine ⟨d, upd_same, lb, fun _ => ⟨rfl, ?_⟩, fun z => absurd z hb⟩
  rw [upd_upd]
  exact k _ (same_up hd' hx') ⟨d, upd_same⟩
def sp_law (K : PySem.W.Frag) (a : Ad) : Sp := fun vs H Q E => match vs with
  | [.ref p] => ∃ ns : List Int, SqL K H p (ns.map V.int) ∧ ns.length ≤ 63 ∧ (∀ z ∈ ns, z.natAbs.log2 ≤ 1048576) ∧ ∀ G, Q (.bl true) G
  | _ => False
/-- the two Ratios of a call, not too large -/
def Sm (q : Rat) (k : Nat) : Prop := q.num.natAbs.log2 < k ∧ q.den.log2 < k
theorem szE {x y : Int} (h1 : x.natAbs.log2 < 4000) (h2 : y.natAbs.log2 < 4000) : x.natAbs.log2 + y.natAbs.log2 < 100000000 := by omega
theorem own2 {sp : Sp} {E : XK} {p r : Addr} {q s : Rat} {H : Hp} {Q : VK} (hp : IsR a H p q) (hr : IsR a H r s) (h : sp [.ref p, .ref r] H Q E) : rOwn a.Ratio sp E (.ref p) (.ref r) H Q := by
  obtain ⟨dx, hp⟩ := hp
  obtain ⟨dy, hr⟩ := hr
  exact ⟨p, dx, _, r, dy, _, rfl, hp, rfl, hr, h⟩
theorem keepB {f : Addr} {G J J' : Hp} (hf : G f = none) (s : Same G J) (b : But f J J') : Same G J' := by
  intro c o e
  have nc : c ≠ f := by
    rintro rfl
    rw [hf] at e
    cases e
  exact b _ _ nc (s _ _ e)
theorem szI {x y : Int} {k : Nat} (h1 : x.natAbs.log2 < k) (h2 : y.natAbs.log2 < k) (hk : k ≤ 50000000 := by decide) : CProd x y := by
  show _ + _ < _
  omega
theorem keepU {G M : Hp} {D : Addr} {o : HO} (hD : G D = none) (s : Same G M) : Same G (upd M D o) := by
  intro c u e
  have n : c ≠ D := by
    rintro rfl
    rw [hD] at e
    cases e
  rw [upd_ne n]
  exact s _ _ e
theorem IsR.setL {a : Ad} {M : Hp} {x E : Addr} {q : Rat} {zs : List V} {o : HO} (h : IsR a M x q) (e : M E = some (.lst zs)) : IsR a (upd M E o) x q := by
  obtain ⟨dx, hx⟩ := h
  refine ⟨dx, ?_⟩
  rw [upd_ne, hx]
  rintro rfl
  rw [hx] at e
  cases e
theorem tupNe {M : Hp} {p D : Addr} {zs ws : List V} (h : M p = some (.tup zs)) (e : M D = some (.lst ws)) : p ≠ D := by
  rintro rfl
  rw [h] at e
  cases e
theorem smN {i : Int} (h : i.natAbs < 1000000000000 := by omega) : i.natAbs.log2 < 64 := lgi (by decide) (Nat.lt_trans h (by decide))
theorem seqI {t u : TS} {D : Ends} {σ : L2.St} {H : Hp} (h : t { D with nx := fun τ G => u D τ G } σ H) : tSeq t u D σ H := h
/-- .. an int -/
def Iv (σ : L2.St) (te : TE) (i : Int) : Prop := ∀ (H : Hp) (Q : VK), Q (.int i) H → te σ H Q
theorem Iv.con {σ : L2.St} (i : Int) : Iv σ (tC (.int i)) i := fun _ _ q => q
theorem Iv.var {σ : L2.St} {i : Int} (n : Nat) (h : σ[n]? = some (some (.int i)) := by rfl) : Iv σ (vM n) i := by
  intro H Q q
  unfold vM
  rw [h]
  exact q
theorem tl_inj {a b : Str} : a = b ↔ TL.tl a = TL.tl b := ⟨fun e => by rw [e], TL.ext_tl⟩
theorem dec_tl (z : Str) (s : String) (l : List Nat) (h : TL.tl (Str.ofString s) = l) : decide (z = Str.ofString s) = decide (TL.tl z = l) := by
  have : (z = Str.ofString s) ↔ (TL.tl z = l) := by rw [tl_inj, h]
  by_cases c : z = Str.ofString s
  · rw [decide_eq_true c, decide_eq_true (this.mp c)]
  · rw [decide_eq_false c, decide_eq_false (fun q => c (this.mpr q))]
def sp_is_number (K : PySem.W.Frag) (a : Ad) : Sp := fun vs H Q E => match vs with
  | [.str z] => z.length ≤ 100000 ∧ ∀ G, Same H G → Q (.bl (isNumL (TL.tl z))) G
  | _ => False
/-- the words of a text that stands for a fraction not below 0 -/
def posW (ws : List Str) : Bool := match ws with
  | [_] => true
  | [u, v] => decide (1 < (NumText.digitsVal (TL.tl v) : Int)) && decide ((Int.gcd (NumText.digitsVal (TL.tl u) : Int) (NumText.digitsVal (TL.tl v) : Int) : Int) = 1)
  | _ => false
def isPos (ws : List Str) : Bool := ws.all (fun w => isNumL (TL.tl w)) && posW ws
def sp_is_positive_text (K : PySem.W.Frag) (a : Ad) : Sp := fun vs H Q E => match vs with
  | [.str z] => z.length ≤ 90000 ∧ (Txt.split z (Str.ofString "/")).length ≤ 100000 ∧ (∀ w ∈ Txt.split z (Str.ofString "/"), w.length ≤ 100000) ∧ ((Txt.split z (Str.ofString "/")).all (fun w => isNumL (TL.tl w)) = true → (Txt.split z (Str.ofString "/")).length = 2 → ∀ w ∈ Txt.split z (Str.ofString "/"), w.length ≤ 4300) ∧
      ∀ G, Same H G → Q (.bl (isPos (Txt.split z (Str.ofString "/")))) G
  | _ => False
theorem eqI {K : PySem.W.Frag} {O : R2} {i j : Int} {H : Hp} {Q : VK} (h : Q (.bl (decide (i = j))) H) : uEq K O (.int i) (.int j) H Q := h
theorem lim : 4300 ≤ sizeLine := by decide
/-- numbers of up to 4300 digits -/
def Sd (q : Rat) : Prop := q.num.natAbs < 10 ^ 4300 ∧ q.den < 10 ^ 4300
theorem big_len {i : Int} (h : i.natAbs < 10 ^ 4300) : (Str.ofString (toString i)).length ≤ 4301 := by
  rw [TL.len_tl, tl_int, List.length_append]
  have := TL.numL_len (by decide : 0 < 4300) h
  split <;> simp <;> omega
def sp_Ratio___str (K : PySem.W.Frag) (a : Ad) : Sp := fun vs H Q E => match vs with
  | [.ref p] => ∃ q : Rat, IsR a H p q ∧ Sd q ∧ Q (.str (txt q)) H
  | _ => False
/-- what stands behind the sign -/
def bodyL (q : Rat) : List Nat := TL.numL q.num.natAbs ++ (if q.den = 1 then [] else 47 :: TL.numL q.den)
theorem tl_txt (q : Rat) : TL.tl (txt q) = (if q.num < 0 then [45] else []) ++ bodyL q := by
  rw [txt_eq]
  unfold bodyL
  by_cases h : q.den = 1
  · rw [if_pos h, if_pos h, List.append_nil]
    exact tl_int q.num
  · rw [if_neg h, if_neg h, TL.tl_append, TL.tl_append, slash, tl_nat, show TL.tl (Str.ofString (toString q.num)) = _ from tl_int q.num]
    simp
theorem low_num {t o : Int} (ho : 0 < o) (hg : Int.gcd t o = 1) : (Rat.divInt t o).num = t ∧ ((Rat.divInt t o).den : Int) = o := by
  have h : o ≠ 0 := by omega
  have e : FM.dvs t o = 1 := by
    unfold FM.dvs
    rw [if_neg (by omega), hg]
    rfl
  have h1 := FM.num_eq (t := t) h
  have h2 := FM.den_eq (t := t) h
  rw [e] at h1 h2
  exact ⟨by rw [← h1, Int.fdiv_one], by rw [← h2, Int.fdiv_one]⟩
theorem canon {l : List Nat} (h : isNumL l = true) : TL.numL (NumText.digitsVal l) = l := by
  unfold isNumL at h
  obtain ⟨h1, h⟩ := and_ok h
  obtain ⟨h2, h3⟩ := and_ok h
  have h1 := of_decide_eq_true h1
  have ad : NumText.AllDigits l := fun c hc => by
    have := List.all_eq_true.mp h2 c hc
    unfold isDig at this
    rw [Bool.and_eq_true, decide_eq_true_eq, decide_eq_true_eq] at this
    exact this
  have len : l.length = (l.length - 1) + 1 := by
    have := List.length_pos_iff.mpr h1
    omega
  have z : l.length - 1 = 0 ∨ ∃ c r, l = c :: r ∧ 49 ≤ c := by
    cases e : l with
    | nil => exact absurd e h1
    | cons c r =>
      subst e
      rcases Bool.or_eq_true_iff.mp h3 with g | g
      · have g := of_decide_eq_true g
        rw [g]
        exact .inl rfl
      · refine .inr ⟨c, r, rfl, ?_⟩
        have g : ¬ (c = 48) := by simpa using g
        have := ad c (by simp)
        omega
  have e := NumText.toDigits_digitsVal (l.length - 1) l len ad z
  unfold TL.numL
  rw [e, List.map_map]
  have : ∀ c ∈ l, (Char.toNat ∘ Char.ofNat) c = c := fun c hc => by
    have := ad c hc
    have k : ∀ c : Nat, c < 128 → (Char.ofNat c).toNat = c := by decide
    exact k c (by omega)
  exact (List.map_congr_left this).trans (List.map_id' l)
/-- what stands behind such words -/
theorem words_of {D : Str} (h : isPos (Txt.split D (Str.ofString "/")) = true) :
    ∃ n d : Nat, TL.tl D = TL.numL n ++ (if d = 1 then [] else 47 :: TL.numL d) ∧ 1 ≤ d ∧ Nat.gcd n d = 1 ∧
      ((d = 1 ∧ ∃ w, Txt.split D (Str.ofString "/") = [w] ∧ isNumL (TL.tl w) = true ∧ NumText.digitsVal (TL.tl w) = n) ∨
       (2 ≤ d ∧ ∃ u v, Txt.split D (Str.ofString "/") = [u, v] ∧ isNumL (TL.tl u) = true ∧ isNumL (TL.tl v) = true ∧ NumText.digitsVal (TL.tl u) = n ∧ NumText.digitsVal (TL.tl v) = d)) := by
  have j := PySem.StrLaws.join_split D (Str.ofString "/")
  generalize Txt.split D (Str.ofString "/") = ws at h j
  unfold isPos at h
  obtain ⟨h1, h2⟩ := and_ok h
  match ws, h1, h2, j with
  | [w], h1, _, j =>
    have hw : isNumL (TL.tl w) = true := by simpa using h1
    have e : w = D := j
    subst e
    refine ⟨NumText.digitsVal (TL.tl w), 1, by rw [if_pos rfl, List.append_nil, canon hw], by omega, Nat.gcd_one_right _, .inl ⟨rfl, w, rfl, hw, rfl⟩⟩
  | [u, v], h1, h2, j =>
    have h1 : isNumL (TL.tl u) = true ∧ isNumL (TL.tl v) = true := by simpa using h1
    have h2 : (decide (1 < (NumText.digitsVal (TL.tl v) : Int)) && decide ((Int.gcd (NumText.digitsVal (TL.tl u) : Int) (NumText.digitsVal (TL.tl v) : Int) : Int) = 1)) = true := h2
    obtain ⟨g1, g2⟩ := and_ok h2
    have g1 := of_decide_eq_true g1
    have g2 := of_decide_eq_true g2
    rw [Int.gcd_natCast_natCast] at g2
    have e : u ++ Str.ofString "/" ++ v = D := j
    refine ⟨NumText.digitsVal (TL.tl u), NumText.digitsVal (TL.tl v), ?_, by omega, by omega, .inr ⟨by omega, u, v, rfl, h1.1, h1.2, rfl, rfl⟩⟩
    rw [if_neg (by omega), ← e, TL.tl_append, TL.tl_append, slash, canon h1.1, canon h1.2]
    simp
/-- the digits of a text -/
def digT (z : Str) : Str := if (TL.tl z).take 1 = [45] ∧ z ≠ Str.ofString "-0" then cutS z (some 1) none else z
def okT (z : Str) : Bool := isPos (Txt.split (digT z) (Str.ofString "/"))
theorem minus0 : TL.tl (Str.ofString "-0") = [45, 48] := by decide +kernel
theorem low_nat {n d : Nat} (hd : 1 ≤ d) (g : Nat.gcd n d = 1) (s : Int) (hs : s = 1 ∨ s = -1) : (Rat.divInt (s * n) d).num = s * n ∧ (Rat.divInt (s * n) d).den = d := by
  have h := low_num (t := s * n) (o := d) (by omega) (by
    rcases hs with rfl | rfl
    · rw [Int.one_mul, Int.gcd_natCast_natCast, g]
    · rw [Int.neg_one_mul, Int.neg_gcd, Int.gcd_natCast_natCast, g])
  exact ⟨h.1, by omega⟩
/-- a text that is read is the text of what is read -/
theorem txt_back {z : Str} {n d : Nat} (hD : TL.tl (digT z) = TL.numL n ++ (if d = 1 then [] else 47 :: TL.numL d)) (hd : 1 ≤ d) (g : Nat.gcd n d = 1) :
    txt (Rat.divInt ((if decide (digT z = z) = true then 1 else -1) * (n : Int)) d) = z := by
  rw [tl_inj, tl_txt]
  unfold bodyL
  by_cases c : (TL.tl z).take 1 = [45] ∧ z ≠ Str.ofString "-0"
  · have eD : digT z = cutS z (some 1) none := if_pos c
    cases ez : TL.tl z with
    | nil => rw [ez] at c; cases c.1
    | cons a r =>
      have ha : a = 45 := by
        have := c.1
        rw [ez] at this
        simpa using this
      subst ha
      have eT : TL.tl (digT z) = r := by rw [eD, cut_from1, ez]; rfl
      have ne : digT z ≠ z := by
        intro e
        rw [tl_inj, eT, ez] at e
        have := congrArg List.length e
        simp at this
      rw [decide_eq_false ne]
      simp only [Bool.false_eq_true, if_false]
      obtain ⟨e1, e2⟩ := low_nat hd g (-1) (.inr rfl)
      rw [e1, e2]
      rw [eT] at hD
      have n0 : n ≠ 0 := by
        rintro rfl
        by_cases d1 : d = 1
        · subst d1
          rw [if_pos rfl, List.append_nil] at hD
          refine c.2 (tl_inj.mpr ?_)
          rw [ez, hD, minus0]
          decide +kernel
        · rw [Nat.gcd_zero_left] at g
          exact d1 g
      have en : ((-1 : Int) * n).natAbs = n := by omega
      rw [if_pos (by omega), en, ← hD]
      rfl
  · have eD : digT z = z := if_neg c
    rw [eD, decide_eq_true rfl]
    simp only [if_true]
    obtain ⟨e1, e2⟩ := low_nat hd g 1 (.inl rfl)
    rw [e1, e2]
    rw [eD] at hD
    have en : ((1 : Int) * n).natAbs = n := by omega
    rw [if_neg (by omega), en, hD]
    rfl
theorem foldl_lt : ∀ (cs : List Nat) (a : Nat), cs.all isDig = true → cs.foldl (fun acc c => acc * 10 + (c - 48)) a < (a + 1) * 10 ^ cs.length
  | [], a, _ => by simp
  | c :: r, a, h => by
    rw [List.all_cons] at h
    obtain ⟨h1, h2⟩ := and_ok h
    have ih := foldl_lt r (a * 10 + (c - 48)) h2
    unfold isDig at h1
    rw [Bool.and_eq_true, decide_eq_true_eq, decide_eq_true_eq] at h1
    rw [List.foldl_cons, List.length_cons, Nat.pow_succ]
    have : a * 10 + (c - 48) + 1 ≤ (a + 1) * 10 := by omega
    have := Nat.mul_le_mul_right (10 ^ r.length) this
    rw [Nat.mul_comm (10 ^ r.length) 10, ← Nat.mul_assoc]
    omega
theorem val_lt {l : List Nat} (h : isNumL l = true) : NumText.digitsVal l < 10 ^ l.length := by
  unfold isNumL at h
  obtain ⟨_, h⟩ := and_ok h
  have := foldl_lt l 0 (and_ok h).1
  rw [Nat.zero_add, Nat.one_mul] at this
  exact this
theorem joinL_part : ∀ (ps : List (List Nat)) (p : List Nat), p ∈ ps → p.length ≤ (TL.joinL [47] ps).length
  | [], _, h => by cases h
  | [q], p, h => by
    rw [List.mem_singleton.mp h]
    exact Nat.le_refl _
  | q :: r :: s, p, h => by
    show p.length ≤ (q ++ ([47] ++ TL.joinL [47] (r :: s))).length
    rw [List.length_append, List.length_append]
    rcases List.mem_cons.mp h with e | e
    · rw [e]
      omega
    · have := joinL_part (r :: s) p e
      omega
theorem joinL_many : ∀ ps : List (List Nat), ps.length ≤ (TL.joinL [47] ps).length + 1
  | [] => by simp
  | [q] => by simp
  | q :: r :: s => by
    have := joinL_many (r :: s)
    show (q :: r :: s).length ≤ (q ++ ([47] ++ TL.joinL [47] (r :: s))).length + 1
    rw [List.length_append, List.length_append]
    simp only [List.length_cons, List.length_nil] at this ⊢
    omega
theorem split_sizes (D : Str) : (Txt.split D (Str.ofString "/")).length ≤ D.length + 1 ∧ ∀ w ∈ Txt.split D (Str.ofString "/"), w.length ≤ D.length := by
  have j := congrArg TL.tl (PySem.StrLaws.join_split D (Str.ofString "/"))
  rw [TL.tl_join, slash] at j
  generalize Txt.split D (Str.ofString "/") = ws at j
  refine ⟨?_, fun w hw => ?_⟩
  · have := joinL_many (ws.map TL.tl)
    rw [j, List.length_map, ← TL.len_tl] at this
    exact this
  · have := joinL_part (ws.map TL.tl) (TL.tl w) (List.mem_map_of_mem hw)
    rw [j, ← TL.len_tl, ← TL.len_tl] at this
    exact this
theorem dig_len (z : Str) : (digT z).length ≤ z.length := by
  unfold digT
  split
  · rw [TL.len_tl, cut_from1, List.length_drop, ← TL.len_tl]
    omega
  · exact Nat.le_refl _
def sp_InvalidText___init (K : PySem.W.Frag) (a : Ad) : Sp := fun vs H Q E => match vs with
  | [.ref x, y] => H x = some (exo x a.InvalidText none) ∧ ∀ dx, H dx = none → dx ≠ x → Q .non (upd (upd H dx (exd dx [("row", y)])) x (exo x a.InvalidText (some dx)))
  | _ => False
def sp_Ratio_parse (K : PySem.W.Frag) (a : Ad) : Sp := fun vs H Q E => match vs with
  | [.ref C, .str z] => C = a.Ratio ∧ z.length ≤ 2500 ∧ (okT z = true → ∀ q x G, txt q = z → Sd q → H x = none → Same H G → IsR a G x q → Q (.ref x) G) ∧
      (okT z = false → ∀ d G, Same H G → G d = some (.xd [("row", .int 0)]) → E (.ref a.InvalidText) (some d) G)
  | _ => False
theorem big1 : 10 ^ 2500 ≤ 2 ^ 8999 := by decide +kernel
theorem big2 : 10 ^ 2500 ≤ 10 ^ 4300 := Nat.pow_le_pow_right (by decide) (by decide)
theorem dp_strs {K : PySem.W.Frag} {H : Hp} : ∀ l : List Str, DpAll K H (l.map V.str) (l.map PyData.str)
  | [] => .nil
  | x :: r => .cons (.str x) (dp_strs r)
def Lo (z : Str) : Prop := ∀ c ∈ TL.tl z, c < 256
def Gd (z : Str) : Prop := z.length ≤ 2100 ∧ Lo z
theorem ok_of {z : Str} (h : Lo z) : PyData.strOk z = true := by
  unfold PyData.strOk
  rw [← Array.all_toList, List.all_eq_true]
  intro c hc
  have := h c hc
  exact decide_eq_true (by omega)
theorem shaped_strs (l : List Str) (hl : ∀ x ∈ l, Lo x) : SeqAt.shaped (.list (l.map PyData.str)) = true := by
  have h1 : ∀ l : List Str, (∀ x ∈ l, Lo x) → PyData.canLayAll0 (l.map PyData.str) = true := by
    intro l
    induction l with
    | nil => exact fun _ => rfl
    | cons x r ih => exact fun h => by simp [PyData.canLayAll0, PyData.canLay0, ih (fun y hy => h y (by simp [hy])), ok_of (h x (by simp))]
  have h2 : ∀ l : List Str, PyData.depthAll (l.map PyData.str) ≤ 1 := by
    intro l
    induction l with
    | nil => simp [PyData.depthAll]
    | cons x r ih =>
      simp only [List.map_cons, PyData.depthAll, PyData.depth]
      omega
  unfold SeqAt.shaped
  have a := h1 l hl
  have b := h2 l
  have c : PyData.canLay0 (.list (l.map PyData.str)) = true := by simpa [PyData.canLay0] using a
  have d : PyData.depth (.list (l.map PyData.str)) ≤ 64 := by
    simp only [PyData.depth]
    omega
  rw [c, decide_eq_true d]
  rfl
/-- a list of texts is not the empty list -/
theorem ne_nil {K : PySem.W.Frag} {H : Hp} {D E : Addr} {l : List Str} {O : R2} {Q : VK} (hl : ∀ x ∈ l, Lo x) (hD : H D = some (.lst (l.map V.str))) (hE : H E = some (.lst [])) (h : Q (.bl (!decide (l = []))) H) : uNe K O (.ref D) (.ref E) H Q := by
  refine .inl ⟨.list (l.map PyData.str), .list [], .lst (SqL.of hD) (dp_strs l), .lst (SqL.of hE) .nil, shaped_strs l hl, rfl, ?_⟩
  cases l with
  | nil => exact h
  | cons x r => exact h
def one (c : Nat) : Str := ⟨#[c]⟩
def sp_law_is_number (K : PySem.W.Frag) (a : Ad) : Sp := fun vs H Q E => match vs with
  | [.str z] => z.length ≤ 100000 ∧ Lo z ∧ ∀ G, Same H G → Q (.bl (isNumL (TL.tl z))) G
  | _ => False
def sp_law_lowest (K : PySem.W.Frag) (a : Ad) : Sp := fun vs H Q E => match vs with
  | [.int t, .int b] => b ≠ 0 ∧ t.natAbs.log2 < 8999 ∧ b.natAbs.log2 < 8999 ∧ ∀ p G, H p = none → Same H G → G p = some (.tup [.int (Rat.divInt t b).num, .int ((Rat.divInt t b).den : Int)]) → Q (.ref p) G
  | _ => False
theorem dp2 {K : PySem.W.Frag} {J : Hp} {x : Addr} {i j : Int} (e : J x = some (.tup [.int i, .int j])) : Dp K J (.ref x) (.tuple [.int i, .int j]) := .tup (SqT.of e) (.cons (.int _) (.cons (.int _) .nil))
theorem eqv2 (i j k l : Int) : (PyData.tuple [PyData.int i, PyData.int j]).eqv (PyData.tuple [PyData.int k, PyData.int l]) = decide (i = k ∧ j = l) := by
  have e : (PyData.tuple [PyData.int i, PyData.int j]).eqv (PyData.tuple [PyData.int k, PyData.int l]) = ((i == k) && ((j == l) && true)) := by simp [PyData.eqv, PyData.eqvAll]
  rw [e]
  by_cases h : i = k <;> by_cases g : j = l <;> simp [h, g]
theorem joinL_mem : ∀ (ps : List (List Nat)) (p : List Nat), p ∈ ps → ∀ c ∈ p, c ∈ TL.joinL [47] ps
  | [], _, h => by cases h
  | [q], p, h => by
    rw [List.mem_singleton.mp h]
    exact fun c hc => hc
  | q :: r :: s, p, h => by
    intro c hc
    show c ∈ q ++ ([47] ++ TL.joinL [47] (r :: s))
    rcases List.mem_cons.mp h with e | e
    · rw [e] at hc
      exact List.mem_append.mpr (.inl hc)
    · exact List.mem_append.mpr (.inr (List.mem_append.mpr (.inr (joinL_mem (r :: s) p e c hc))))
theorem split_lo {D : Str} (h : Lo D) : ∀ w ∈ Txt.split D (Str.ofString "/"), Lo w := by
  have j := congrArg TL.tl (PySem.StrLaws.join_split D (Str.ofString "/"))
  rw [TL.tl_join, slash] at j
  intro w hw c hc
  refine h c ?_
  rw [← j]
  exact joinL_mem _ (TL.tl w) (List.mem_map_of_mem hw) c hc
/-- what the law reads -/
def digL (z : Str) : Str := if (TL.tl z).take 1 = [45] then cutS z (some 1) none else z
theorem digL_gd {z : Str} (h : Gd z) : Gd (digL z) := by
  unfold digL
  split
  · refine ⟨?_, fun c hc => h.2 c ?_⟩
    · rw [TL.len_tl, cut_from1, List.length_drop, ← TL.len_tl]
      exact Nat.le_trans (Nat.sub_le _ _) h.1
    · rw [cut_from1] at hc
      exact List.mem_of_mem_drop hc
  · exact h
theorem digT_L {z : Str} (h : z ≠ Str.ofString "-0") : digT z = digL z := by
  unfold digT digL
  by_cases c : (TL.tl z).take 1 = [45]
  · rw [if_pos ⟨c, h⟩, if_pos c]
  · rw [if_neg (fun q => c q.1), if_neg c]
theorem ok_m0 : okT (Str.ofString "-0") = false := by decide +kernel
theorem dig_m0 : Txt.split (digL (Str.ofString "-0")) (Str.ofString "/") = [Str.ofString "0"] := by decide +kernel
theorem num_0 : isNumL (TL.tl (Str.ofString "0")) = true := by decide +kernel
theorem low_iff {u v : Nat} (hv : 1 < (v : Int)) : decide ((Int.gcd (u : Int) (v : Int) : Int) = 1) = (decide (0 < (u : Int)) && decide ((Rat.divInt u v).num = u ∧ ((Rat.divInt u v).den : Int) = v)) := by
  by_cases c : (Int.gcd (u : Int) (v : Int) : Int) = 1
  · rw [decide_eq_true c]
    have pu : 0 < (u : Int) := by
      rcases Nat.eq_zero_or_pos u with e | e
      · subst e
        rw [Int.gcd_natCast_natCast, Nat.gcd_zero_left] at c
        omega
      · omega
    rw [decide_eq_true pu, decide_eq_true (low_num (by omega) (by omega))]
    rfl
  · rw [decide_eq_false c]
    by_cases d : (Rat.divInt u v).num = u ∧ ((Rat.divInt u v).den : Int) = v
    · exfalso
      have r := (Rat.divInt (u : Int) (v : Int)).reduced
      unfold Nat.Coprime at r
      rw [d.1] at r
      have e : (Rat.divInt (u : Int) (v : Int)).den = v := by omega
      rw [e] at r
      refine c ?_
      rw [Int.gcd_natCast_natCast]
      have : ((u : Int)).natAbs = u := rfl
      rw [this] at r
      omega
    · rw [decide_eq_false d, Bool.and_false]
def sp_law_is_text (K : PySem.W.Frag) (a : Ad) : Sp := fun vs H Q E => match vs with
  | [.str z] => Gd z ∧ ∀ G, Same H G → Q (.bl (okT z)) G
  | _ => False
def Gn (n : Nat) (z : Str) : Prop := z.length ≤ n ∧ Lo z
theorem Gn.mono {n m : Nat} {z : Str} (h : Gn n z) (e : n ≤ m := by omega) : Gn m z := ⟨Nat.le_trans h.1 e, h.2⟩
theorem Gn.app {n m : Nat} {x y : Str} (h : Gn n x) (g : Gn m y) : Gn (n + m) (x ++ y) := by
  refine ⟨?_, fun c hc => ?_⟩
  · rw [strLen_append]
    have := h.1
    have := g.1
    omega
  · rw [TL.tl_append] at hc
    rcases List.mem_append.mp hc with e | e
    · exact h.2 c e
    · exact g.2 c e
theorem Gn.cut {n : Nat} {z : Str} (h : Gn n z) (lo hi : Option Int) : Gn n (cutS z lo hi) := by
  refine ⟨Nat.le_trans (cutS_length z lo hi) h.1, fun c hc => h.2 c ?_⟩
  exact List.mem_of_mem_drop (List.mem_of_mem_take hc)
theorem Gn.one {c : Nat} (h : c < 256) : Gn 1 ⟨#[c]⟩ := by
  refine ⟨Nat.le_refl 1, fun d hd => ?_⟩
  have : d = c := List.mem_singleton.mp hd
  rw [this]
  exact h
def Gk (n : Nat) (z : Str) : Bool := decide (z.length ≤ n) && (TL.tl z).all (fun c => decide (c < 256))
theorem Gn.of {n : Nat} {z : Str} (h : Gk n z = true) : Gn n z := by
  obtain ⟨h1, h2⟩ := and_ok h
  exact ⟨of_decide_eq_true h1, fun c hc => of_decide_eq_true (List.all_eq_true.mp h2 c hc)⟩
theorem Gn.all {n : Nat} {zs : List Str} (h : zs.all (Gk n) = true) : ∀ z ∈ zs, Gn n z := fun z hz => Gn.of (List.all_eq_true.mp h z hz)
theorem Gn.mul {z : Str} {n : Int} (c : Nat) (e : z = ⟨#[c]⟩) (h : c < 256) (m : Nat) (hm : n.toNat = m) : Gn m (Txt.mul z n) := by
  subst e
  have := mul_one_list c n
  refine ⟨?_, fun d hd => ?_⟩
  · rw [TL.len_tl]
    show (Txt.mul ⟨#[c]⟩ n).cps.toList.length ≤ m
    rw [this, List.length_replicate, hm]
    exact Nat.le_refl _
  · have hd : d ∈ (Txt.mul ⟨#[c]⟩ n).cps.toList := hd
    rw [this] at hd
    rw [List.eq_of_mem_replicate hd]
    exact h
def sp_law_pick (K : PySem.W.Frag) (a : Ad) : Sp := fun vs H Q E => match vs with
  | [.ref f, .ref l] => ∃ xs : List V, Feed H f ∧ H l = some (.lst xs) ∧ l ≠ f ∧ xs ≠ [] ∧ xs.length ≤ 1000 ∧ ∀ v G, v ∈ xs → But f H G → Feed G f → Q v G
  | [.ref f, .str z] => Feed H f ∧ 0 < z.length ∧ z.length ≤ 1000 ∧ ∀ c G, c ∈ TL.tl z → But f H G → Feed G f → Q (.str ⟨#[c]⟩) G
  | _ => False
def sp_law_told (K : PySem.W.Frag) (a : Ad) : Sp := fun vs H Q E => match vs with
  | [.str z] => Gd z ∧ ∀ G, Same H G → Q (if okT z = true then .str z else .int 0) G
  | _ => False
def sp_law_changed (K : PySem.W.Frag) (a : Ad) : Sp := fun vs H Q E => match vs with
  | [.ref f, .str z] => Feed H f ∧ ∃ n, n ≤ 1000 ∧ Gn n z ∧ ∀ y G, Gn (n + n + 1) y → But f H G → Feed G f → Q (.str y) G
  | _ => False
theorem signs_len : (Str.ofString "0123456789/- +._eax\n").length = 20 := by decide +kernel
theorem signs_ok : ((TL.tl (Str.ofString "0123456789/- +._eax\n")).all fun c => decide (c < 256)) = true := by decide +kernel
def Tx (G : Hp) (D : Addr) (m : Nat) : Prop := ∃ zs : List Str, G D = some (.lst (zs.map V.str)) ∧ zs.length ≤ m ∧ ∀ z ∈ zs, Gd z
theorem tx_cat {K : PySem.W.Frag} {O : R2} {G : Hp} {D : Addr} {m : Nat} {Q : VK} {ys : List Str} (h : Tx G D m) (hm : m + ys.length ≤ 100000) (hy : ∀ y ∈ ys, Gd y) (k : ∀ E G2, Same G G2 → G E = none → Tx G2 E (m + ys.length) → Q (.ref E) G2) :
    ∀ B, G B = none → uAdd K O (.ref D) (.ref B) (upd G B (.lst (ys.map V.str))) Q := by
  intro B hB
  obtain ⟨zs, h1, h2, h3⟩ := h
  refine .inl ⟨D, B, _, _, rfl, rfl, same_new hB _ _ h1, upd_same, ?_, fun E hE => ?_⟩
  · rw [List.length_map, List.length_map]
    exact Nat.le_trans (by omega : _ ≤ 100000) (by decide)
  · refine k E _ ((same_new hB).trans (same_new hE)) ((same_new hB).free hE) ⟨zs ++ ys, ?_, by rw [List.length_append]; omega, fun z hz => ?_⟩
    · rw [upd_same, List.map_append]
    · rcases List.mem_append.mp hz with e | e
      · exact h3 z e
      · exact hy z e
theorem shown_ok {z : Str} (h : Gd z) : (PyData.shown (.str z)).length ≤ sizeLine := by
  have e : PyData.shown (.str z) = PySem.reprText z := by simp [PyData.shown]
  rw [e]
  have := PySem.StrLaws.reprText_len z (fun c hc => Nat.lt_trans (h.2 c hc) (by decide))
  have := h.1
  have sl : sizeLine = 16777216 := rfl
  omega
theorem len_txt {t b : Int} (hb : b ≠ 0) (h1 : t.natAbs ≤ big) (h2 : b.natAbs ≤ big) : Gn 60 (txt (Rat.divInt t b)) := by
  have n1 : (Rat.divInt t b).num.natAbs ≤ big := Nat.le_trans (FM.num_le hb) h1
  have n2 : (Rat.divInt t b).den ≤ big := Nat.le_trans (FM.den_le hb) h2
  have d (n : Nat) : ∀ c ∈ TL.numL n, c < 256 := fun c hc => by
    have := TL.numL_digits n c hc
    omega
  have l1 := TL.numL_len (by decide : 0 < 22) (Nat.lt_of_le_of_lt n1 (by decide : big < 10 ^ 22))
  have l2 := TL.numL_len (by decide : 0 < 22) (Nat.lt_of_le_of_lt n2 (by decide : big < 10 ^ 22))
  refine ⟨?_, fun c hc => ?_⟩
  · rw [TL.len_tl, tl_txt]
    unfold bodyL
    rw [List.length_append, List.length_append]
    split <;> split <;> simp only [List.length_cons, List.length_nil] <;> omega
  · rw [tl_txt] at hc
    unfold bodyL at hc
    rcases List.mem_append.mp hc with e | e
    · split at e
      · rw [List.mem_singleton.mp e]
        decide
      · cases e
    · rcases List.mem_append.mp e with e | e
      · exact d _ c e
      · split at e
        · cases e
        · rcases List.mem_cons.mp e with e | e
          · rw [e]
            decide
          · exact d _ c e
def L1 : List Str := [Str.ofString "", Str.ofString "-", Str.ofString "/", Str.ofString "0", Str.ofString "-0", Str.ofString "00", Str.ofString "1/1", Str.ofString "2/1", Str.ofString "0/2", Str.ofString "-0/2", Str.ofString "1/0", Str.ofString "1/-2", Str.ofString "-1/2", Str.ofString "--1"]
theorem law1 : (L1.all (Gk 2100)) = true := by decide +kernel
def L2' : List Str := [Str.ofString "2/4", Str.ofString "-6/9", Str.ofString "+1", Str.ofString " 1", Str.ofString "1 ", Str.ofString "1/ 2", Str.ofString "1//2", Str.ofString "1/2/3", Str.ofString "1/", Str.ofString "/2", Str.ofString "01", Str.ofString "1/02"]
theorem law2 : (L2'.all (Gk 2100)) = true := by decide +kernel
def L3 : List Str := [Str.ofString "1.0", Str.ofString "1_0", Str.ofString "1e3", Str.ofString "0x1", Str.ofString "1\n"]
theorem law3 : (L3.all (Gk 2100)) = true := by decide +kernel
def mulT (z : Str) (n : Int) : Str := Txt.mul z n
theorem gmul (z : Str) (n : Int) (c m : Nat) (e : z = ⟨#[c]⟩ := by decide +kernel) (h : c < 256 := by decide) (hm : n.toNat = m := by decide) : Gn m (Txt.mul z n) := Gn.mul c e h m hm
theorem lst1 {z : Str} (h : Gk 1 z = true) : Gn 1 z := Gn.of h
def L4 : List Str := [Txt.mul (Str.ofString "9") 1000, Str.ofString "-" ++ Txt.mul (Str.ofString "9") 1000, Str.ofString "1/" ++ Txt.mul (Str.ofString "3") 1000, Txt.mul (Str.ofString "7") 1000 ++ Str.ofString "/" ++ Txt.mul (Str.ofString "9") 1000]
def L5 : List Str := [Txt.mul (Str.ofString "9") 900, Str.ofString "-" ++ Txt.mul (Str.ofString "9") 900, Str.ofString "1/" ++ Txt.mul (Str.ofString "3") 900, Txt.mul (Str.ofString "2") 900 ++ Str.ofString "/" ++ Txt.mul (Str.ofString "2") 901, Txt.mul (Str.ofString "0") 900]
def L6 : List Str := [Str.ofString "1" ++ Txt.mul (Str.ofString "0") 500 ++ Str.ofString "/" ++ Str.ofString "1" ++ Txt.mul (Str.ofString "0") 499 ++ Str.ofString "1", Txt.mul (Str.ofString "3") 500 ++ Str.ofString "/" ++ Txt.mul (Str.ofString "9") 500]
theorem c1 : Gn 1 (Str.ofString "1") := Gn.of (by decide +kernel)
theorem cm : Gn 1 (Str.ofString "-") := Gn.of (by decide +kernel)
theorem cs : Gn 1 (Str.ofString "/") := Gn.of (by decide +kernel)
theorem c1s : Gn 2 (Str.ofString "1/") := Gn.of (by decide +kernel)
theorem ok4 : ∀ y ∈ L4, Gd y := by
  intro y hy
  have a := gmul (Str.ofString "9") 1000 57 1000
  have b := gmul (Str.ofString "3") 1000 51 1000
  have c := gmul (Str.ofString "7") 1000 55 1000
  unfold L4 at hy
  simp only [List.mem_cons, List.not_mem_nil, or_false] at hy
  rcases hy with e | e | e | e <;> rw [e]
  · exact a.mono (m := 2100)
  · exact (cm.app a).mono (m := 2100)
  · exact (c1s.app b).mono (m := 2100)
  · exact ((c.app cs).app a).mono (m := 2100)
theorem ok5 : ∀ y ∈ L5, Gd y := by
  intro y hy
  have a := gmul (Str.ofString "9") 900 57 900
  have b := gmul (Str.ofString "3") 900 51 900
  have c := gmul (Str.ofString "2") 900 50 900
  have d := gmul (Str.ofString "2") 901 50 901
  have f := gmul (Str.ofString "0") 900 48 900
  unfold L5 at hy
  simp only [List.mem_cons, List.not_mem_nil, or_false] at hy
  rcases hy with e | e | e | e | e <;> rw [e]
  · exact a.mono (m := 2100)
  · exact (cm.app a).mono (m := 2100)
  · exact (c1s.app b).mono (m := 2100)
  · exact ((c.app cs).app d).mono (m := 2100)
  · exact f.mono (m := 2100)
theorem ok6 : ∀ y ∈ L6, Gd y := by
  intro y hy
  have a := gmul (Str.ofString "0") 500 48 500
  have b := gmul (Str.ofString "0") 499 48 499
  have c := gmul (Str.ofString "3") 500 51 500
  have d := gmul (Str.ofString "9") 500 57 500
  unfold L6 at hy
  simp only [List.mem_cons, List.not_mem_nil, or_false] at hy
  rcases hy with e | e <;> rw [e]
  · exact (((((c1.app a).app cs).app c1).app b).app c1).mono (m := 2100)
  · exact ((c.app cs).app d).mono (m := 2100)
/-- a text by a number -/
theorem mok (z : Str) (n : Int) (c : Nat) (e : z = ⟨#[c]⟩ := by decide +kernel) (h0 : 1 < n := by decide) (h1 : n ≤ 2000 := by decide) : MulOk z n := by
  refine ⟨?_, fun _ _ => ?_, fun _ _ => ?_⟩
  · rw [Bool.or_eq_false_iff]
    exact ⟨decide_eq_false (by omega), decide_eq_false (by omega)⟩
  · subst e
    show ¬ ((1 : Int) > _)
    have : (1 : Int) ≤ (2 ^ 63 - 1) / n := by
      rw [Int.le_ediv_iff_mul_le (by omega)]
      omega
    omega
  · subst e
    show decide (1 * n.toNat > sizeLine) = false
    have sl : sizeLine = 16777216 := rfl
    exact decide_eq_false (by omega)
end
end FP
namespace FP
open PySem PySem.Spec PyProof.Rows L2
section
variable {P : Program} {w : World} {K : PySem.W.Frag} {mg : Str → Option Value} {base : Heap} {a : Ad}

def t_InvalidText___init (K : PySem.W.Frag) (a : Ad) : TS := (tOst K "row" (vM 0) (vM 1))
theorem pure_InvalidText___init (T : Txt K mg a) : ∀ vs H Q E, sp_InvalidText___init K a vs H Q E → t_InvalidText___init K a { nx := fun _ H' => Q .non H', rt := Q } (start ["self", "row"] vs) H := by
  intro vs H Q E h
  unfold sp_InvalidText___init at h
  split at h
  next x y =>
    obtain ⟨hx, k⟩ := h
    exact ⟨x, a.InvalidText, rfl, T.ox_InvalidText, T.n_InvalidText_row, .inl ⟨hx, fun dx h1 h2 => k dx h1 h2⟩⟩
  next => exact h.elim
theorem len_InvalidText___init (K : PySem.W.Frag) (a : Ad) : ∀ vs H Q E, sp_InvalidText___init K a vs H Q E → vs.length = 2 := by
  intro vs H Q E h
  unfold sp_InvalidText___init at h
  split at h <;> first | rfl | exact h.elim
theorem does_InvalidText___init (T : Txt K mg a) : Does P w K mg base CX0 1 a.f_InvalidText___init ["self", "row"] (sp_InvalidText___init K a) := by
  obtain ⟨fd, F⟩ := T.d_InvalidText___init
  refine does0 F sc_InvalidText___init (fun _ _ _ _ _ _ us hl => match us, hl with | [_, _], _ => rfl) (len_InvalidText___init K a) (t_InvalidText___init K a) (fun cdv A out s H E hr => ?_) (pure_InvalidText___init T)
  exact (pss_one (ps_ost (vm 0) (vm 1)))
def t_common_divisor (K : PySem.W.Frag) (a : Ad) : TS := (tSeq (tPar 0 1 (tCons (tCB uAbs (tCons (vM 0) tNil)) (tCons (tCB uAbs (tCons (vM 1) tNil)) tNil))) (tSeq (tWhile (tyes (tOp uGt (vM 1) (tC (.int 0)))) (tPar 0 1 (tCons (vM 1) (tCons (tOp uMod (vM 0) (vM 1)) tNil)))) (tRet (vM 0))))
theorem pure_common_divisor (T : Txt K mg a) : ∀ vs H Q E, sp_common_divisor K a vs H Q E → t_common_divisor K a { nx := fun _ H' => Q .non H', rt := Q } (start ["first", "second"] vs) H := by
  intro vs H Q E h
  unfold sp_common_divisor at h
  split at h
  next i j =>
    refine ⟨_, _, rfl, ?_⟩
    refine ⟨fun m σ G => ∃ x y : Int, σ = [some (.int x), some (.int y)] ∧ 0 ≤ x ∧ 0 ≤ y ∧ Int.gcd x y = Int.gcd i j ∧ G = H ∧ m = y.toNat, ⟨_, _, _, rfl, ?_, ?_, ?_, rfl, rfl⟩, ?_⟩
    · split <;> omega
    · split <;> omega
    · have e : ∀ z : Int, (if z < 0 then -z else z) = (z.natAbs : Int) := by intro z; split <;> omega
      rw [e, e]
      simp [Int.gcd]
    · rintro m σ G ⟨x, y, rfl, hx, hy, hg, rfl, rfl⟩
      refine ite2 (fun hc => ?_) (fun hc => ?_)
      · have hc := of_decide_eq_true hc
        refine ⟨fun τ J => ∃ x' y' : Int, τ = [some (.int x'), some (.int y')] ∧ 0 ≤ x' ∧ 0 ≤ y' ∧ Int.gcd x' y' = Int.gcd i j ∧ J = G ∧ y' < y, ?_, ?_⟩
        · rintro τ J ⟨x', y', rfl, h1, h2, h3, rfl, h4⟩
          exact ⟨_, by omega, x', y', rfl, h1, h2, h3, rfl, rfl⟩
        · refine ⟨hc, _, _, rfl, _, _, rfl, hy, Int.emod_nonneg _ (by omega), ?_, rfl, Int.emod_lt_of_pos _ hc⟩
          rw [FM.gcd_step]
          exact hg
      · have hc : ¬ 0 < y := fun z => hc (decide_eq_true z)
        have e : y = 0 := by omega
        subst e
        have e2 : (Int.gcd i j : Int) = x := by
          rw [← hg]
          simp [Int.gcd]
          omega
        rw [e2] at h
        exact h
  next => exact h.elim
theorem len_common_divisor (K : PySem.W.Frag) (a : Ad) : ∀ vs H Q E, sp_common_divisor K a vs H Q E → vs.length = 2 := by
  intro vs H Q E h
  unfold sp_common_divisor at h
  split at h <;> first | rfl | exact h.elim
theorem does_common_divisor (T : Txt K mg a) : Does P w K mg base CX0 1 a.f_common_divisor ["first", "second"] (sp_common_divisor K a) := by
  obtain ⟨fd, F⟩ := T.d_common_divisor
  refine does0 F sc_common_divisor (fun _ _ _ _ _ _ us hl => match us, hl with | [_, _], _ => rfl) (len_common_divisor K a) (t_common_divisor K a) (fun cdv A out s H E hr => ?_) (pure_common_divisor T)
  exact (pss_cons (ps_par (i := 0) (j := 1) rfl sc_common_divisor.nd rfl rfl (by decide) rfl rfl (pa_cons (pe_callB call_uAbs rfl T.b_abs (by decide +kernel) (pa_cons (vm 0) pa_nil)) (pa_cons (pe_callB call_uAbs rfl T.b_abs (by decide +kernel) (pa_cons (vm 1) pa_nil)) pa_nil)) rfl) (pss_cons (ps_while PassesOwn.never (pt_c op_uGt (vm 1) pe_int (nomark _)) (pss_one (ps_par (i := 0) (j := 1) rfl sc_common_divisor.nd rfl rfl (by decide) rfl rfl (pa_cons (vm 1) (pa_cons (pe_op op_uMod (vm 0) (vm 1)) pa_nil)) rfl))) (pss_one (ps_ret (vm 0)))))
def t_is_number (K : PySem.W.Frag) (a : Ad) : TS := (tSeq (tIfS (tOr (tyes (tOp (uEq K noOp) (vM 0) (tC (.str "")))) (tNot (tTr K (tCB (rAll K) (tCons (tLc (iStr (vM 0)) (gName 1) tYes (tOp (uIn K false noOp) (vM 1) (tC (.str "0123456789"))) [1]) tNil))))) (tRet (tC (.bl false))) tNext) (tRet (tOrV (tOp (uEq K noOp) (vM 0) (tC (.str "0"))) (tOp (uNe K noOp) (tOp (uIx K) (vM 0) (tC (.int 0))) (tC (.str "0"))))))
theorem pure_is_number (T : Txt K mg a) : ∀ vs H Q E, sp_is_number K a vs H Q E → t_is_number K a { nx := fun _ H' => Q .non H', rt := Q } (start ["word", "digit"] vs) H := by
  intro vs H Q E h
  unfold sp_is_number at h
  split at h
  next z =>
    obtain ⟨hz, k⟩ := h
    have hl : z.length = (TL.tl z).length := TL.len_tl z
    have e0 : decide (z = Str.ofString "") = decide (TL.tl z = []) := dec_tl z "" [] (by decide +kernel)
    refine ite2 (fun hc => ?_) (fun hc => ?_)
    · have hc : decide (z = Str.ofString "") = true := hc
      rw [e0] at hc
      have hc := of_decide_eq_true hc
      have := k H (Same.refl H)
      rw [hc] at this
      exact this
    · have hc : ¬ decide (z = Str.ofString "") = true := hc
      rw [e0] at hc
      have hne : TL.tl z ≠ [] := fun q => hc (decide_eq_true q)
      refine ⟨z, rfl, fun D hD => ?_⟩
      refine lc_str (x := z) (fun i M => Same H M ∧ M D = some (.lst (((TL.tl z).take i).map fun c => V.bl (isDig c)))) ⟨same_new hD, upd_same⟩ ?_ ?_
      · rintro i c M hi ⟨sM, hM⟩
        refine ⟨rfl, c, rfl, _, hM, ?_, keepU hD sM, ?_⟩
        · rw [List.length_map, List.length_take]
          exact Nat.lt_of_le_of_lt (Nat.min_le_right ..) (Nat.lt_of_le_of_lt (by rw [← hl]; exact hz) (by decide))
        · rw [upd_same, List.take_add_one, show (TL.tl z)[i]? = some c from hi, List.map_append, digits_are c]
          rfl
      · rintro M ⟨sM, hM⟩
        rw [show z.cps.toList = TL.tl z from rfl, List.take_length] at hM
        refine ⟨D, (TL.tl z).map isDig, rfl, SqL.of (by rw [hM, List.map_map]; rfl), ?_⟩
        have ea : ((TL.tl z).map isDig).all id = (TL.tl z).all isDig := by
          rw [List.all_map]
          rfl
        rw [ea]
        have kM := k M sM
        unfold isNumL at kM
        rw [decide_eq_true hne, Bool.true_and] at kM
        cases ed : (TL.tl z).all isDig with
        | false =>
          rw [ed] at kM
          exact kM
        | true =>
          rw [ed, Bool.true_and] at kM
          have e1 : decide (z = Str.ofString "0") = decide (TL.tl z = [48]) := dec_tl z "0" [48] (by decide +kernel)
          refine ⟨_, rfl, ?_⟩
          rw [e1]
          cases e2 : decide (TL.tl z = [48]) with
          | true =>
            rw [e2] at kM
            refine iteT ?_
            exact kM
          | false =>
            rw [e2, Bool.false_or] at kM
            refine iteF ?_
            cases e3 : TL.tl z with
            | nil => exact absurd e3 hne
            | cons c r =>
              rw [e3] at kM
              refine ⟨z, 0, c, rfl, rfl, Nat.le_trans hz (by decide), ?_, ?_⟩
              · show atI (TL.tl z) 0 = some c
                rw [e3]
                simp [atI, ixN]
              · have e4 : decide ((⟨#[c]⟩ : Str) = Str.ofString "0") = decide ((c :: r).head? = some 48) := by
                  rw [dec_tl _ "0" [48] (by decide +kernel)]
                  have : (TL.tl (⟨#[c]⟩ : Str) = [48]) ↔ ((c :: r).head? = some 48) := by
                    show [c] = [48] ↔ some c = some 48
                    simp
                  by_cases q : c = 48
                  · subst q
                    rfl
                  · rw [decide_eq_false (fun z => q (by simpa using this.mp z)), decide_eq_false (fun z => q (by simpa using z))]
                show Q (.bl (!decide ((⟨#[c]⟩ : Str) = Str.ofString "0"))) M
                rw [e4]
                exact kM
  next => exact h.elim
theorem len_is_number (K : PySem.W.Frag) (a : Ad) : ∀ vs H Q E, sp_is_number K a vs H Q E → vs.length = 1 := by
  intro vs H Q E h
  unfold sp_is_number at h
  split at h <;> first | rfl | exact h.elim
theorem does_is_number (T : Txt K mg a) : Does P w K mg base CX0 1 a.f_is_number ["word"] (sp_is_number K a) := by
  obtain ⟨fd, F⟩ := T.d_is_number
  refine does0 F sc_is_number (fun _ _ _ _ _ _ us hl => match us, hl with | [_], _ => rfl) (len_is_number K a) (t_is_number K a) (fun cdv A out s H E hr => ?_) (pure_is_number T)
  exact (pss_cons (ps_if (PW.pt (pw_or (pt_c (op_uEq (by have := hr.units; exact this) opNo) (vm 0) pe_str (nomark _)) (pw_or1 (pt_not (pt_u (pe_callB (cr_all rfl) rfl T.b_all (by decide +kernel) (pa_cons (pe_lc (own := [("digit", 1)]) (g := (gName 1)) (tt := tYes) rfl sc_is_number.nd (pi_str (vm 0)) (blkOk_by (N := ["word", "digit"]) (sc := defScope s_is_number) (by decide +kernel)) (fun _ _ _ _ _ => (pg_name (i := 1) sc_is_number.nd rfl (Or.inl rfl))) (fun _ _ _ _ _ => pts_nil) (fun _ _ _ _ _ => (pe_cmpR (op_uIn opNo) (vm 1) (let ⟨t, ht⟩ := T.k_DIGITS; pe_glob rfl ht ⟨t, rfl⟩) (by with_unfolding_all rfl)))) pa_nil))))))) (pss_one (ps_ret pe_bl)) pss_nil) (pss_one (ps_ret (pe_or (pe_cmpR (op_uEq (by have := hr.units; exact this) opNo) (vm 0) pe_str (nomark _)) (pe_one (pe_cmpR (op_uNe (by have := hr.units; exact this) opNo) (pe_ix ix_u (vm 0) pe_int (fun _ _ => rfl)) pe_str (nomark _)))))))
def t_is_positive_text (K : PySem.W.Frag) (a : Ad) : TS := (tSeq (tAsg (tM1 rSplit1 (vM 0) (tC (.str "/"))) (gName 1)) (tSeq (tIfS (tOr (tNot (tTr K (tCB (rAll K) (tCons (tLc (iList K (vM 1)) (gName 2) tYes (tF (sp_is_number K a) (fun _ => E0) (tCons (vM 2) tNil)) [2]) tNil)))) (tyes (tOp uGt (tCB (uLen K) (tCons (vM 1) tNil)) (tC (.int 2))))) (tRet (tC (.bl false))) tNext) (tSeq (tIfS (tyes (tOp (uEq K noOp) (tCB (uLen K) (tCons (vM 1) tNil)) (tC (.int 1)))) (tRet (tC (.bl true))) tNext) (tRet (tAndV (tOp uGt (tCB uIntL (tCons (tOp (uIx K) (vM 1) (tC (.int 1))) tNil)) (tC (.int 1))) (tOp (uEq K noOp) (tF (sp_common_divisor K a) (fun _ => E0) (tCons (tCB uIntL (tCons (tOp (uIx K) (vM 1) (tC (.int 0))) tNil)) (tCons (tCB uIntL (tCons (tOp (uIx K) (vM 1) (tC (.int 1))) tNil)) tNil))) (tC (.int 1))))))))
theorem pure_is_positive_text (T : Txt K mg a) : ∀ vs H Q E, sp_is_positive_text K a vs H Q E → t_is_positive_text K a { nx := fun _ H' => Q .non H', rt := Q } (start ["text", "words", "word"] vs) H := by
  intro vs H Q E h
  unfold sp_is_positive_text at h
  split at h
  next z =>
    obtain ⟨hz, hw, hwl, hint, k⟩ := h
    generalize hws : Txt.split z (Str.ofString "/") = ws at hw hwl hint k
    refine ⟨⟨_, rfl⟩, z, _, rfl, rfl, by decide +kernel, Nat.le_trans (Nat.add_le_add_right hz 2) (by decide), fun l hl => ?_⟩
    have s1 : Same H (upd H l (.lst (ws.map V.str))) := same_new hl
    have g1 := upd_same (H := H) (a := l) (o := .lst (ws.map V.str))
    rw [hws]
    generalize upd H l (.lst (ws.map V.str)) = H1 at s1 g1
    refine ⟨l, rfl, ⟨_, SqL.of g1⟩, fun D hD => ?_⟩
    refine lc_list (K := K) (a := l) (xs := ws.map V.str) (fun i M => Same H1 M ∧ M D = some (.lst ((ws.take i).map fun w => V.bl (isNumL (TL.tl w))))) ⟨same_new hD, upd_same⟩ (fun i M _ ⟨sM, _⟩ => SqL.of (sM _ _ g1)) ?_ ?_
    · rintro i v M hi ⟨sM, hM⟩
      rw [List.getElem?_map] at hi
      cases ew : ws[i]? with
      | none => rw [ew] at hi; cases hi
      | some w =>
        rw [ew] at hi
        cases hi
        refine ⟨rfl, ?_⟩
        refine ⟨hwl w (List.mem_of_getElem? ew), fun G sG => ?_⟩
        refine ⟨_, sG _ _ hM, ?_, keepU hD (sM.trans sG), ?_⟩
        · rw [List.length_map, List.length_take]
          exact Nat.lt_of_le_of_lt (Nat.min_le_right ..) (Nat.lt_of_le_of_lt hw (by decide))
        · rw [upd_same, List.take_add_one, ew, List.map_append]
          rfl
    · rintro M ⟨sM, hM⟩
      rw [List.length_map, List.take_length] at hM
      refine ⟨D, ws.map (fun w => isNumL (TL.tl w)), rfl, SqL.of (by rw [hM, List.map_map]; rfl), ?_⟩
      have ea : (ws.map (fun w => isNumL (TL.tl w))).all id = ws.all (fun w => isNumL (TL.tl w)) := by
        rw [List.all_map]
        rfl
      rw [ea]
      have kM := k M (s1.trans sM)
      have gM := sM _ _ g1
      unfold isPos at kM
      cases eb : ws.all (fun w => isNumL (TL.tl w)) with
      | false =>
        rw [eb] at kM
        exact kM
      | true =>
        rw [eb, Bool.true_and] at kM
        have hint := hint eb
        refine ⟨.ref l, _, rfl, .inl ⟨_, SqL.of gM, rfl⟩, ?_⟩
        rw [List.length_map]
        refine ite2 (fun hc => ?_) (fun hc => ?_)
        · have hc : 2 < (ws.length : Int) := of_decide_eq_true hc
          have e : posW ws = false := by
            unfold posW
            split
            · simp at hc
            · simp at hc
            · rfl
          rw [e] at kM
          exact kM
        · have hc : ¬ 2 < (ws.length : Int) := fun q => hc (decide_eq_true q)
          refine ⟨.ref l, _, rfl, .inl ⟨_, SqL.of gM, rfl⟩, ?_⟩
          rw [List.length_map]
          refine ite2 (fun hc1 => ?_) (fun hc1 => ?_)
          · have hc1 : (ws.length : Int) = 1 := of_decide_eq_true hc1
            have e : posW ws = true := by
              match ws, hc1 with
              | [w], _ => rfl
            rw [e] at kM
            exact kM
          · have hc1 : ¬ (ws.length : Int) = 1 := fun q => hc1 (decide_eq_true q)
            match ws, hws, hint, eb, hc, hc1, kM, gM with
            | [], hws, _, _, _, _, _, _ =>
              have := TL.split_spl z (Str.ofString "/") (by rw [slash]; simp) (TL.kind_ok (by decide +kernel))
              rw [hws] at this
              exact absurd this.symm (spl_ne _ _ _ _)
            | [u, v], hws, hint, eb, _, _, kM, gM =>
              have hu := hint rfl u (by simp)
              have hv := hint rfl v (by simp)
              simp only [List.all_cons, List.all_nil, Bool.and_true, Bool.and_eq_true] at eb
              have iu := int_of eb.1 hu
              have iv := int_of eb.2 hv
              refine ⟨_, _, .inl (SqL.of gM), rfl, _, _, rfl, iv, Nat.le_trans hv (by decide), ?_⟩
              refine ⟨_, rfl, ?_⟩
              have kM : Q (.bl (decide (1 < (NumText.digitsVal (TL.tl v) : Int)) && decide ((Int.gcd (NumText.digitsVal (TL.tl u) : Int) (NumText.digitsVal (TL.tl v) : Int) : Int) = 1))) M := kM
              cases e1 : decide (1 < (NumText.digitsVal (TL.tl v) : Int)) with
              | false =>
                rw [e1, Bool.false_and] at kM
                refine iteF ?_
                exact kM
              | true =>
                rw [e1, Bool.true_and] at kM
                refine iteT ?_
                refine ⟨_, _, .inl (SqL.of gM), rfl, _, _, rfl, iu, Nat.le_trans hu (by decide), ?_⟩
                refine ⟨_, _, .inl (SqL.of gM), rfl, _, _, rfl, iv, Nat.le_trans hv (by decide), ?_⟩
                exact kM
            | u :: v :: w :: r, _, _, _, hc, _, _, _ => exact absurd (by simp only [List.length_cons]; omega) hc
  next => exact h.elim
theorem len_is_positive_text (K : PySem.W.Frag) (a : Ad) : ∀ vs H Q E, sp_is_positive_text K a vs H Q E → vs.length = 1 := by
  intro vs H Q E h
  unfold sp_is_positive_text at h
  split at h <;> first | rfl | exact h.elim
theorem does_is_positive_text (T : Txt K mg a) : Does P w K mg base CX0 2 a.f_is_positive_text ["text"] (sp_is_positive_text K a) := by
  obtain ⟨fd, F⟩ := T.d_is_positive_text
  refine does0 F sc_is_positive_text (fun _ _ _ _ _ _ us hl => match us, hl with | [_], _ => rfl) (len_is_positive_text K a) (t_is_positive_text K a) (fun cdv A out s H E hr => ?_) (pure_is_positive_text T)
  exact (pss_cons (ps_set (i := 1) sc_is_positive_text.nd rfl (Or.inl rfl) (pe_split1 (vm 0) pe_str)) (pss_cons (ps_if (PW.pt (pw_or (pt_not (pt_u (pe_callB (cr_all rfl) rfl T.b_all (by decide +kernel) (pa_cons (pe_lc (own := [("word", 2)]) (g := (gName 2)) (tt := tYes) rfl sc_is_positive_text.nd (pi_list (vm 1)) (blkOk_by (N := ["text", "words", "word"]) (sc := defScope s_is_positive_text) (by decide +kernel)) (fun _ _ _ _ _ => (pg_name (i := 2) sc_is_positive_text.nd rfl (Or.inl rfl))) (fun _ _ _ _ _ => pts_nil) (fun _ _ _ _ _ => (pe_f (does_is_number T) T.g_is_number (hr.mono (by decide)) pN0 (pa_cons (vm 2) pa_nil)))) pa_nil)))) (pw_or1 (pt_c op_uGt (pe_callB call_uLen rfl T.b_len (by decide +kernel) (pa_cons (vm 1) pa_nil)) pe_int (nomark _))))) (pss_one (ps_ret pe_bl)) pss_nil) (pss_cons (ps_if (pt_c (op_uEq (by have := hr.units; exact this) opNo) (pe_callB call_uLen rfl T.b_len (by decide +kernel) (pa_cons (vm 1) pa_nil)) pe_int (nomark _)) (pss_one (ps_ret pe_bl)) pss_nil) (pss_one (ps_ret (pe_and (pe_cmpR op_uGt (pe_callTy (call_uIntL T.nd) rfl T.b_int (by decide +kernel) (pa_cons (pe_ix ix_u (vm 1) pe_int (fun _ _ => rfl)) pa_nil)) pe_int (nomark _)) (pe_one (pe_cmpR (op_uEq (by have := hr.units; exact this) opNo) (pe_f (does_common_divisor T) T.g_common_divisor (hr.mono (by decide)) pN0 (pa_cons (pe_callTy (call_uIntL T.nd) rfl T.b_int (by decide +kernel) (pa_cons (pe_ix ix_u (vm 1) pe_int (fun _ _ => rfl)) pa_nil)) (pa_cons (pe_callTy (call_uIntL T.nd) rfl T.b_int (by decide +kernel) (pa_cons (pe_ix ix_u (vm 1) pe_int (fun _ _ => rfl)) pa_nil)) pa_nil))) pe_int (nomark _)))))))))
end
end FP
namespace FP
open PySem PySem.Spec PyProof.Rows L2
section
variable {P : Program} {w : World} {K : PySem.W.Frag} {mg : Str → Option Value} {base : Heap} {a : Ad}

def t_Ratio___init (K : PySem.W.Frag) (a : Ad) (E : XK) : TS := (tSeq (tIfS (tyes (tOp (uEq K noOp) (vM 2) (tC (.int 0)))) (tRaise0 a.ZeroDenominator (wOf E)) tNext) (tSeq (tAsg (tF (sp_common_divisor K a) (fun _ => E0) (tCons (vM 1) (tCons (vM 2) tNil))) (gName 3)) (tMid (tIfS (tyes (tOp uLt (vM 2) (tC (.int 0)))) (tAsg (tUn (uNeg fun _ _ _ => False) (vM 3)) (gName 3)) tNext) (tSeq (sFld K (vM 0) (tOp uQuo (vM 1) (vM 3)) "top") (sFld K (vM 0) (tOp uQuo (vM 2) (vM 3)) "bottom")))))
theorem pure_Ratio___init (T : Txt K mg a) : ∀ vs H Q E, sp_Ratio___init K a vs H Q E → t_Ratio___init K a E { nx := fun _ H' => Q .non H', rt := Q } (start ["self", "top", "bottom", "divisor"] vs) H := by
  intro vs H Q E h
  unfold sp_Ratio___init at h
  split at h
  next x t b =>
    obtain ⟨dx, hx, hb, h1, h2⟩ := h
    refine ite2 (fun hc => ?_) (fun hc => ?_)
    · exact h2 (of_decide_eq_true hc)
    · have hc : b ≠ 0 := fun z => hc (decide_eq_true z)
      have dn := FM.dvs_ne (t := t) hc
      have ds := FM.dvs_small (t := t) hc
      refine ⟨fun τ G => G = H ∧ τ = [some (.ref x), some (.int t), some (.int b), some (.int (FM.dvs t b))], ?_, ?_⟩
      · refine ite2 (fun hn => ?_) (fun hn => ?_)
        · have hn := of_decide_eq_true hn
          have e : FM.dvs t b = -(Int.gcd t b : Int) := if_pos hn
          rw [e]
          exact ⟨rfl, rfl⟩
        · have hn : ¬ b < 0 := fun z => hn (decide_eq_true z)
          have e : FM.dvs t b = (Int.gcd t b : Int) := if_neg hn
          rw [e]
          exact ⟨rfl, rfl⟩
      · rintro τ G ⟨rfl, rfl⟩
        refine ⟨⟨dn, by omega⟩, x, a.Ratio, dx, [], rfl, hx, T.c_Ratio.cl, T.n_Ratio_top, by decide, ?_⟩
        refine ⟨⟨dn, by omega⟩, x, a.Ratio, dx, _, rfl, upd_same, T.c_Ratio.cl, T.n_Ratio_bottom, by show 1 < 1000; decide, ?_⟩
        rw [upd_upd, FM.num_eq hc, FM.den_eq hc]
        exact h1 hc
  next => exact h.elim
theorem len_Ratio___init (K : PySem.W.Frag) (a : Ad) : ∀ vs H Q E, sp_Ratio___init K a vs H Q E → vs.length = 3 := by
  intro vs H Q E h
  unfold sp_Ratio___init at h
  split at h <;> first | rfl | exact h.elim
theorem does_Ratio___init (T : Txt K mg a) : Does P w K mg base (L2.CX P w) 2 a.f_Ratio___init ["self", "top", "bottom"] (sp_Ratio___init K a) := by
  obtain ⟨fd, F⟩ := T.d_Ratio___init
  refine doesX F sc_Ratio___init (fun _ _ _ _ _ _ us hl => match us, hl with | [_, _, _], _ => rfl) (len_Ratio___init K a) (t_Ratio___init K a) (fun cdv A out s H E hr => ?_) (pure_Ratio___init T)
  exact (pss_cons (ps_if (pt_c (op_uEq (by have := hr.units; exact this) opNo) (vm 2) pe_int (nomark _)) (pss_one (ps_raise0 rfl (takes_of rfl rfl rfl rfl) T.x_ZeroDenominator T.g_ZeroDenominator)) pss_nil) (pss_cons (ps_set (i := 3) sc_Ratio___init.nd rfl (Or.inl rfl) (pe_f (does_common_divisor T) T.g_common_divisor (hr.mono (by decide)) pN0 (pa_cons (vm 1) (pa_cons (vm 2) pa_nil)))) (pss_mid (ps_if (pt_c op_uLt (vm 2) pe_int (nomark _)) (pss_one (ps_set (i := 3) sc_Ratio___init.nd rfl (Or.inl rfl) (pe_un (un_uNeg un_no) (vm 3)))) pss_nil) (pss_cons (ps_fld (vm 0) (pe_op op_uQuo (vm 1) (vm 3)) rfl) (pss_one (ps_fld (vm 0) (pe_op op_uQuo (vm 2) (vm 3)) rfl))))))
def t_Ratio_parse (K : PySem.W.Frag) (a : Ad) (E : XK) : TS := (tMid (tAsg (tIf (tAnd (tyes (tOp (uEq K noOp) (tSl rSlS (vM 1) tNoPart (tPart (tC (.int 1)))) (tC (.str "-")))) (tyes (tOp (uNe K noOp) (vM 1) (tC (.str "-0"))))) (tSl rSlS (vM 1) (tPart (tC (.int 1))) tNoPart) (vM 1)) (gName 2)) (tSeq (tIfS (tNot (tTr K (tF (sp_is_positive_text K a) (fun _ => E0) (tCons (vM 2) tNil)))) (tRaiseO a.InvalidText (sp_InvalidText___init K a) (wOf E) (tCons (tC (.int 0)) tNil)) tNext) (tSeq (tAsg (tM1 rSplit1 (vM 2) (tC (.str "/"))) (gName 3)) (tSeq (tAsg (tIf (tyes (tOp (uEq K noOp) (vM 2) (vM 1))) (tC (.int 1)) (tUn (uNeg fun _ _ _ => False) (tC (.int 1)))) (gName 4)) (tRet (tKV 0 a.Ratio (sp_Ratio___init K a) (WE (wOf E)) (tCons (tOp (uMul noOp) (vM 4) (tCB uIntL (tCons (tOp (uIx K) (vM 3) (tC (.int 0))) tNil))) (tCons (tIf (tyes (tOp (uEq K noOp) (tCB (uLen K) (tCons (vM 3) tNil)) (tC (.int 2)))) (tCB uIntL (tCons (tOp (uIx K) (vM 3) (tC (.int 1))) tNil)) (tC (.int 1))) tNil))))))))
theorem pure_Ratio_parse (T : Txt K mg a) : ∀ vs H Q E, sp_Ratio_parse K a vs H Q E → t_Ratio_parse K a E { nx := fun _ H' => Q .non H', rt := Q } (start ["cls", "text", "digits", "words", "sign"] vs) H := by
  intro vs H Q E h
  unfold sp_Ratio_parse at h
  split at h
  next C z =>
    obtain ⟨rfl, zl, kOk, kNo⟩ := h
    have zs : z.length ≤ sizeLine := Nat.le_trans zl (by decide)
    refine ⟨fun τ G => G = H ∧ τ = [some (.ref a.Ratio), some (.str z), some (.str (digT z)), none, none], ?_, ?_⟩
    · refine ⟨1, rfl, z, rfl, zs, ?_⟩
      have e1 : decide (cutS z none (some 1) = Str.ofString "-") = decide ((TL.tl z).take 1 = [45]) := by
        rw [dec_tl _ "-" [45] (by decide +kernel), cut_to1]
      show (if decide (cutS z none (some 1) = Str.ofString "-") = true then _ else _)
      rw [e1]
      by_cases c1 : (TL.tl z).take 1 = [45]
      · rw [decide_eq_true c1]
        refine iteT ?_
        show (if (!decide (z = Str.ofString "-0")) = true then _ else _)
        by_cases c2 : z = Str.ofString "-0"
        · rw [decide_eq_true c2]
          refine iteF ?_
          have e : digT z = z := if_neg fun q => q.2 c2
          rw [e]
          exact ⟨rfl, rfl⟩
        · rw [decide_eq_false c2]
          refine iteT ?_
          refine ⟨1, rfl, z, rfl, zs, ?_⟩
          have e : digT z = cutS z (some 1) none := if_pos ⟨c1, c2⟩
          rw [e]
          exact ⟨rfl, rfl⟩
      · rw [decide_eq_false c1]
        refine iteF ?_
        have e : digT z = z := if_neg fun q => c1 q.1
        rw [e]
        exact ⟨rfl, rfl⟩
    rintro τ G ⟨rfl, rfl⟩
    have dl := dig_len z
    obtain ⟨sz1, sz2⟩ := split_sizes (digT z)
    refine ⟨by omega, by omega, fun w hw => Nat.le_trans (sz2 w hw) (by omega), fun _ _ w hw => Nat.le_trans (sz2 w hw) (by omega), fun G1 s1 => ?_⟩
    have eo : isPos (Txt.split (digT z) (Str.ofString "/")) = okT z := rfl
    rw [eo]
    cases eb : okT z with
    | false =>
      have kNo := kNo eb
      refine ⟨by decide, fun e he => ⟨upd_same, fun dx h1 h2 => ⟨rfl, dx, [("row", .int 0)], upd_same, ?_, ?_, ?_⟩⟩⟩
      · rw [upd_ne h2, upd_same]
      · rw [upd_ne h2] at h1
        exact h1
      · rw [upd_ne h2] at h1
        refine kNo dx _ (fun b o eb => ?_) upd_same
        have g := s1 _ _ eb
        have nb : b ≠ e := fun q => by rw [q, he] at g; cases g
        have nd : b ≠ dx := fun q => by rw [q, h1] at g; cases g
        rw [upd_ne nd, del_ne nb, upd_ne nb, upd_ne nd, upd_ne nb]
        exact g
    | true =>
      have kOk := kOk eb
      obtain ⟨n, d, hD, hd, hg, hw⟩ := words_of (D := digT z) eb
      have back := txt_back hD hd hg
      refine ⟨⟨_, rfl⟩, digT z, _, rfl, rfl, by decide +kernel, Nat.le_trans (Nat.add_le_add_right (Nat.le_trans dl zl) 2) (by decide), fun l hl => ?_⟩
      generalize hws : Txt.split (digT z) (Str.ofString "/") = ws at hw sz2
      have g1 := upd_same (H := G1) (a := l) (o := .lst (ws.map V.str))
      have s2 : Same G1 (upd G1 l (.lst (ws.map V.str))) := same_new hl
      generalize upd G1 l (.lst (ws.map V.str)) = G2 at s2 g1
      have hn : n < 10 ^ 2500 ∧ d < 10 ^ 2500 := by
        rcases hw with ⟨rfl, w, e, c1, c2⟩ | ⟨h2, u, v, e, c1, c2, c3, c4⟩
        · have := sz2 w (by rw [e]; simp)
          have v1 := val_lt c1
          rw [c2, ← TL.len_tl] at v1
          exact ⟨Nat.lt_of_lt_of_le v1 (Nat.pow_le_pow_right (by decide) (by omega)), (by decide +kernel : 1 < 10 ^ 2500)⟩
        · have b1 := sz2 u (by rw [e]; simp)
          have b2 := sz2 v (by rw [e]; simp)
          have v1 := val_lt c1
          have v2 := val_lt c2
          rw [c3, ← TL.len_tl] at v1
          rw [c4, ← TL.len_tl] at v2
          exact ⟨Nat.lt_of_lt_of_le v1 (Nat.pow_le_pow_right (by decide) (by omega)), Nat.lt_of_lt_of_le v2 (Nat.pow_le_pow_right (by decide) (by omega))⟩
      have ld : (d : Int).natAbs.log2 < 8999 := FM.lg (by decide) (Nat.lt_of_lt_of_le hn.2 big1)
      have ln : (n : Int).natAbs.log2 < 8999 := FM.lg (by decide) (Nat.lt_of_lt_of_le hn.1 big1)
      have rest : ∀ sg : Int, sg = (if decide (digT z = z) = true then 1 else -1) → tRet (tKV 0 a.Ratio (sp_Ratio___init K a) (WE (wOf E)) (tCons (tOp (uMul noOp) (vM 4) (tCB uIntL (tCons (tOp (uIx K) (vM 3) (tC (.int 0))) tNil))) (tCons (tIf (tyes (tOp (uEq K noOp) (tCB (uLen K) (tCons (vM 3) tNil)) (tC (.int 2)))) (tCB uIntL (tCons (tOp (uIx K) (vM 3) (tC (.int 1))) tNil)) (tC (.int 1))) tNil)))
          { nx := fun _ H' => Q .non H', rt := Q } [some (.ref a.Ratio), some (.str z), some (.str (digT z)), some (.ref l), some (.int sg)] G2 := by
        intro sg hsg
        have ls : sg.natAbs.log2 < 8999 := by
          rw [hsg]
          split <;> decide
        have hs1 : sg = 1 ∨ sg = -1 := by
          rw [hsg]
          split <;> simp
        rw [← hsg] at back
        obtain ⟨e1, e2⟩ := low_nat hd hg sg hs1
        have sd : Sd (Rat.divInt (sg * n) d) := by
          refine ⟨?_, ?_⟩
          · rw [e1]
            have : (sg * (n : Int)).natAbs = n := by rcases hs1 with e | e <;> rw [e] <;> omega
            rw [this]
            exact Nat.lt_of_lt_of_le hn.1 big2
          · rw [e2]
            exact Nat.lt_of_lt_of_le hn.2 big2
        have fin : ∀ x dx : Addr, G2 x = none → G2 dx = none → dx ≠ x → sp_Ratio___init K a [.ref x, .int (sg * (n : Int)), .int (d : Int)] (upd (upd G2 dx (.own x)) x (.ins a.Ratio dx [])) (fun v H2 => v = .non ∧ Q (.ref x) H2) (WE (wOf E) [some (.ref a.Ratio), some (.str z), some (.str (digT z)), some (.ref l), some (.int sg)]) := by
          intro x dx n1 n2 n3
          refine use_make1 n1 n2 n3 (by omega) (by omega) fun G3 s3 r3 => ?_
          exact kOk _ x G3 back sd ((s1.trans s2).free n1) ((s1.trans s2).trans s3) r3
        rcases hw with ⟨rfl, w, e, c1, c2⟩ | ⟨h2, u, v, e, c1, c2, c3, c4⟩
        · have i0 := int_of c1 (Nat.le_trans (sz2 w (by rw [e]; simp)) (by omega))
          rw [c2] at i0
          have lw := sz2 w (by rw [e]; simp)
          rw [e] at g1
          refine ⟨rfl, _, _, .inl (SqL.of g1), rfl, _, _, rfl, i0, Nat.le_trans lw (by omega), szI (k := 9000) (by omega) (by omega), ?_⟩
          refine ⟨.ref l, _, rfl, .inl ⟨_, SqL.of g1, rfl⟩, ?_⟩
          simp only [tC]
          refine eqI ?_
          refine ite2 (fun hc => ?_) (fun hc => ?_)
          · have hc : ((1 : Nat) : Int) = 2 := of_decide_eq_true hc
            omega
          exact fin
        · have i0 := int_of c1 (Nat.le_trans (sz2 u (by rw [e]; simp)) (by omega))
          have i1 := int_of c2 (Nat.le_trans (sz2 v (by rw [e]; simp)) (by omega))
          rw [c3] at i0
          rw [c4] at i1
          have lu := sz2 u (by rw [e]; simp)
          have lv := sz2 v (by rw [e]; simp)
          rw [e] at g1
          refine ⟨rfl, _, _, .inl (SqL.of g1), rfl, _, _, rfl, i0, Nat.le_trans lu (by omega), szI (k := 9000) (by omega) (by omega), ?_⟩
          refine ⟨.ref l, _, rfl, .inl ⟨_, SqL.of g1, rfl⟩, ?_⟩
          simp only [tC]
          refine eqI ?_
          refine ite2 (fun hc => ?_) (fun hc => ?_)
          · refine ⟨_, _, .inl (SqL.of g1), rfl, _, _, rfl, i1, Nat.le_trans lv (by omega), ?_⟩
            exact fin
          · exact absurd (decide_eq_true (rfl : ((2 : Nat) : Int) = 2)) hc
      show (if decide (digT z = z) = true then _ else _)
      cases es : decide (digT z = z) with
      | true =>
        refine iteT ?_
        exact rest 1 (by rw [es]; rfl)
      | false =>
        refine iteF ?_
        exact rest (-1) (by rw [es]; rfl)
  next => exact h.elim
theorem len_Ratio_parse (K : PySem.W.Frag) (a : Ad) : ∀ vs H Q E, sp_Ratio_parse K a vs H Q E → vs.length = 2 := by
  intro vs H Q E h
  unfold sp_Ratio_parse at h
  split at h <;> first | rfl | exact h.elim
theorem does_Ratio_parse (T : Txt K mg a) : Does P w K mg base (L2.CX P w) 4 a.f_Ratio_parse ["cls", "text"] (sp_Ratio_parse K a) := by
  obtain ⟨fd, F⟩ := T.d_Ratio_parse
  refine doesX F sc_Ratio_parse (fun _ _ _ _ _ _ us hl => match us, hl with | [_, _], _ => rfl) (len_Ratio_parse K a) (t_Ratio_parse K a) (fun cdv A out s H E hr => ?_) (pure_Ratio_parse T)
  exact (pss_mid (ps_set (i := 2) sc_Ratio_parse.nd rfl (Or.inl rfl) (pe_ifExp (PW.pt (pw_and (pt_c (op_uEq (by have := hr.units; exact this) opNo) (pe_slice sl_str (vm 1) po_none (po_some pe_int)) pe_str (nomark _)) (pw_and1 (pt_c (op_uNe (by have := hr.units; exact this) opNo) (vm 1) pe_str (nomark _))))) (pe_slice sl_str (vm 1) (po_some pe_int) po_none) (vm 1))) (pss_cons (ps_if (pt_not (pt_u (pe_f (does_is_positive_text T) T.g_is_positive_text (hr.mono (by decide)) pN0 (pa_cons (vm 2) pa_nil)))) (pss_one (ps_raiseO (does_InvalidText___init T) rfl (takes_of rfl rfl rfl rfl) T.ox_InvalidText T.m_InvalidText___init T.tf_InvalidText___init T.g_InvalidText (hr.mono (by decide)) (pa_cons pe_int pa_nil))) pss_nil) (pss_cons (ps_set (i := 3) sc_Ratio_parse.nd rfl (Or.inl rfl) (pe_split1 (vm 2) pe_str)) (pss_cons (ps_set (i := 4) sc_Ratio_parse.nd rfl (Or.inl rfl) (pe_ifExp (pt_c (op_uEq (by have := hr.units; exact this) opNo) (vm 2) (vm 1) (nomark _)) pe_int (pe_un (un_uNeg un_no) pe_int))) (pss_one (ps_ret (pe_kv (i := 0) (does_Ratio___init T) (T.c_Ratio.mk_ T.m_Ratio___init) (hr.mono (by decide)) (pTk (takes_of rfl rfl rfl rfl)) (pa_cons (pe_op (op_uMul opNo) (vm 4) (pe_callTy (call_uIntL T.nd) rfl T.b_int (by decide +kernel) (pa_cons (pe_ix ix_u (vm 3) pe_int (fun _ _ => rfl)) pa_nil))) (pa_cons (pe_ifExp (pt_c (op_uEq (by have := hr.units; exact this) opNo) (pe_callB call_uLen rfl T.b_len (by decide +kernel) (pa_cons (vm 3) pa_nil)) pe_int (nomark _)) (pe_callTy (call_uIntL T.nd) rfl T.b_int (by decide +kernel) (pa_cons (pe_ix ix_u (vm 3) pe_int (fun _ _ => rfl)) pa_nil)) pe_int) pa_nil)))))))))
def t_Ratio___str (K : PySem.W.Frag) (a : Ad) : TS := (tSeq (tIfS (tyes (tOp (uEq K noOp) (tFld K (vM 0) "bottom") (tC (.int 1)))) (tRet (tFmtL (tFld K (vM 0) "top"))) tNext) (tRet (fun σ H Q => tJs [(tFmtL (tFld K (vM 0) "top")), (tC (.str "/")), (tFmtL (tFld K (vM 0) "bottom"))] Str.empty σ H fun out H1 => Q (.str out) H1)))
theorem pure_Ratio___str (T : Txt K mg a) : ∀ vs H Q E, sp_Ratio___str K a vs H Q E → t_Ratio___str K a { nx := fun _ H' => Q .non H', rt := Q } (start ["self"] vs) H := by
  intro vs H Q E h
  unfold sp_Ratio___str at h
  split at h
  next p =>
    obtain ⟨q, ⟨dx, hp⟩, ⟨l1, l2⟩, k⟩ := h
    have l2 : ((q.den : Int)).natAbs < 10 ^ 4300 := l2
    have b1 := big_len l1
    have b2 := big_len l2
    have sz : sizeLine = 16777216 := rfl
    refine ⟨p, a.Ratio, dx, _, _, rfl, hp, T.c_Ratio.cl, T.n_Ratio_bottom, rfl, ?_⟩
    refine ite2 (fun hc => ?_) (fun hc => ?_)
    · have hc : (q.den : Int) = 1 := of_decide_eq_true hc
      have hd : q.den = 1 := by omega
      refine ⟨p, a.Ratio, dx, _, _, rfl, hp, T.c_Ratio.cl, T.n_Ratio_top, rfl, ?_⟩
      refine ⟨_, rfl, l1, ?_⟩
      have e : txt q = Str.ofString (toString q.num) := by rw [txt_eq, if_pos hd]
      rw [← e]
      exact k
    · have hd : q.den ≠ 1 := fun z => hc (decide_eq_true (by rw [z]; rfl))
      refine ⟨p, a.Ratio, dx, _, _, rfl, hp, T.c_Ratio.cl, T.n_Ratio_top, rfl, ?_⟩
      refine ⟨_, rfl, l1, _, rfl, ?_, _, rfl, ?_, ?_⟩
      · rw [nil_append]
        omega
      · rw [nil_append, TL.len_tl, TL.tl_append, List.length_append, ← TL.len_tl, ← TL.len_tl, show (Str.ofString "/").length = 1 by decide +kernel]
        omega
      refine ⟨p, a.Ratio, dx, _, _, rfl, hp, T.c_Ratio.cl, T.n_Ratio_bottom, rfl, ?_⟩
      refine ⟨_, rfl, l2, _, rfl, ?_, ?_⟩
      · rw [nil_append, TL.len_tl, TL.tl_append, TL.tl_append, List.length_append, List.length_append, ← TL.len_tl, ← TL.len_tl, ← TL.len_tl, show (Str.ofString "/").length = 1 by decide +kernel]
        omega
      · have e : txt q = Str.empty ++ Str.ofString (toString q.num) ++ Str.ofString "/" ++ Str.ofString (toString (q.den : Int)) := if_neg hd
        rw [← e]
        exact k
  next => exact h.elim
theorem len_Ratio___str (K : PySem.W.Frag) (a : Ad) : ∀ vs H Q E, sp_Ratio___str K a vs H Q E → vs.length = 1 := by
  intro vs H Q E h
  unfold sp_Ratio___str at h
  split at h <;> first | rfl | exact h.elim
theorem does_Ratio___str (T : Txt K mg a) : Does P w K mg base CX0 1 a.f_Ratio___str ["self"] (sp_Ratio___str K a) := by
  obtain ⟨fd, F⟩ := T.d_Ratio___str
  refine does0 F sc_Ratio___str (fun _ _ _ _ _ _ us hl => match us, hl with | [_], _ => rfl) (len_Ratio___str K a) (t_Ratio___str K a) (fun cdv A out s H E hr => ?_) (pure_Ratio___str T)
  exact (pss_cons (ps_if (pt_c (op_uEq (by have := hr.units; exact this) opNo) (pe_fld (vm 0) rfl) pe_int (nomark _)) (pss_one (ps_ret (pe_joined1 (pe_fmtL T.nd hr (pe_fld (vm 0) rfl))))) pss_nil) (pss_one (ps_ret (pe_joined (.cons (pe_fmtL T.nd hr (pe_fld (vm 0) rfl)) (.cons pe_str (.cons (pe_fmtL T.nd hr (pe_fld (vm 0) rfl)) .nil)))))))
end
end FP
namespace FP
open PySem PySem.Spec PyProof.Rows L2
section
variable {P : Program} {w : World} {K : PySem.W.Frag} {mg : Str → Option Value} {base : Heap} {a : Ad}

def t_law_feed (K : PySem.W.Frag) (a : Ad) : TS := (tSeq (tAsg (tIf (tyes (tOp uLt (vM 1) (tCB (uLen K) (tCons (vM 0) tNil)))) (tOp (uIx K) (vM 0) (vM 1)) (tOp (uAdd K noOp) (tOp (uMul noOp) (tC (.int 83)) (vM 1)) (tC (.int 29)))) (gName 2)) (tSeq (tAsg (tCB uMax (tCons (tC (.int 0)) (tCons (tOp (uSub noOp) (tCB uAbs (tCons (vM 2) tNil)) (tOp uPow (tC (.int 10)) (tC (.int 18)))) tNil))) (gName 3)) (tSeq (tAsg (tOp uMod (tOp (uAdd K noOp) (tOp (uAdd K noOp) (tOp (uMul noOp) (vM 2) (tC (.int 6364136223846793005))) (tOp (uMul noOp) (tC (.int 7919)) (vM 1))) (tC (.int 1442695040888963407))) (tC (.int 2305843009213693951))) (gName 4)) (tRet (tLst (tCons (vM 3) (tCons (vM 4) tNil)))))))
theorem pure_law_feed (T : Txt K mg a) : ∀ vs H Q E, sp_law_feed K a vs H Q E → t_law_feed K a { nx := fun _ H' => Q .non H', rt := Q } (start ["script", "k", "cell", "digits", "state"] vs) H := by
  intro vs H Q E h
  unfold sp_law_feed at h
  split at h
  next p k =>
    obtain ⟨ns, hs, hb, hl, h0, h1, q⟩ := h
    -- from any cell
    have rest : ∀ c : Int, c.natAbs.log2 ≤ 1048576 → tSeq (tAsg (tCB uMax (tCons (tC (.int 0)) (tCons (tOp (uSub noOp) (tCB uAbs (tCons (vM 2) tNil)) (tOp uPow (tC (.int 10)) (tC (.int 18)))) tNil))) (gName 3)) (tSeq (tAsg (tOp uMod (tOp (uAdd K noOp) (tOp (uAdd K noOp) (tOp (uMul noOp) (vM 2) (tC (.int 6364136223846793005))) (tOp (uMul noOp) (tC (.int 7919)) (vM 1))) (tC (.int 1442695040888963407))) (tC (.int 2305843009213693951))) (gName 4)) (tRet (tLst (tCons (vM 3) (tCons (vM 4) tNil)))))
        { nx := fun _ H' => Q .non H', rt := Q } [some (.ref p), some (.int k), some (.int c), none, none] H := by
      intro c hc
      refine ⟨⟨by decide, by decide, by decide⟩, ?_⟩
      refine ⟨?_, ?_, by decide, by show 2 ≤ sizeLine; decide, fun f hf => ?_⟩
      · show c.natAbs.log2 + (6364136223846793005 : Int).natAbs.log2 < 100000000
        have : (6364136223846793005 : Int).natAbs.log2 < 63 := lgi (by decide) (by decide)
        omega
      · show (7919 : Int).natAbs.log2 + k.natAbs.log2 < 100000000
        have h7 : (7919 : Int).natAbs.log2 < 13 := lgi (by decide) (by decide)
        have hk : k.natAbs.log2 < 7 := lgi (by decide) (by omega)
        omega
      · refine q f _ hf (same_new hf) ⟨_, _, upd_same, ?_, Int.emod_nonneg _ (by decide), Int.emod_lt_of_pos _ (by decide)⟩
        split <;> omega
    refine ⟨.ref p, ns.length, rfl, .inl ⟨_, hs, by simp⟩, ?_⟩
    refine ite2 (fun hc => ?_) (fun hc => ?_)
    · have hc := of_decide_eq_true hc
      have hlt : k.toNat < ns.length := by omega
      refine ⟨_, .int ns[k.toNat], .inl hs, ?_, rest _ (hb _ (List.getElem_mem hlt))⟩
      unfold atI ixN
      simp only [List.length_map, if_pos h0, if_pos hc, Option.bind_some, List.getElem?_map, List.getElem?_eq_getElem hlt, Option.map_some]
    · refine ⟨?_, rest _ ?_⟩
      · show (83 : Int).natAbs.log2 + k.natAbs.log2 < 100000000
        have h7 : (83 : Int).natAbs.log2 < 13 := lgi (by decide) (by decide)
        have hk : k.natAbs.log2 < 7 := lgi (by decide) (by omega)
        omega
      · have : (83 * k + 29).natAbs.log2 < 20 := lgi (by decide) (by omega)
        omega
  next => exact h.elim
theorem len_law_feed (K : PySem.W.Frag) (a : Ad) : ∀ vs H Q E, sp_law_feed K a vs H Q E → vs.length = 2 := by
  intro vs H Q E h
  unfold sp_law_feed at h
  split at h <;> first | rfl | exact h.elim
theorem does_law_feed (T : Txt K mg a) : Does P w K mg base CX0 1 a.f_law_feed ["script", "k"] (sp_law_feed K a) := by
  obtain ⟨fd, F⟩ := T.d_law_feed
  refine does0 F sc_law_feed (fun _ _ _ _ _ _ us hl => match us, hl with | [_, _], _ => rfl) (len_law_feed K a) (t_law_feed K a) (fun cdv A out s H E hr => ?_) (pure_law_feed T)
  exact (pss_cons (ps_set (i := 2) sc_law_feed.nd rfl (Or.inl rfl) (pe_ifExp (pt_c op_uLt (vm 1) (pe_callB call_uLen rfl T.b_len (by decide +kernel) (pa_cons (vm 0) pa_nil)) (nomark _)) (pe_ix ix_u (vm 0) (vm 1) (fun _ _ => rfl)) (pe_op (op_uAdd opNo) (pe_op (op_uMul opNo) pe_int (vm 1)) pe_int))) (pss_cons (ps_set (i := 3) sc_law_feed.nd rfl (Or.inl rfl) (pe_callB (call_uMax rfl) rfl T.b_max (by decide +kernel) (pa_cons pe_int (pa_cons (pe_op (op_uSub opNo) (pe_callB call_uAbs rfl T.b_abs (by decide +kernel) (pa_cons (vm 2) pa_nil)) (pe_op op_uPow pe_int pe_int)) pa_nil)))) (pss_cons (ps_set (i := 4) sc_law_feed.nd rfl (Or.inl rfl) (pe_op op_uMod (pe_op (op_uAdd opNo) (pe_op (op_uAdd opNo) (pe_op (op_uMul opNo) (vm 2) pe_int) (pe_op (op_uMul opNo) pe_int (vm 1))) pe_int) pe_int)) (pss_one (ps_ret (pe_lst (pa_cons (vm 3) (pa_cons (vm 4) pa_nil))))))))
def t_law_take (K : PySem.W.Frag) (a : Ad) : TS := (tSeq (tIfS (tyes (tOp uGt (tOp (uIx K) (vM 0) (tC (.int 0))) (tC (.int 0)))) (tSeq (tAsg (tOp uMod (tOp (uIx K) (vM 0) (tC (.int 0))) (vM 1)) (gName 2)) (tSeq (tAsg (tOp uQuo (tOp (uIx K) (vM 0) (tC (.int 0))) (vM 1)) (gSub (vM 0) (tC (.int 0)) rSetL)) (tRet (vM 2)))) tNext) (tSeq (tAsg (tOp uMod (tOp (uAdd K noOp) (tOp (uMul noOp) (tOp (uIx K) (vM 0) (tC (.int 1))) (tC (.int 6364136223846793005))) (tC (.int 1442695040888963407))) (tC (.int 2305843009213693951))) (gSub (vM 0) (tC (.int 1)) rSetL)) (tRet (tOp uMod (tOp uQuo (tOp (uIx K) (vM 0) (tC (.int 1))) (tC (.int 65536))) (vM 1)))))
theorem pure_law_take (T : Txt K mg a) : ∀ vs H Q E, sp_law_take K a vs H Q E → t_law_take K a { nx := fun _ H' => Q .non H', rt := Q } (start ["feed", "many", "digit"] vs) H := by
  intro vs H Q E h
  unfold sp_law_take at h
  split at h
  next f m =>
    obtain ⟨⟨d, s, hf, hd, hs, hs2⟩, hm, hm2, q⟩ := h
    have z0 : ∀ {x y : V}, atI [x, y] 0 = some x := rfl
    have z1 : ∀ {x y : V}, atI [x, y] 1 = some y := rfl
    refine ⟨_, _, .inl (SqL.of hf), z0, ?_⟩
    refine ite2 (fun hc => ?_) (fun hc => ?_)
    · have hc := of_decide_eq_true hc
      refine ⟨_, _, .inl (SqL.of hf), z0, hm, ?_⟩
      refine ⟨_, _, .inl (SqL.of hf), z0, ⟨by omega, hm2⟩, ?_⟩
      refine ⟨f, _, 0, 0, rfl, rfl, hf, rfl, ?_⟩
      refine q _ _ (Int.emod_nonneg _ (by omega)) (Int.emod_lt_of_pos _ hm) But.set ⟨_, _, upd_same, ?_, hs, hs2⟩
      rw [Int.fdiv_eq_ediv_of_nonneg _ (by omega)]
      exact Int.ediv_nonneg hd (by omega)
    · refine ⟨_, _, .inl (SqL.of hf), z1, ?_, by decide, ?_⟩
      · show s.natAbs.log2 + (6364136223846793005 : Int).natAbs.log2 < 100000000
        have h1 : (6364136223846793005 : Int).natAbs.log2 < 63 := lgi (by decide) (by decide)
        have h2 : s.natAbs.log2 < 62 := lgi (by decide) (by omega)
        omega
      refine ⟨f, _, 1, 1, rfl, rfl, hf, rfl, ?_⟩
      refine ⟨_, _, .inl (SqL.of upd_same), z1, ⟨by decide, Nat.lt_of_lt_of_le (lgi (k := 64) (by decide) (by decide)) (by decide)⟩, hm, ?_⟩
      exact q _ _ (Int.emod_nonneg _ (by omega)) (Int.emod_lt_of_pos _ hm) But.set ⟨_, _, upd_same, hd, Int.emod_nonneg _ (by decide), Int.emod_lt_of_pos _ (by decide)⟩
  next => exact h.elim
theorem len_law_take (K : PySem.W.Frag) (a : Ad) : ∀ vs H Q E, sp_law_take K a vs H Q E → vs.length = 2 := by
  intro vs H Q E h
  unfold sp_law_take at h
  split at h <;> first | rfl | exact h.elim
theorem does_law_take (T : Txt K mg a) : Does P w K mg base CX0 1 a.f_law_take ["feed", "many"] (sp_law_take K a) := by
  obtain ⟨fd, F⟩ := T.d_law_take
  refine does0 F sc_law_take (fun _ _ _ _ _ _ us hl => match us, hl with | [_, _], _ => rfl) (len_law_take K a) (t_law_take K a) (fun cdv A out s H E hr => ?_) (pure_law_take T)
  exact (pss_cons (ps_if (pt_c op_uGt (pe_ix ix_u (vm 0) pe_int (fun _ _ => rfl)) pe_int (nomark _)) (pss_cons (ps_set (i := 2) sc_law_take.nd rfl (Or.inl rfl) (pe_op op_uMod (pe_ix ix_u (vm 0) pe_int (fun _ _ => rfl)) (vm 1))) (pss_cons (ps_asg (pe_op op_uQuo (pe_ix ix_u (vm 0) pe_int (fun _ _ => rfl)) (vm 1)) (pg_sub (vm 0) pe_int set_list)) (pss_one (ps_ret (vm 2))))) pss_nil) (pss_cons (ps_asg (pe_op op_uMod (pe_op (op_uAdd opNo) (pe_op (op_uMul opNo) (pe_ix ix_u (vm 0) pe_int (fun _ _ => rfl)) pe_int) pe_int) pe_int) (pg_sub (vm 0) pe_int set_list)) (pss_one (ps_ret (pe_op op_uMod (pe_op op_uQuo (pe_ix ix_u (vm 0) pe_int (fun _ _ => rfl)) pe_int) (vm 1))))))
def t_law_pick (K : PySem.W.Frag) (a : Ad) : TS := (tRet (tOp (uIx K) (vM 1) (tF (sp_law_take K a) (fun _ => E0) (tCons (vM 0) (tCons (tCB (uLen K) (tCons (vM 1) tNil)) tNil)))))
theorem pure_law_pick (T : Txt K mg a) : ∀ vs H Q E, sp_law_pick K a vs H Q E → t_law_pick K a { nx := fun _ H' => Q .non H', rt := Q } (start ["feed", "some"] vs) H := by
  intro vs H Q E h
  unfold sp_law_pick at h
  split at h
  next f l =>
    obtain ⟨xs, hf, hl, hn, hx, hz, q⟩ := h
    have pos : 0 < xs.length := List.length_pos_iff.mpr hx
    refine ⟨_, xs.length, rfl, .inl ⟨xs, SqL.of hl, rfl⟩, hf, by omega, (Nat.lt_of_lt_of_le (lgi (k := 64) (by decide) (by omega)) (by decide)), ?_⟩
    intro k G h0 h1 hb hg
    have hlt : k.toNat < xs.length := by omega
    refine ⟨xs, xs[k.toNat], .inl (SqL.of (hb _ _ hn hl)), ?_, q _ G (List.getElem_mem hlt) hb hg⟩
    unfold atI ixN
    simp only [if_pos h0, if_pos h1, Option.bind_some, List.getElem?_eq_getElem hlt]
  next f z =>
    obtain ⟨hf, pos, hz, q⟩ := h
    refine ⟨_, z.length, rfl, ⟨Nat.le_trans hz (by decide), rfl⟩, hf, by omega, (Nat.lt_of_lt_of_le (lgi (k := 64) (by decide) (by omega)) (by decide)), ?_⟩
    intro k G h0 h1 hb hg
    have hl : z.length = (TL.tl z).length := TL.len_tl z
    have hlt : k.toNat < (TL.tl z).length := by omega
    refine ⟨z, k, (TL.tl z)[k.toNat], rfl, rfl, Nat.le_trans hz (by decide), ?_, q _ G (List.getElem_mem hlt) hb hg⟩
    show atI (TL.tl z) k = _
    unfold atI ixN
    simp only [if_pos h0, if_pos (show k < ((TL.tl z).length : Int) by omega), Option.bind_some, List.getElem?_eq_getElem hlt]
  next => exact h.elim
theorem len_law_pick (K : PySem.W.Frag) (a : Ad) : ∀ vs H Q E, sp_law_pick K a vs H Q E → vs.length = 2 := by
  intro vs H Q E h
  unfold sp_law_pick at h
  split at h <;> first | rfl | exact h.elim
theorem does_law_pick (T : Txt K mg a) : Does P w K mg base CX0 2 a.f_law_pick ["feed", "some"] (sp_law_pick K a) := by
  obtain ⟨fd, F⟩ := T.d_law_pick
  refine does0 F sc_law_pick (fun _ _ _ _ _ _ us hl => match us, hl with | [_, _], _ => rfl) (len_law_pick K a) (t_law_pick K a) (fun cdv A out s H E hr => ?_) (pure_law_pick T)
  exact (pss_one (ps_ret (pe_ix ix_u (vm 1) (pe_f (does_law_take T) T.g_law_take (hr.mono (by decide)) pN0 (pa_cons (vm 0) (pa_cons (pe_callB call_uLen rfl T.b_len (by decide +kernel) (pa_cons (vm 1) pa_nil)) pa_nil))) (fun _ _ => rfl))))
def t_law_integer (K : PySem.W.Frag) (a : Ad) : TS := (tSeq (tAsg (tF (sp_law_pick K a) (fun _ => E0) (tCons (vM 0) (tCons (tLst (tCons (tC (.int 0)) (tCons (tC (.int 1)) (tCons (tC (.int 2)) (tCons (tC (.int 3)) (tCons (tC (.int 6)) (tCons (tC (.int 12)) (tCons (tC (.int 35)) (tCons (tC (.int 360)) (tCons (tOp uPow (tC (.int 10)) (tC (.int 9))) (tCons (tOp (uAdd K noOp) (tOp uPow (tC (.int 10)) (tC (.int 20))) (tC (.int 39))) (tCons (tF (sp_law_take K a) (fun _ => E0) (tCons (vM 0) (tCons (tOp uPow (tC (.int 10)) (tC (.int 12))) tNil))) tNil)))))))))))) tNil))) (gName 1)) (tRet (tOp (uMul noOp) (tF (sp_law_pick K a) (fun _ => E0) (tCons (vM 0) (tCons (tLst (tCons (tC (.int 1)) (tCons (tC (.int 1)) (tCons (tUn (uNeg fun _ _ _ => False) (tC (.int 1))) tNil)))) tNil))) (vM 1))))
theorem pure_law_integer (T : Txt K mg a) : ∀ vs H Q E, sp_law_integer K a vs H Q E → t_law_integer K a { nx := fun _ H' => Q .non H', rt := Q } (start ["feed", "value"] vs) H := by
  intro vs H Q E h
  unfold sp_law_integer at h
  split at h
  next f =>
    obtain ⟨hf, q⟩ := h
    refine ⟨⟨by decide, by decide, by decide⟩, ⟨by decide, by decide, by decide⟩, ⟨by decide, by decide, by decide⟩, ?_⟩
    refine ⟨hf, by decide, Nat.lt_of_lt_of_le (lgi (k := 64) (by decide) (by decide)) (by decide), fun k G h0 h1 hb hg => ?_⟩
    refine ⟨by show 11 ≤ sizeLine; decide, fun l hl => ?_⟩
    have nf : l ≠ f := by
      obtain ⟨d, s, e, _⟩ := hg
      exact Ne.symm (ne_of_none e hl)
    refine ⟨_, hg.mono (same_new hl), upd_same, nf, by simp, by show 11 ≤ 1000; decide, fun v J hv hb2 hj => ?_⟩
    have hv' : ∃ i : Int, v = .int i ∧ i.natAbs ≤ big := by
      have k1 : k < 1000000000000 := h1
      simp only [List.mem_cons, List.not_mem_nil, or_false] at hv
      rcases hv with e | e | e | e | e | e | e | e | e | e | e <;> first | exact ⟨_, e, by decide⟩ | exact ⟨_, e, by unfold big; omega⟩
    obtain ⟨i, rfl, hi⟩ := hv'
    refine ⟨by show 3 ≤ sizeLine; decide, fun l2 hl2 => ?_⟩
    have nf2 : l2 ≠ f := by
      obtain ⟨d, s, e, _⟩ := hj
      exact Ne.symm (ne_of_none e hl2)
    refine ⟨_, hj.mono (same_new hl2), upd_same, nf2, by simp, by show 3 ≤ 1000; decide, fun v M hv hb3 hm => ?_⟩
    have all : But f H M := hb.trans ((But.of (same_new hl)).trans (hb2.trans ((But.of (same_new hl2)).trans hb3)))
    simp only [List.mem_cons, List.not_mem_nil, or_false] at hv
    have bi : i.natAbs < 2 ^ 70 := Nat.lt_of_le_of_lt hi (by decide)
    have li : i.natAbs.log2 < 70 := FM.lg (by decide) bi
    rcases hv with e | e | e <;> subst e
    · refine ⟨?_, q _ M (by omega) all hm⟩
      show (1 : Int).natAbs.log2 + i.natAbs.log2 < 100000000
      have : (1 : Int).natAbs.log2 < 2 := lgi (by decide) (by decide)
      omega
    · refine ⟨?_, q _ M (by omega) all hm⟩
      show (1 : Int).natAbs.log2 + i.natAbs.log2 < 100000000
      have : (1 : Int).natAbs.log2 < 2 := lgi (by decide) (by decide)
      omega
    · refine ⟨?_, q _ M (by omega) all hm⟩
      show (-1 : Int).natAbs.log2 + i.natAbs.log2 < 100000000
      have : (-1 : Int).natAbs.log2 < 2 := lgi (by decide) (by decide)
      omega
  next => exact h.elim
theorem len_law_integer (K : PySem.W.Frag) (a : Ad) : ∀ vs H Q E, sp_law_integer K a vs H Q E → vs.length = 1 := by
  intro vs H Q E h
  unfold sp_law_integer at h
  split at h <;> first | rfl | exact h.elim
theorem does_law_integer (T : Txt K mg a) : Does P w K mg base CX0 3 a.f_law_integer ["feed"] (sp_law_integer K a) := by
  obtain ⟨fd, F⟩ := T.d_law_integer
  refine does0 F sc_law_integer (fun _ _ _ _ _ _ us hl => match us, hl with | [_], _ => rfl) (len_law_integer K a) (t_law_integer K a) (fun cdv A out s H E hr => ?_) (pure_law_integer T)
  exact (pss_cons (ps_set (i := 1) sc_law_integer.nd rfl (Or.inl rfl) (pe_f (does_law_pick T) T.g_law_pick (hr.mono (by decide)) pN0 (pa_cons (vm 0) (pa_cons (pe_lst (pa_cons pe_int (pa_cons pe_int (pa_cons pe_int (pa_cons pe_int (pa_cons pe_int (pa_cons pe_int (pa_cons pe_int (pa_cons pe_int (pa_cons (pe_op op_uPow pe_int pe_int) (pa_cons (pe_op (op_uAdd opNo) (pe_op op_uPow pe_int pe_int) pe_int) (pa_cons (pe_f (does_law_take T) T.g_law_take (hr.mono (by decide)) pN0 (pa_cons (vm 0) (pa_cons (pe_op op_uPow pe_int pe_int) pa_nil))) pa_nil)))))))))))) pa_nil)))) (pss_one (ps_ret (pe_op (op_uMul opNo) (pe_f (does_law_pick T) T.g_law_pick (hr.mono (by decide)) pN0 (pa_cons (vm 0) (pa_cons (pe_lst (pa_cons pe_int (pa_cons pe_int (pa_cons (pe_un (un_uNeg un_no) pe_int) pa_nil)))) pa_nil))) (vm 1)))))
def t_law_pair (K : PySem.W.Frag) (a : Ad) : TS := (tSeq (tPar 1 2 (tCons (tF (sp_law_integer K a) (fun _ => E0) (tCons (vM 0) tNil)) (tCons (tF (sp_law_integer K a) (fun _ => E0) (tCons (vM 0) tNil)) tNil))) (tRet (tTup (tCons (vM 1) (tCons (tIf (tyes (tOp (uNe K noOp) (vM 2) (tC (.int 0)))) (vM 2) (tC (.int 7))) tNil)))))
theorem pure_law_pair (T : Txt K mg a) : ∀ vs H Q E, sp_law_pair K a vs H Q E → t_law_pair K a { nx := fun _ H' => Q .non H', rt := Q } (start ["feed", "top", "bottom"] vs) H := by
  intro vs H Q E h
  unfold sp_law_pair at h
  split at h
  next f =>
    obtain ⟨hf, q⟩ := h
    refine ⟨hf, fun t G ht hb hg => ?_⟩
    refine ⟨hg, fun b J hbb hb2 hj => ?_⟩
    refine ⟨_, _, rfl, ?_⟩
    have all : But f H J := hb.trans hb2
    have fresh : ∀ {p : Addr}, J p = none → H p = none := by
      intro p hp
      cases e : H p with
      | none => rfl
      | some o =>
        by_cases z : p = f
        · subst z
          obtain ⟨d, s, e1, _⟩ := hj
          rw [hp] at e1
          cases e1
        · rw [all p o z e] at hp
          cases hp
    refine ite2 (fun hc => ?_) (fun hc => ?_)
    · have hc : b ≠ 0 := by
        intro z
        rw [z] at hc
        exact absurd hc (by decide)
      refine ⟨by show 2 ≤ sizeLine; decide, fun p hp => ?_⟩
      exact q t b p _ ht hc hbb (all.trans (But.of (same_new hp))) (hj.mono (same_new hp)) (fresh hp) upd_same
    · refine ⟨by show 2 ≤ sizeLine; decide, fun p hp => ?_⟩
      exact q t 7 p _ ht (by decide) (by decide) (all.trans (But.of (same_new hp))) (hj.mono (same_new hp)) (fresh hp) upd_same
  next => exact h.elim
theorem len_law_pair (K : PySem.W.Frag) (a : Ad) : ∀ vs H Q E, sp_law_pair K a vs H Q E → vs.length = 1 := by
  intro vs H Q E h
  unfold sp_law_pair at h
  split at h <;> first | rfl | exact h.elim
theorem does_law_pair (T : Txt K mg a) : Does P w K mg base CX0 4 a.f_law_pair ["feed"] (sp_law_pair K a) := by
  obtain ⟨fd, F⟩ := T.d_law_pair
  refine does0 F sc_law_pair (fun _ _ _ _ _ _ us hl => match us, hl with | [_], _ => rfl) (len_law_pair K a) (t_law_pair K a) (fun cdv A out s H E hr => ?_) (pure_law_pair T)
  exact (pss_cons (ps_par (i := 1) (j := 2) rfl sc_law_pair.nd rfl rfl (by decide) rfl rfl (pa_cons (pe_f (does_law_integer T) T.g_law_integer (hr.mono (by decide)) pN0 (pa_cons (vm 0) pa_nil)) (pa_cons (pe_f (does_law_integer T) T.g_law_integer (hr.mono (by decide)) pN0 (pa_cons (vm 0) pa_nil)) pa_nil)) rfl) (pss_one (ps_ret (pe_tup (pa_cons (vm 1) (pa_cons (pe_ifExp (pt_c (op_uNe (by have := hr.units; exact this) opNo) (vm 2) pe_int (nomark _)) (vm 2) pe_int) pa_nil))))))
end
end FP
namespace FP
open PySem PySem.Spec PyProof.Rows L2
section
variable {P : Program} {w : World} {K : PySem.W.Frag} {mg : Str → Option Value} {base : Heap} {a : Ad}

def t_law_lowest (K : PySem.W.Frag) (a : Ad) : TS := (tSeq (tPar 2 3 (tCons (tCB uAbs (tCons (vM 0) tNil)) (tCons (tCB uAbs (tCons (vM 1) tNil)) tNil))) (tSeq (tWhile (tyes (tOp (uNe K noOp) (vM 3) (tC (.int 0)))) (tPar 2 3 (tCons (vM 3) (tCons (tOp (uSub noOp) (vM 2) (tOp (uMul noOp) (tOp uQuo (vM 2) (vM 3)) (vM 3))) tNil)))) (tMid (tIfS (tyes (tOp uLt (vM 1) (tC (.int 0)))) (tAsg (tOp (uSub noOp) (tC (.int 0)) (vM 2)) (gName 2)) tNext) (tRet (tTup (tCons (tOp uQuo (vM 0) (vM 2)) (tCons (tOp uQuo (vM 1) (vM 2)) tNil)))))))
theorem pure_law_lowest (T : Txt K mg a) : ∀ vs H Q E, sp_law_lowest K a vs H Q E → t_law_lowest K a { nx := fun _ H' => Q .non H', rt := Q } (start ["top", "bottom", "one", "other"] vs) H := by
  intro vs H Q E h
  unfold sp_law_lowest at h
  split at h
  next t b =>
    obtain ⟨hb, lt, lb, q⟩ := h
    refine ⟨_, _, rfl, ?_⟩
    have e : ∀ z : Int, (if z < 0 then -z else z) = (z.natAbs : Int) := by intro z; split <;> omega
    refine ⟨fun m σ G => ∃ x y : Int, σ = [some (.int t), some (.int b), some (.int x), some (.int y)] ∧ 0 ≤ x ∧ 0 ≤ y ∧ Int.gcd x y = Int.gcd t b ∧ x.natAbs.log2 < 8999 ∧ y.natAbs.log2 < 8999 ∧ G = H ∧ m = y.toNat,
      ⟨_, (t.natAbs : Int), (b.natAbs : Int), ?_, by omega, by omega, by simp [Int.gcd], by simpa using lt, by simpa using lb, rfl, rfl⟩, ?_⟩
    · rw [e, e]
      rfl
    · rintro m σ G ⟨x, y, rfl, hx, hy, hg, lx, ly, rfl, rfl⟩
      refine ite2 (fun hc => ?_) (fun hc => ?_)
      · have hc : y ≠ 0 := by
          intro z
          rw [z] at hc
          exact absurd hc (by decide)
        have py : 0 < y := by omega
        have ef : x.fdiv y = x / y := Int.fdiv_eq_ediv_of_nonneg _ (by omega)
        have em : x - x / y * y = x % y := by rw [Int.emod_def, Int.mul_comm]
        have hq : (x / y).natAbs ≤ x.natAbs := by
          have h1 := Int.ediv_le_self y hx
          have h2 := Int.ediv_nonneg hx hy
          omega
        have lq := FM.log2_le hq
        refine ⟨fun τ J => ∃ x' y' : Int, τ = [some (.int t), some (.int b), some (.int x'), some (.int y')] ∧ 0 ≤ x' ∧ 0 ≤ y' ∧ Int.gcd x' y' = Int.gcd t b ∧ x'.natAbs.log2 < 8999 ∧ y'.natAbs.log2 < 8999 ∧ J = G ∧ y' < y, ?_, ?_⟩
        · rintro τ J ⟨x', y', rfl, h1, h2, h3, h4, h5, rfl, h6⟩
          exact ⟨_, by omega, x', y', rfl, h1, h2, h3, h4, h5, rfl, rfl⟩
        · refine ⟨⟨hc, by omega⟩, ⟨?_, _, _, rfl, ?_⟩⟩
          · show (x.fdiv y).natAbs.log2 + y.natAbs.log2 < 100000000
            rw [ef]
            omega
          · have m1 := Int.emod_nonneg x hc
            have m2 := Int.emod_lt_of_pos x py
            refine ⟨y, x % y, ?_, hy, m1, ?_, ly, ?_, rfl, m2⟩
            · rw [ef, em]
              rfl
            · rw [FM.gcd_step]
              exact hg
            · exact Nat.lt_of_le_of_lt (FM.log2_le (by omega)) ly
      · have hc : y = 0 := by
          by_cases z : y = 0
          · exact z
          · exact absurd (by rw [decide_eq_false z]; rfl) hc
        subst hc
        have eg : x = (Int.gcd t b : Int) := by
          rw [← hg]
          simp [Int.gcd]
          omega
        have dn := FM.dvs_ne (t := t) hb
        have ds := FM.dvs_small (t := t) hb
        refine ⟨fun τ J => J = G ∧ τ = [some (.int t), some (.int b), some (.int (FM.dvs t b)), some (.int 0)], ?_, ?_⟩
        · refine ite2 (fun hn => ?_) (fun hn => ?_)
          · have hn := of_decide_eq_true hn
            have e2 : FM.dvs t b = 0 - x := by rw [eg, Int.zero_sub]; exact if_pos hn
            rw [e2]
            exact ⟨rfl, rfl⟩
          · have hn : ¬ b < 0 := fun z => hn (decide_eq_true z)
            have e2 : FM.dvs t b = x := by rw [eg]; exact if_neg hn
            rw [e2]
            exact ⟨rfl, rfl⟩
        · rintro τ J ⟨rfl, rfl⟩
          refine ⟨⟨dn, by omega⟩, ⟨dn, by omega⟩, by show 2 ≤ sizeLine; decide, fun p hp => ?_⟩
          rw [FM.num_eq hb, FM.den_eq hb]
          exact q p _ hp (same_new hp) upd_same
  next => exact h.elim
theorem len_law_lowest (K : PySem.W.Frag) (a : Ad) : ∀ vs H Q E, sp_law_lowest K a vs H Q E → vs.length = 2 := by
  intro vs H Q E h
  unfold sp_law_lowest at h
  split at h <;> first | rfl | exact h.elim
theorem does_law_lowest (T : Txt K mg a) : Does P w K mg base CX0 1 a.f_law_lowest ["top", "bottom"] (sp_law_lowest K a) := by
  obtain ⟨fd, F⟩ := T.d_law_lowest
  refine does0 F sc_law_lowest (fun _ _ _ _ _ _ us hl => match us, hl with | [_, _], _ => rfl) (len_law_lowest K a) (t_law_lowest K a) (fun cdv A out s H E hr => ?_) (pure_law_lowest T)
  exact (pss_cons (ps_par (i := 2) (j := 3) rfl sc_law_lowest.nd rfl rfl (by decide) rfl rfl (pa_cons (pe_callB call_uAbs rfl T.b_abs (by decide +kernel) (pa_cons (vm 0) pa_nil)) (pa_cons (pe_callB call_uAbs rfl T.b_abs (by decide +kernel) (pa_cons (vm 1) pa_nil)) pa_nil)) rfl) (pss_cons (ps_while PassesOwn.never (pt_c (op_uNe (by have := hr.units; exact this) opNo) (vm 3) pe_int (nomark _)) (pss_one (ps_par (i := 2) (j := 3) rfl sc_law_lowest.nd rfl rfl (by decide) rfl rfl (pa_cons (vm 3) (pa_cons (pe_op (op_uSub opNo) (vm 2) (pe_op (op_uMul opNo) (pe_op op_uQuo (vm 2) (vm 3)) (vm 3))) pa_nil)) rfl))) (pss_mid (ps_if (pt_c op_uLt (vm 1) pe_int (nomark _)) (pss_one (ps_set (i := 2) sc_law_lowest.nd rfl (Or.inl rfl) (pe_op (op_uSub opNo) pe_int (vm 2)))) pss_nil) (pss_one (ps_ret (pe_tup (pa_cons (pe_op op_uQuo (vm 0) (vm 2)) (pa_cons (pe_op op_uQuo (vm 1) (vm 2)) pa_nil))))))))
def t_law_text (K : PySem.W.Frag) (a : Ad) : TS := (tSeq (tAsg (tF (sp_law_lowest K a) (fun _ => E0) (tCons (vM 0) (tCons (vM 1) tNil))) (gTup K 2 (gCons (gName 0) (gCons (gName 1) gNil)))) (tRet (tIf (tyes (tOp (uEq K noOp) (vM 1) (tC (.int 1)))) (tCB (uStr (rStrOwn a.Ratio (sp_Ratio___str K a) E0)) (tCons (vM 0) tNil)) (tOp (uAdd K noOp) (tOp (uAdd K noOp) (tCB (uStr (rStrOwn a.Ratio (sp_Ratio___str K a) E0)) (tCons (vM 0) tNil)) (tC (.str "/"))) (tCB (uStr (rStrOwn a.Ratio (sp_Ratio___str K a) E0)) (tCons (vM 1) tNil))))))
theorem pure_law_text (T : Txt K mg a) : ∀ vs H Q E, sp_law_text K a vs H Q E → t_law_text K a { nx := fun _ H' => Q .non H', rt := Q } (start ["top", "bottom"] vs) H := by
  intro vs H Q E h
  unfold sp_law_text at h
  split at h
  next t b =>
    obtain ⟨hb, lt, lb, k⟩ := h
    refine ⟨hb, by omega, by omega, fun p G hp hs hg => ?_⟩
    refine ⟨p, _, rfl, SqT.of hg, rfl, _, _, rfl, _, _, rfl, rfl, ?_⟩
    have n1 := nlog (t := t) hb (Nat.lt_trans lt (by decide : 1900 < 1920))
    have d1 : ((Rat.divInt t b).den : Int).natAbs.log2 < 1920 := by simpa using dlog (t := t) hb (Nat.lt_trans lb (by decide : 1900 < 1920))
    have z1 := tl _ n1
    have z2 := tl _ d1
    have e := txt_eq (Rat.divInt t b)
    have kk := k G hs
    refine ite2 (fun hc => ?_) (fun hc => ?_)
    · have hc := of_decide_eq_true hc
      rw [if_pos (by omega)] at e
      refine ⟨n1, ?_⟩
      show Q (.str _) G
      rw [← e]
      exact kk
    · have hc : ¬ (Rat.divInt t b).den = 1 := fun z => hc (decide_eq_true (by rw [z]; rfl))
      rw [if_neg hc] at e
      have s1 : ((toString (Rat.divInt t b).num : Str) ++ ("/" : Str)).length ≤ 1922 := by
        rw [strLen_append]
        have : (("/" : Str)).length = 1 := rfl
        omega
      refine ⟨n1, ⟨line5 (by have : (("/" : Str)).length = 1 := rfl; omega), d1, ?_⟩⟩
      refine ⟨line5 (by omega), ?_⟩
      show Q (.str _) G
      rw [← e]
      exact kk
  next => exact h.elim
theorem len_law_text (K : PySem.W.Frag) (a : Ad) : ∀ vs H Q E, sp_law_text K a vs H Q E → vs.length = 2 := by
  intro vs H Q E h
  unfold sp_law_text at h
  split at h <;> first | rfl | exact h.elim
theorem does_law_text (T : Txt K mg a) : Does P w K mg base CX0 3 a.f_law_text ["top", "bottom"] (sp_law_text K a) := by
  obtain ⟨fd, F⟩ := T.d_law_text
  refine does0 F sc_law_text (fun _ _ _ _ _ _ us hl => match us, hl with | [_, _], _ => rfl) (len_law_text K a) (t_law_text K a) (fun cdv A out s H E hr => ?_) (pure_law_text T)
  exact (pss_cons (ps_asg (pe_f (does_law_lowest T) T.g_law_lowest (hr.mono (by decide)) pN0 (pa_cons (vm 0) (pa_cons (vm 1) pa_nil))) (pg_tup rfl (pgs_cons (pg_name (i := 0) sc_law_text.nd rfl (Or.inl rfl)) (pgs_cons (pg_name (i := 1) sc_law_text.nd rfl (Or.inl rfl)) pgs_nil)))) (pss_one (ps_ret (pe_ifExp (pt_c (op_uEq (by have := hr.units; exact this) opNo) (vm 1) pe_int (nomark _)) (pe_callTy (call_uStr (call_strD (does_Ratio___str T) (hr.mono (by decide)) T.m_Ratio___str pass0)) rfl T.b_str (by decide +kernel) (pa_cons (vm 0) pa_nil)) (pe_op (op_uAdd opNo) (pe_op (op_uAdd opNo) (pe_callTy (call_uStr (call_strD (does_Ratio___str T) (hr.mono (by decide)) T.m_Ratio___str pass0)) rfl T.b_str (by decide +kernel) (pa_cons (vm 0) pa_nil)) pe_str) (pe_callTy (call_uStr (call_strD (does_Ratio___str T) (hr.mono (by decide)) T.m_Ratio___str pass0)) rfl T.b_str (by decide +kernel) (pa_cons (vm 1) pa_nil)))))))
def t_law_is_number (K : PySem.W.Frag) (a : Ad) : TS := (tSeq (tIfS (tOr (tyes (tOp (uEq K noOp) (vM 0) (tC (.str "")))) (tyes (tOp (uNe K noOp) (tLc (iStr (vM 0)) (gName 1) (tyes (tOp (uIn K true noOp) (vM 1) (tC (.str "0123456789")))) (vM 1) [1]) (tLst tNil)))) (tRet (tC (.bl false))) tNext) (tRet (tOrV (tOp (uEq K noOp) (vM 0) (tC (.str "0"))) (tOp (uNe K noOp) (tOp (uIx K) (vM 0) (tC (.int 0))) (tC (.str "0"))))))
theorem pure_law_is_number (T : Txt K mg a) : ∀ vs H Q E, sp_law_is_number K a vs H Q E → t_law_is_number K a { nx := fun _ H' => Q .non H', rt := Q } (start ["word", "sign"] vs) H := by
  intro vs H Q E h
  unfold sp_law_is_number at h
  split at h
  next z =>
    obtain ⟨hz, zl, k⟩ := h
    have hl : z.length = (TL.tl z).length := TL.len_tl z
    have e0 : decide (z = Str.ofString "") = decide (TL.tl z = []) := dec_tl z "" [] (by decide +kernel)
    refine ite2 (fun hc => ?_) (fun hc => ?_)
    · have hc : decide (z = Str.ofString "") = true := hc
      rw [e0] at hc
      have hc := of_decide_eq_true hc
      have := k H (Same.refl H)
      rw [hc] at this
      exact this
    · have hc : ¬ decide (z = Str.ofString "") = true := hc
      rw [e0] at hc
      have hne : TL.tl z ≠ [] := fun q => hc (decide_eq_true q)
      refine ⟨z, rfl, fun D hD => ?_⟩
      refine lc_str (x := z) (fun i M => Same H M ∧ M D = some (.lst ((((TL.tl z).take i).filter fun c => !isDig c).map one |>.map V.str))) ⟨same_new hD, upd_same⟩ ?_ ?_
      · rintro i c M hi ⟨sM, hM⟩
        refine ⟨rfl, c, rfl, ?_⟩
        have et : (TL.tl z).take (i + 1) = (TL.tl z).take i ++ [c] := by
          rw [List.take_add_one, show (TL.tl z)[i]? = some c from hi]
          rfl
        show (if (!decide (c ∈ (Str.ofString "0123456789").cps.toList)) = true then _ else _)
        rw [digits_are]
        cases ed : isDig c with
        | true =>
          refine iteF ?_
          refine ⟨sM, ?_⟩
          rw [hM, et, List.filter_append]
          simp [ed]
        | false =>
          refine iteT ?_
          refine ⟨_, hM, ?_, keepU hD sM, ?_⟩
          · rw [List.length_map, List.length_map]
            refine Nat.lt_of_le_of_lt (List.length_filter_le ..) ?_
            rw [List.length_take]
            exact Nat.lt_of_le_of_lt (Nat.min_le_right ..) (Nat.lt_of_le_of_lt (by rw [← hl]; exact hz) (by decide))
          · rw [upd_same, et, List.filter_append, List.map_append, List.map_append]
            simp [ed, one]
      · rintro M ⟨sM, hM⟩
        rw [show z.cps.toList = TL.tl z from rfl, List.take_length] at hM
        refine ⟨by show 0 ≤ sizeLine; decide, fun Z hZ => ?_⟩
        have sZ : Same M (upd M Z (.lst [])) := same_new hZ
        refine ne_nil ?_ (sZ _ _ hM) upd_same ?_
        · intro x hx c hc
          obtain ⟨d, hd, rfl⟩ := List.mem_map.mp hx
          have : c = d := List.mem_singleton.mp hc
          rw [this]
          exact zl d (List.mem_filter.mp hd).1
        have ea : (!decide ((((TL.tl z).filter fun c => !isDig c).map one) = [])) = !(TL.tl z).all isDig := by
          congr 1
          cases ed : (TL.tl z).all isDig with
          | true =>
            refine decide_eq_true ?_
            rw [List.map_eq_nil_iff, List.filter_eq_nil_iff]
            intro c hc
            have := List.all_eq_true.mp ed c hc
            rw [this]
            decide
          | false =>
            refine decide_eq_false fun q => ?_
            rw [List.map_eq_nil_iff, List.filter_eq_nil_iff] at q
            have : (TL.tl z).all isDig = true := List.all_eq_true.mpr fun c hc => by simpa using q c hc
            rw [ed] at this
            cases this
        show (if (!decide ((((TL.tl z).filter fun c => !isDig c).map one) = [])) = true then _ else _)
        rw [ea]
        have kM := k _ (sM.trans sZ)
        unfold isNumL at kM
        rw [decide_eq_true hne, Bool.true_and] at kM
        cases ed : (TL.tl z).all isDig with
        | false =>
          rw [ed] at kM
          refine iteT ?_
          exact kM
        | true =>
          rw [ed, Bool.true_and] at kM
          refine iteF ?_
          have e1 : decide (z = Str.ofString "0") = decide (TL.tl z = [48]) := dec_tl z "0" [48] (by decide +kernel)
          refine ⟨_, rfl, ?_⟩
          rw [e1]
          cases e2 : decide (TL.tl z = [48]) with
          | true =>
            rw [e2] at kM
            refine iteT ?_
            exact kM
          | false =>
            rw [e2, Bool.false_or] at kM
            refine iteF ?_
            cases e3 : TL.tl z with
            | nil => exact absurd e3 hne
            | cons c r =>
              rw [e3] at kM
              refine ⟨z, 0, c, rfl, rfl, Nat.le_trans hz (by decide), ?_, ?_⟩
              · show atI (TL.tl z) 0 = some c
                rw [e3]
                simp [atI, ixN]
              · have e4 : decide ((⟨#[c]⟩ : Str) = Str.ofString "0") = decide ((c :: r).head? = some 48) := by
                  rw [dec_tl _ "0" [48] (by decide +kernel)]
                  have : (TL.tl (⟨#[c]⟩ : Str) = [48]) ↔ ((c :: r).head? = some 48) := by
                    show [c] = [48] ↔ some c = some 48
                    simp
                  by_cases q : c = 48
                  · subst q
                    rfl
                  · rw [decide_eq_false (fun z => q (by simpa using this.mp z)), decide_eq_false (fun z => q (by simpa using z))]
                show Q (.bl (!decide ((⟨#[c]⟩ : Str) = Str.ofString "0"))) _
                rw [e4]
                exact kM
  next => exact h.elim
theorem len_law_is_number (K : PySem.W.Frag) (a : Ad) : ∀ vs H Q E, sp_law_is_number K a vs H Q E → vs.length = 1 := by
  intro vs H Q E h
  unfold sp_law_is_number at h
  split at h <;> first | rfl | exact h.elim
theorem does_law_is_number (T : Txt K mg a) : Does P w K mg base CX0 1 a.f_law_is_number ["word"] (sp_law_is_number K a) := by
  obtain ⟨fd, F⟩ := T.d_law_is_number
  refine does0 F sc_law_is_number (fun _ _ _ _ _ _ us hl => match us, hl with | [_], _ => rfl) (len_law_is_number K a) (t_law_is_number K a) (fun cdv A out s H E hr => ?_) (pure_law_is_number T)
  exact (pss_cons (ps_if (PW.pt (pw_or (pt_c (op_uEq (by have := hr.units; exact this) opNo) (vm 0) pe_str (nomark _)) (pw_or1 (pt_c (op_uNe (by have := hr.units; exact this) opNo) (pe_lc (own := [("sign", 1)]) (g := (gName 1)) (tt := (tyes (tOp (uIn K true noOp) (vM 1) (tC (.str "0123456789"))))) rfl sc_law_is_number.nd (pi_str (vm 0)) (blkOk_by (N := ["word", "sign"]) (sc := defScope s_law_is_number) (by decide +kernel)) (fun _ _ _ _ _ => (pg_name (i := 1) sc_law_is_number.nd rfl (Or.inl rfl))) (fun _ _ _ _ _ => (pts_one (pt_c (op_uNotIn opNo) (vm 1) pe_str (by with_unfolding_all rfl)))) (fun _ _ _ _ _ => (vm 1))) (pe_lst pa_nil) (nomark _))))) (pss_one (ps_ret pe_bl)) pss_nil) (pss_one (ps_ret (pe_or (pe_cmpR (op_uEq (by have := hr.units; exact this) opNo) (vm 0) pe_str (nomark _)) (pe_one (pe_cmpR (op_uNe (by have := hr.units; exact this) opNo) (pe_ix ix_u (vm 0) pe_int (fun _ _ => rfl)) pe_str (nomark _)))))))
def t_law_is_text (K : PySem.W.Frag) (a : Ad) : TS := (tSeq (tAsg (tIf (tyes (tOp (uEq K noOp) (tSl rSlS (vM 0) tNoPart (tPart (tC (.int 1)))) (tC (.str "-")))) (tSl rSlS (vM 0) (tPart (tC (.int 1))) tNoPart) (vM 0)) (gName 1)) (tSeq (tAsg (tM1 rSplit1 (vM 1) (tC (.str "/"))) (gName 2)) (tSeq (tIfS (tOr (tyes (tOp uGt (tCB (uLen K) (tCons (vM 2) tNil)) (tC (.int 2)))) (tyes (tOp (uNe K noOp) (tLc (iList K (vM 2)) (gName 3) (tNot (tTr K (tF (sp_law_is_number K a) (fun _ => E0) (tCons (vM 3) tNil)))) (vM 3) [3]) (tLst tNil)))) (tRet (tC (.bl false))) tNext) (tSeq (tIfS (tyes (tOp (uEq K noOp) (tCB (uLen K) (tCons (vM 2) tNil)) (tC (.int 1)))) (tRet (tOp (uNe K noOp) (vM 0) (tC (.str "-0")))) tNext) (tSeq (tPar 4 5 (tCons (tCB uIntL (tCons (tOp (uIx K) (vM 2) (tC (.int 0))) tNil)) (tCons (tCB uIntL (tCons (tOp (uIx K) (vM 2) (tC (.int 1))) tNil)) tNil))) (tRet (tAndV (tOp uGt (vM 5) (tC (.int 1))) (tAndV (tOp uGt (vM 4) (tC (.int 0))) (tOp (uEq K noOp) (tF (sp_law_lowest K a) (fun _ => E0) (tCons (vM 4) (tCons (vM 5) tNil))) (tTup (tCons (vM 4) (tCons (vM 5) tNil))))))))))))
theorem pure_law_is_text (T : Txt K mg a) : ∀ vs H Q E, sp_law_is_text K a vs H Q E → t_law_is_text K a { nx := fun _ H' => Q .non H', rt := Q } (start ["text", "digits", "words", "word", "top", "bottom"] vs) H := by
  intro vs H Q E h
  unfold sp_law_is_text at h
  split at h
  next z =>
    obtain ⟨gz, k⟩ := h
    have zs : z.length ≤ sizeLine := Nat.le_trans gz.1 (by decide)
    have e1 : decide (cutS z none (some 1) = Str.ofString "-") = decide ((TL.tl z).take 1 = [45]) := by
      rw [dec_tl _ "-" [45] (by decide +kernel), cut_to1]
    refine ⟨1, rfl, z, rfl, zs, ?_⟩
    show (if decide (cutS z none (some 1) = Str.ofString "-") = true then _ else _)
    rw [e1]
    have gd := digL_gd gz
    have rest : tSeq (tAsg (tM1 rSplit1 (vM 1) (tC (.str "/"))) (gName 2)) (tSeq (tIfS (tOr (tyes (tOp uGt (tCB (uLen K) (tCons (vM 2) tNil)) (tC (.int 2)))) (tyes (tOp (uNe K noOp) (tLc (iList K (vM 2)) (gName 3) (tNot (tTr K (tF (sp_law_is_number K a) (fun _ => E0) (tCons (vM 3) tNil)))) (vM 3) [3]) (tLst tNil)))) (tRet (tC (.bl false))) tNext) (tSeq (tIfS (tyes (tOp (uEq K noOp) (tCB (uLen K) (tCons (vM 2) tNil)) (tC (.int 1)))) (tRet (tOp (uNe K noOp) (vM 0) (tC (.str "-0")))) tNext) (tSeq (tPar 4 5 (tCons (tCB uIntL (tCons (tOp (uIx K) (vM 2) (tC (.int 0))) tNil)) (tCons (tCB uIntL (tCons (tOp (uIx K) (vM 2) (tC (.int 1))) tNil)) tNil))) (tRet (tAndV (tOp uGt (vM 5) (tC (.int 1))) (tAndV (tOp uGt (vM 4) (tC (.int 0))) (tOp (uEq K noOp) (tF (sp_law_lowest K a) (fun _ => E0) (tCons (vM 4) (tCons (vM 5) tNil))) (tTup (tCons (vM 4) (tCons (vM 5) tNil))))))))))
        { nx := fun _ H' => Q .non H', rt := Q } [some (.str z), some (.str (digL z)), none, none, none, none] H := by
      obtain ⟨sz1, sz2⟩ := split_sizes (digL z)
      have sz3 := split_lo gd.2
      refine ⟨⟨_, rfl⟩, digL z, _, rfl, rfl, by decide +kernel, Nat.le_trans (Nat.add_le_add_right gd.1 2) (by decide), fun l hl => ?_⟩
      have g1 := gd.1
      have hne : Txt.split (digL z) (Str.ofString "/") ≠ [] := by
        have := TL.split_spl (digL z) (Str.ofString "/") (by rw [slash]; simp) (TL.kind_ok (by decide +kernel))
        intro e
        rw [e] at this
        exact absurd this.symm (spl_ne _ _ _ _)
      -- what the answer is
      have ans : okT z = ((Txt.split (digL z) (Str.ofString "/")).all (fun w => isNumL (TL.tl w)) && (if (Txt.split (digL z) (Str.ofString "/")).length = 1 then !decide (z = Str.ofString "-0") else posW (Txt.split (digL z) (Str.ofString "/")))) := by
        by_cases c : z = Str.ofString "-0"
        · subst c
          rw [ok_m0, dig_m0, decide_eq_true rfl]
          simp
        · have : okT z = isPos (Txt.split (digL z) (Str.ofString "/")) := by
            unfold okT
            rw [digT_L c]
          rw [this, decide_eq_false c]
          unfold isPos
          split
          next h1 =>
            congr 1
            match Txt.split (digL z) (Str.ofString "/"), h1 with
            | [w], _ => rfl
          next => rfl
      generalize hws : Txt.split (digL z) (Str.ofString "/") = ws at sz1 sz2 sz3 hne ans
      have s1 : Same H (upd H l (.lst (ws.map V.str))) := same_new hl
      have q1 := upd_same (H := H) (a := l) (o := .lst (ws.map V.str))
      generalize upd H l (.lst (ws.map V.str)) = H1 at s1 q1
      refine ⟨.ref l, _, rfl, .inl ⟨_, SqL.of q1, rfl⟩, ?_⟩
      rw [List.length_map]
      refine ite2 (fun hc => ?_) (fun hc => ?_)
      · have hc : 2 < (ws.length : Int) := of_decide_eq_true hc
        have : okT z = false := by
          rw [ans, if_neg (by omega)]
          unfold posW
          split
          · simp at hc
          · simp at hc
          · rw [Bool.and_false]
        have kk := k H1 s1
        rw [this] at kk
        exact kk
      have hc : ¬ 2 < (ws.length : Int) := fun q => hc (decide_eq_true q)
      refine ⟨l, rfl, ⟨_, SqL.of q1⟩, fun D hD => ?_⟩
      refine lc_list (K := K) (a := l) (xs := ws.map V.str) (fun i M => Same H1 M ∧ M D = some (.lst (((ws.take i).filter fun w => !isNumL (TL.tl w)).map V.str))) ⟨same_new hD, upd_same⟩ (fun i M _ ⟨sM, _⟩ => SqL.of (sM _ _ q1)) ?_ ?_
      · rintro i v M hi ⟨sM, hM⟩
        rw [List.getElem?_map] at hi
        cases ew : ws[i]? with
        | none => rw [ew] at hi; cases hi
        | some w =>
          rw [ew] at hi
          cases hi
          have hw := List.mem_of_getElem? ew
          refine ⟨rfl, Nat.le_trans (sz2 w hw) (by omega), sz3 w hw, fun G sG => ?_⟩
          have et : ws.take (i + 1) = ws.take i ++ [w] := by
            rw [List.take_add_one, ew]
            rfl
          show (if (!isNumL (TL.tl w)) = true then _ else _)
          cases ed : isNumL (TL.tl w) with
          | true =>
            refine iteF ?_
            refine ⟨sM.trans sG, ?_⟩
            rw [sG _ _ hM, et, List.filter_append]
            simp [ed]
          | false =>
            refine iteT ?_
            refine ⟨_, sG _ _ hM, ?_, keepU hD (sM.trans sG), ?_⟩
            · rw [List.length_map]
              refine Nat.lt_of_le_of_lt (List.length_filter_le ..) ?_
              rw [List.length_take]
              exact Nat.lt_of_le_of_lt (Nat.min_le_right ..) (Nat.lt_of_le_of_lt (by omega : ws.length ≤ 2) (by decide))
            · rw [upd_same, et, List.filter_append, List.map_append]
              simp [ed]
      · rintro M ⟨sM, hM⟩
        rw [List.length_map, List.take_length] at hM
        refine ⟨by show 0 ≤ sizeLine; decide, fun Z hZ => ?_⟩
        have sZ : Same M (upd M Z (.lst [])) := same_new hZ
        refine ne_nil ?_ (sZ _ _ hM) upd_same ?_
        · intro x hx
          exact sz3 x (List.mem_filter.mp hx).1
        have ea : (!decide ((ws.filter fun w => !isNumL (TL.tl w)) = [])) = !ws.all (fun w => isNumL (TL.tl w)) := by
          congr 1
          cases ed : ws.all (fun w => isNumL (TL.tl w)) with
          | true =>
            refine decide_eq_true ?_
            rw [List.filter_eq_nil_iff]
            intro c hc
            have := List.all_eq_true.mp ed c hc
            rw [this]
            decide
          | false =>
            refine decide_eq_false fun q => ?_
            rw [List.filter_eq_nil_iff] at q
            have : ws.all (fun w => isNumL (TL.tl w)) = true := List.all_eq_true.mpr fun c hc => by simpa using q c hc
            rw [ed] at this
            cases this
        show (if (!decide ((ws.filter fun w => !isNumL (TL.tl w)) = [])) = true then _ else _)
        rw [ea]
        have g2 := sZ _ _ (sM _ _ q1)
        have s2 := (s1.trans sM).trans sZ
        generalize upd M Z (.lst []) = N at g2 s2
        cases ed : ws.all (fun w => isNumL (TL.tl w)) with
        | false =>
          rw [ed, Bool.false_and] at ans
          have kk := k _ s2
          rw [ans] at kk
          refine iteT ?_
          exact kk
        | true =>
          rw [ed, Bool.true_and] at ans
          refine iteF ?_
          refine ⟨.ref l, _, rfl, .inl ⟨_, SqL.of g2, rfl⟩, ?_⟩
          rw [List.length_map]
          refine ite2 (fun hc1 => ?_) (fun hc1 => ?_)
          · have hc1 : (ws.length : Int) = 1 := of_decide_eq_true hc1
            rw [if_pos (by omega)] at ans
            have kk := k _ s2
            rw [ans] at kk
            exact kk
          · have hc1 : ¬ (ws.length : Int) = 1 := fun q => hc1 (decide_eq_true q)
            rw [if_neg (by omega)] at ans
            match ws, hws, sz2, ed, hc, hc1, ans, g2, hne with
            | [], _, _, _, _, _, _, _, hne => exact absurd rfl hne
            | [u, v], hws, sz2, eb, _, _, ans, g2, _ =>
              have bu := sz2 u (by simp)
              have bv := sz2 v (by simp)
              simp only [List.all_cons, List.all_nil, Bool.and_true, Bool.and_eq_true] at eb
              have iu := int_of eb.1 (by omega)
              have iv := int_of eb.2 (by omega)
              have lu := val_lt eb.1
              have lv := val_lt eb.2
              rw [← TL.len_tl] at lu lv
              have ans : okT z = (decide (1 < (NumText.digitsVal (TL.tl v) : Int)) && decide ((Int.gcd (NumText.digitsVal (TL.tl u) : Int) (NumText.digitsVal (TL.tl v) : Int) : Int) = 1)) := ans
              generalize NumText.digitsVal (TL.tl u) = n at iu lu ans
              generalize NumText.digitsVal (TL.tl v) = d at iv lv ans
              have lu := Nat.lt_of_lt_of_le lu (Nat.pow_le_pow_right (by decide) (by omega : u.length ≤ 2500))
              have lv := Nat.lt_of_lt_of_le lv (Nat.pow_le_pow_right (by decide) (by omega : v.length ≤ 2500))
              have ld : (d : Int).natAbs.log2 < 8999 := FM.lg (by decide) (Nat.lt_of_lt_of_le lv big1)
              have ln : (n : Int).natAbs.log2 < 8999 := FM.lg (by decide) (Nat.lt_of_lt_of_le lu big1)
              refine ⟨_, _, .inl (SqL.of g2), rfl, _, _, rfl, iu, Nat.le_trans bu (Nat.le_trans g1 (by decide)), ?_⟩
              refine ⟨_, _, .inl (SqL.of g2), rfl, _, _, rfl, iv, Nat.le_trans bv (Nat.le_trans g1 (by decide)), ?_⟩
              refine ⟨_, _, rfl, _, rfl, ?_⟩
              cases e1 : decide (1 < (d : Int)) with
              | false =>
                rw [e1, Bool.false_and] at ans
                have kk := k _ s2
                rw [ans] at kk
                refine iteF ?_
                exact kk
              | true =>
                have d1 := of_decide_eq_true e1
                rw [e1, Bool.true_and, low_iff d1] at ans
                refine iteT ?_
                refine ⟨_, rfl, ?_⟩
                cases e2 : decide (0 < (n : Int)) with
                | false =>
                  rw [e2, Bool.false_and] at ans
                  have kk := k _ s2
                  rw [ans] at kk
                  refine iteF ?_
                  exact kk
                | true =>
                  rw [e2, Bool.true_and] at ans
                  refine iteT ?_
                  refine ⟨by omega, ln, ld, fun p G _ sp ep => ?_⟩
                  refine ⟨by show 2 ≤ sizeLine; decide, fun p2 h2 => ?_⟩
                  have sp2 := same_new (o := .tup [.int (n : Int), .int (d : Int)]) h2
                  refine .inl ⟨_, _, dp2 (sp2 _ _ ep), dp2 upd_same, rfl, rfl, ?_⟩
                  have kk := k _ ((s2.trans sp).trans sp2)
                  rw [ans] at kk
                  rw [eqv2]
                  exact kk
            | u :: v :: w :: r, _, _, _, hc, _, _, _, _ => exact absurd (by simp only [List.length_cons]; omega) hc
    by_cases c1 : (TL.tl z).take 1 = [45]
    · rw [decide_eq_true c1]
      refine iteT ?_
      refine ⟨1, rfl, z, rfl, zs, ?_⟩
      have e : digL z = cutS z (some 1) none := if_pos c1
      rw [e] at rest
      exact rest
    · rw [decide_eq_false c1]
      refine iteF ?_
      have e : digL z = z := if_neg c1
      rw [e] at rest
      exact rest
  next => exact h.elim
theorem len_law_is_text (K : PySem.W.Frag) (a : Ad) : ∀ vs H Q E, sp_law_is_text K a vs H Q E → vs.length = 1 := by
  intro vs H Q E h
  unfold sp_law_is_text at h
  split at h <;> first | rfl | exact h.elim
theorem does_law_is_text (T : Txt K mg a) : Does P w K mg base CX0 2 a.f_law_is_text ["text"] (sp_law_is_text K a) := by
  obtain ⟨fd, F⟩ := T.d_law_is_text
  refine does0 F sc_law_is_text (fun _ _ _ _ _ _ us hl => match us, hl with | [_], _ => rfl) (len_law_is_text K a) (t_law_is_text K a) (fun cdv A out s H E hr => ?_) (pure_law_is_text T)
  exact (pss_cons (ps_set (i := 1) sc_law_is_text.nd rfl (Or.inl rfl) (pe_ifExp (pt_c (op_uEq (by have := hr.units; exact this) opNo) (pe_slice sl_str (vm 0) po_none (po_some pe_int)) pe_str (nomark _)) (pe_slice sl_str (vm 0) (po_some pe_int) po_none) (vm 0))) (pss_cons (ps_set (i := 2) sc_law_is_text.nd rfl (Or.inl rfl) (pe_split1 (vm 1) pe_str)) (pss_cons (ps_if (PW.pt (pw_or (pt_c op_uGt (pe_callB call_uLen rfl T.b_len (by decide +kernel) (pa_cons (vm 2) pa_nil)) pe_int (nomark _)) (pw_or1 (pt_c (op_uNe (by have := hr.units; exact this) opNo) (pe_lc (own := [("word", 3)]) (g := (gName 3)) (tt := (tNot (tTr K (tF (sp_law_is_number K a) (fun _ => E0) (tCons (vM 3) tNil))))) rfl sc_law_is_text.nd (pi_list (vm 2)) (blkOk_by (N := ["text", "digits", "words", "word", "top", "bottom"]) (sc := defScope s_law_is_text) (by decide +kernel)) (fun _ _ _ _ _ => (pg_name (i := 3) sc_law_is_text.nd rfl (Or.inl rfl))) (fun _ _ _ _ _ => (pts_one (pt_not (pt_u (pe_f (does_law_is_number T) T.g_law_is_number (hr.mono (by decide)) pN0 (pa_cons (vm 3) pa_nil)))))) (fun _ _ _ _ _ => (vm 3))) (pe_lst pa_nil) (nomark _))))) (pss_one (ps_ret pe_bl)) pss_nil) (pss_cons (ps_if (pt_c (op_uEq (by have := hr.units; exact this) opNo) (pe_callB call_uLen rfl T.b_len (by decide +kernel) (pa_cons (vm 2) pa_nil)) pe_int (nomark _)) (pss_one (ps_ret (pe_cmpR (op_uNe (by have := hr.units; exact this) opNo) (vm 0) pe_str (nomark _)))) pss_nil) (pss_cons (ps_par (i := 4) (j := 5) rfl sc_law_is_text.nd rfl rfl (by decide) rfl rfl (pa_cons (pe_callTy (call_uIntL T.nd) rfl T.b_int (by decide +kernel) (pa_cons (pe_ix ix_u (vm 2) pe_int (fun _ _ => rfl)) pa_nil)) (pa_cons (pe_callTy (call_uIntL T.nd) rfl T.b_int (by decide +kernel) (pa_cons (pe_ix ix_u (vm 2) pe_int (fun _ _ => rfl)) pa_nil)) pa_nil)) rfl) (pss_one (ps_ret (pe_and (pe_cmpR op_uGt (vm 5) pe_int (nomark _)) (pe_and (pe_cmpR op_uGt (vm 4) pe_int (nomark _)) (pe_one (pe_cmpR (op_uEq (by have := hr.units; exact this) opNo) (pe_f (does_law_lowest T) T.g_law_lowest (hr.mono (by decide)) pN0 (pa_cons (vm 4) (pa_cons (vm 5) pa_nil))) (pe_tup (pa_cons (vm 4) (pa_cons (vm 5) pa_nil))) (nomark _))))))))))))
end
end FP
namespace FP
open PySem PySem.Spec PyProof.Rows L2
section
variable {P : Program} {w : World} {K : PySem.W.Frag} {mg : Str → Option Value} {base : Heap} {a : Ad}

def t_law_told (K : PySem.W.Frag) (a : Ad) : TS := (tSeq (tAsg (tTup (tCons (tC .non) (tCons (tC .non) tNil))) (gTup K 2 (gCons (gName 1) (gCons (gName 2) gNil)))) (tMid (tTryE K a.PartError 3 (fun W => (tAsg (tCM a.Ratio (sp_Ratio_parse K a) (WE W) (tC (.ref a.Ratio)) (tCons (vM 0) tNil)) (gName 2))) (fun _ _ _ => (tAsg (vM 3) (gName 1)))) (tSeq (tIfS (tyes (tOp (uIsN false) (vM 1) (tC .non))) (tRet (tIf (tTr K (tCB (fun xs H Q => uIsi K [] xs H Q ∨ rIsXd K a.InvalidText xs H Q) (tCons (vM 2) (tCons (tC (.ref a.Ratio)) tNil)))) (tCB (uStr (rStrOwn a.Ratio (sp_Ratio___str K a) E0)) (tCons (vM 2) tNil)) (tC (.str "wrong")))) tNext) (tRet (tIf (tAnd (tTr K (tCB (fun xs H Q => uIsi K [] xs H Q ∨ rIsXd K a.InvalidText xs H Q) (tCons (vM 1) (tCons (tC (.ref a.InvalidText)) tNil)))) (tTr K (tCB (fun xs H Q => uIsi K [] xs H Q ∨ rIsXd K a.InvalidText xs H Q) (tCons (vM 1) (tCons (tC (.ty "ValueError")) tNil))))) (tXfE a.InvalidText "row" (vM 1)) (tC (.str "wrong")))))))
theorem pure_law_told (T : Txt K mg a) : ∀ vs H Q E, sp_law_told K a vs H Q E → t_law_told K a { nx := fun _ H' => Q .non H', rt := Q } (start ["text", "caught", "found", "error"] vs) H := by
  intro vs H Q E h
  unfold sp_law_told at h
  split at h
  next z =>
    obtain ⟨gz, k⟩ := h
    have g1 := gz.1
    refine ⟨by show 2 ≤ sizeLine; decide, fun tp htp => ⟨tp, _, rfl, SqT.of upd_same, rfl, _, _, rfl, _, _, rfl, rfl, ?_⟩⟩
    have s0 : Same H (upd H tp (.tup [.non, .non])) := same_new htp
    generalize upd H tp (.tup [.non, .non]) = H1 at s0
    refine ⟨fun τ G => Same H G ∧ ((okT z = true ∧ ∃ x q, τ = [some (.str z), some .non, some (.ref x), none] ∧ IsR a G x q ∧ txt q = z ∧ Sd q) ∨
      (okT z = false ∧ ∃ e d, τ = [some (.str z), some (.ref e), some .non, none] ∧ G e = some (ExT (.ref a.InvalidText) (some d) e) ∧ G d = some (.xd [("row", .int 0)]))), ?_, ?_⟩
    · refine ⟨rfl, rfl, by omega, fun ok q x G tq sq nx sG r => ?_, fun no d G sG gd => ?_⟩
      · exact ⟨s0.trans sG, .inl ⟨ok, x, q, rfl, r, tq, sq⟩⟩
      · refine ⟨true, T.xm_InvalidText_PartError, fun _ e he => ?_, fun z => nomatch z⟩
        have ne : d ≠ e := by
          rintro rfl
          rw [he] at gd
          cases gd
        exact ⟨s0.trans (same_up sG he), .inr ⟨no, e, d, rfl, upd_same, by rw [upd_ne ne]; exact gd⟩⟩
    · rintro τ G ⟨sG, ⟨ok, x, q, rfl, r, tq, sq⟩ | ⟨no, e, d, rfl, ge, gd⟩⟩
      · have kk := k G sG
        rw [ok] at kk
        obtain ⟨dx, hx⟩ := id r
        refine ⟨rfl, ?_⟩
        try refine iteT ?_
        refine .inl (.inl ⟨_, _, _, _, true, rfl, .own a.Ratio, T.c_Ratio.ty hx, T.kt_Ratio_Ratio, ?_⟩)
        try refine iteT ?_
        refine ⟨x, dx, _, rfl, hx, q, r, sq, ⟨_, rfl⟩, ?_⟩
        rw [tq]
        exact kk
      · have kk := k G sG
        rw [no] at kk
        refine ⟨rfl, ?_⟩
        try refine iteF ?_
        refine .inr ⟨e, d, _, .ref a.InvalidText, .ref a.InvalidText, true, rfl, ge, gd, fun _ r => r, T.kt_InvalidText_InvalidText, ?_⟩
        try refine iteT ?_
        refine .inr ⟨e, d, _, .ty "ValueError", .type "ValueError", true, rfl, ge, gd, fun _ r => r, T.kt_InvalidText_ValueError, ?_⟩
        try refine iteT ?_
        exact ⟨e, d, _, _, rfl, ge, gd, rfl, kk⟩
  next => exact h.elim
theorem len_law_told (K : PySem.W.Frag) (a : Ad) : ∀ vs H Q E, sp_law_told K a vs H Q E → vs.length = 1 := by
  intro vs H Q E h
  unfold sp_law_told at h
  split at h <;> first | rfl | exact h.elim
theorem does_law_told (T : Txt K mg a) : Does P w K mg base CX0 5 a.f_law_told ["text"] (sp_law_told K a) := by
  obtain ⟨fd, F⟩ := T.d_law_told
  refine does0 F sc_law_told (fun _ _ _ _ _ _ us hl => match us, hl with | [_], _ => rfl) (len_law_told K a) (t_law_told K a) (fun cdv A out s H E hr => ?_) (pure_law_told T)
  exact (pss_cons (ps_asg (pe_tup (pa_cons pe_non (pa_cons pe_non pa_nil))) (pg_tup rfl (pgs_cons (pg_name (i := 1) sc_law_told.nd rfl (Or.inl rfl)) (pgs_cons (pg_name (i := 2) sc_law_told.nd rfl (Or.inl rfl)) pgs_nil)))) (pss_mid (ps_try_esc (i := 3) (tb := fun W => (tAsg (tCM a.Ratio (sp_Ratio_parse K a) (WE W) (tC (.ref a.Ratio)) (tCons (vM 0) tNil)) (gName 2))) (ts := fun _ _ _ => (tAsg (vM 3) (gName 1))) (Wout := fun _ _ _ _ => False) rfl rfl rfl sc_law_told.nd rfl rfl ⟨rfl, by decide, .inl T.g_PartError⟩ takes0 (fun W pn xe tk hp => (pss_one (ps_set (i := 2) sc_law_told.nd rfl (Or.inl rfl) (pe_cm (does_Ratio_parse T) T.cr_Ratio T.cm_Ratio_parse (hr.mono (by decide)) (pTk tk) (pe_glob rfl T.g_Ratio rfl) (pa_cons (vm 0) pa_nil))))) (fun ea oe cls d pn _ _ => (pss_one (ps_set (i := 1) sc_law_told.nd rfl (Or.inl rfl) (vm 3))))) (pss_cons (ps_if (pt_c op_uIs (vm 1) pe_non (nomark _)) (pss_one (ps_ret (pe_ifExp (pt_u (pe_callB ((call_uIsi (fun _ h => absurd h List.not_mem_nil)).or (call_isXd T.xs_InvalidText.c)) rfl T.b_isinstance (by decide +kernel) (pa_cons (vm 2) (pa_cons (pe_glob rfl T.g_Ratio rfl) pa_nil)))) (pe_callTy (call_uStr (call_strD (does_Ratio___str T) (hr.mono (by decide)) T.m_Ratio___str pass0)) rfl T.b_str (by decide +kernel) (pa_cons (vm 2) pa_nil)) pe_str))) pss_nil) (pss_one (ps_ret (pe_ifExp (PW.pt (pw_and (pt_u (pe_callB ((call_uIsi (fun _ h => absurd h List.not_mem_nil)).or (call_isXd T.xs_InvalidText.c)) rfl T.b_isinstance (by decide +kernel) (pa_cons (vm 1) (pa_cons (pe_glob rfl T.g_InvalidText rfl) pa_nil)))) (pw_and1 (pt_u (pe_callB ((call_uIsi (fun _ h => absurd h List.not_mem_nil)).or (call_isXd T.xs_InvalidText.c)) rfl T.b_isinstance (by decide +kernel) (pa_cons (vm 1) (pa_cons (pe_bltn rfl T.b_ValueError (by decide +kernel) rfl) pa_nil))))))) (pe_xfE T.xs_InvalidText T.n_InvalidText_row (vm 1)) pe_str))))))
def t_law_changed (K : PySem.W.Frag) (a : Ad) : TS := (tSeq (tAsg (tF (sp_law_take K a) (fun _ => E0) (tCons (vM 0) (tCons (tOp (uAdd K noOp) (tCB (uLen K) (tCons (vM 1) tNil)) (tC (.int 1))) tNil))) (gName 2)) (tSeq (tAsg (tF (sp_law_pick K a) (fun _ => E0) (tCons (vM 0) (tCons (tC (.str "0123456789/- +._eax\n")) tNil))) (gName 3)) (tSeq (tPar 4 5 (tCons (tSl rSlS (vM 1) tNoPart (tPart (vM 2))) (tCons (tSl rSlS (vM 1) (tPart (tOp (uAdd K noOp) (vM 2) (tC (.int 1)))) tNoPart) tNil))) (tSeq (tAsg (tLst (tCons (tOp (uAdd K noOp) (tOp (uAdd K noOp) (vM 4) (vM 3)) (tSl rSlS (vM 1) (tPart (vM 2)) tNoPart)) (tCons (tOp (uAdd K noOp) (vM 4) (vM 5)) tNil))) (gName 6)) (tRet (tF (sp_law_pick K a) (fun _ => E0) (tCons (vM 0) (tCons (tOp (uAdd K noOp) (vM 6) (tLst (tCons (tOp (uAdd K noOp) (tOp (uAdd K noOp) (vM 4) (vM 3)) (vM 5)) tNil))) tNil))))))))
theorem pure_law_changed (T : Txt K mg a) : ∀ vs H Q E, sp_law_changed K a vs H Q E → t_law_changed K a { nx := fun _ H' => Q .non H', rt := Q } (start ["feed", "text", "at", "sign", "left", "right", "some"] vs) H := by
  intro vs H Q E h
  unfold sp_law_changed at h
  split at h
  next f z =>
    obtain ⟨hf, n, hn, gz, k⟩ := h
    have zl := gz.1
    have zs : z.length ≤ sizeLine := Nat.le_trans zl (Nat.le_trans hn (by decide))
    have sl : sizeLine = 16777216 := rfl
    refine ⟨.str z, z.length, rfl, ⟨zs, rfl⟩, hf, by omega, Nat.lt_of_lt_of_le (lgi (k := 64) (by decide) (by omega)) (by decide), fun i G i0 i1 b1 f1 => ?_⟩
    refine ⟨f1, by rw [signs_len]; decide, by rw [signs_len]; decide, fun c G2 hc b2 f2 => ?_⟩
    have gc : Gn 1 ⟨#[c]⟩ := Gn.one (of_decide_eq_true (List.all_eq_true.mp signs_ok c hc))
    refine ⟨i, rfl, z, rfl, zs, i + 1, rfl, z, rfl, zs, ?_⟩
    have gl := gz.cut none (some i)
    have gr := gz.cut (some (i + 1)) none
    have gm := gz.cut (some i) none
    have l1 := gl.1
    have l2 := gr.1
    have l3 := gm.1
    have l4 := gc.1
    have q1 := gl.app gc
    have q2 := (gl.app gc).app gm
    have q3 := gl.app gr
    have q4 := (gl.app gc).app gr
    have l5 := q1.1
    refine ⟨_, _, rfl, by omega, i, rfl, z, rfl, zs, by omega, by omega, by show 2 ≤ sizeLine; decide, fun l hl => ?_⟩
    have b12 := b1.trans (b2.trans (But.of (same_new (o := .lst [.str (cutS z none (some i) ++ ⟨#[c]⟩ ++ cutS z (some i) none), .str (cutS z none (some i) ++ cutS z (some (i + 1)) none)]) hl)))
    have f3 := f2.mono (same_new (o := .lst [.str (cutS z none (some i) ++ ⟨#[c]⟩ ++ cutS z (some i) none), .str (cutS z none (some i) ++ cutS z (some (i + 1)) none)]) hl)
    have e3 := upd_same (H := G2) (a := l) (o := .lst [.str (cutS z none (some i) ++ ⟨#[c]⟩ ++ cutS z (some i) none), .str (cutS z none (some i) ++ cutS z (some (i + 1)) none)])
    generalize upd G2 l (.lst [.str (cutS z none (some i) ++ ⟨#[c]⟩ ++ cutS z (some i) none), .str (cutS z none (some i) ++ cutS z (some (i + 1)) none)]) = G3 at b12 f3 e3
    refine ⟨by omega, by omega, by show 1 ≤ sizeLine; decide, fun l7 hl7 => ?_⟩
    refine .inl ⟨l, l7, _, _, rfl, rfl, same_new hl7 _ _ e3, upd_same, by show 3 ≤ sizeLine; decide, fun l8 hl8 => ?_⟩
    have s8 := (same_new (o := .lst [.str (cutS z none (some i) ++ ⟨#[c]⟩ ++ cutS z (some (i + 1)) none)]) hl7).trans (same_new (o := .lst ([.str (cutS z none (some i) ++ ⟨#[c]⟩ ++ cutS z (some i) none), .str (cutS z none (some i) ++ cutS z (some (i + 1)) none)] ++ [.str (cutS z none (some i) ++ ⟨#[c]⟩ ++ cutS z (some (i + 1)) none)])) hl8)
    have f8 := f3.mono s8
    refine ⟨_, f8, upd_same, butNe (f3.mono (same_new hl7)) hl8, by simp, by show 3 ≤ 1000; decide, fun v M hv bM fM => ?_⟩
    have all := b12.trans ((But.of s8).trans bM)
    simp only [List.mem_append, List.mem_cons, List.not_mem_nil, or_false] at hv
    rcases hv with (e | e) | e
    · rw [e]
      exact k _ M q2.mono all fM
    · rw [e]
      exact k _ M q3.mono all fM
    · rw [e]
      exact k _ M q4.mono all fM
  next => exact h.elim
theorem len_law_changed (K : PySem.W.Frag) (a : Ad) : ∀ vs H Q E, sp_law_changed K a vs H Q E → vs.length = 2 := by
  intro vs H Q E h
  unfold sp_law_changed at h
  split at h <;> first | rfl | exact h.elim
theorem does_law_changed (T : Txt K mg a) : Does P w K mg base CX0 3 a.f_law_changed ["feed", "text"] (sp_law_changed K a) := by
  obtain ⟨fd, F⟩ := T.d_law_changed
  refine does0 F sc_law_changed (fun _ _ _ _ _ _ us hl => match us, hl with | [_, _], _ => rfl) (len_law_changed K a) (t_law_changed K a) (fun cdv A out s H E hr => ?_) (pure_law_changed T)
  exact (pss_cons (ps_set (i := 2) sc_law_changed.nd rfl (Or.inl rfl) (pe_f (does_law_take T) T.g_law_take (hr.mono (by decide)) pN0 (pa_cons (vm 0) (pa_cons (pe_op (op_uAdd opNo) (pe_callB call_uLen rfl T.b_len (by decide +kernel) (pa_cons (vm 1) pa_nil)) pe_int) pa_nil)))) (pss_cons (ps_set (i := 3) sc_law_changed.nd rfl (Or.inl rfl) (pe_f (does_law_pick T) T.g_law_pick (hr.mono (by decide)) pN0 (pa_cons (vm 0) (pa_cons pe_str pa_nil)))) (pss_cons (ps_par (i := 4) (j := 5) rfl sc_law_changed.nd rfl rfl (by decide) rfl rfl (pa_cons (pe_slice sl_str (vm 1) po_none (po_some (vm 2))) (pa_cons (pe_slice sl_str (vm 1) (po_some (pe_op (op_uAdd opNo) (vm 2) pe_int)) po_none) pa_nil)) rfl) (pss_cons (ps_set (i := 6) sc_law_changed.nd rfl (Or.inl rfl) (pe_lst (pa_cons (pe_op (op_uAdd opNo) (pe_op (op_uAdd opNo) (vm 4) (vm 3)) (pe_slice sl_str (vm 1) (po_some (vm 2)) po_none)) (pa_cons (pe_op (op_uAdd opNo) (vm 4) (vm 5)) pa_nil)))) (pss_one (ps_ret (pe_f (does_law_pick T) T.g_law_pick (hr.mono (by decide)) pN0 (pa_cons (vm 0) (pa_cons (pe_op (op_uAdd opNo) (vm 6) (pe_lst (pa_cons (pe_op (op_uAdd opNo) (pe_op (op_uAdd opNo) (vm 4) (vm 3)) (vm 5)) pa_nil))) pa_nil)))))))))
end
end FP
namespace FP
open PySem PySem.Spec PyProof.Rows L2
section
variable {P : Program} {w : World} {K : PySem.W.Frag} {mg : Str → Option Value} {base : Heap} {a : Ad}

def t_law (K : PySem.W.Frag) (a : Ad) : TS := (tSeq (tFor (iRng1 (tCons (tCB uMax (tCons (tC (.int 2)) (tCons (tCB uMin (tCons (tC (.int 5)) (tCons (tCB (uLen K) (tCons (vM 0) tNil)) tNil))) tNil))) tNil)) (gName 1) (tSeq (tAsg (tF (sp_law_feed K a) (fun _ => E0) (tCons (vM 0) (tCons (vM 1) tNil))) (gName 2)) (tSeq (tAsg (tLst (tCons (tC (.str "")) (tCons (tC (.str "-")) (tCons (tC (.str "/")) (tCons (tC (.str "0")) (tCons (tC (.str "-0")) (tCons (tC (.str "00")) (tCons (tC (.str "1/1")) (tCons (tC (.str "2/1")) (tCons (tC (.str "0/2")) (tCons (tC (.str "-0/2")) (tCons (tC (.str "1/0")) (tCons (tC (.str "1/-2")) (tCons (tC (.str "-1/2")) (tCons (tC (.str "--1")) tNil))))))))))))))) (gName 3)) (tSeq (tAsg (tOp (uAdd K noOp) (vM 3) (tLst (tCons (tC (.str "2/4")) (tCons (tC (.str "-6/9")) (tCons (tC (.str "+1")) (tCons (tC (.str " 1")) (tCons (tC (.str "1 ")) (tCons (tC (.str "1/ 2")) (tCons (tC (.str "1//2")) (tCons (tC (.str "1/2/3")) (tCons (tC (.str "1/")) (tCons (tC (.str "/2")) (tCons (tC (.str "01")) (tCons (tC (.str "1/02")) tNil)))))))))))))) (gName 3)) (tSeq (tAsg (tOp (uAdd K noOp) (vM 3) (tLst (tCons (tC (.str "1.0")) (tCons (tC (.str "1_0")) (tCons (tC (.str "1e3")) (tCons (tC (.str "0x1")) (tCons (tC (.str "1\n")) tNil))))))) (gName 3)) (tSeq (tAsg (tOp (uAdd K noOp) (vM 3) (tLst (tCons (tOp (uMulS noOp) (tC (.str "9")) (tC (.int 1000))) (tCons (tOp (uAdd K noOp) (tC (.str "-")) (tOp (uMulS noOp) (tC (.str "9")) (tC (.int 1000)))) (tCons (tOp (uAdd K noOp) (tC (.str "1/")) (tOp (uMulS noOp) (tC (.str "3")) (tC (.int 1000)))) (tCons (tOp (uAdd K noOp) (tOp (uAdd K noOp) (tOp (uMulS noOp) (tC (.str "7")) (tC (.int 1000))) (tC (.str "/"))) (tOp (uMulS noOp) (tC (.str "9")) (tC (.int 1000)))) tNil)))))) (gName 3)) (tSeq (tAsg (tOp (uAdd K noOp) (vM 3) (tLst (tCons (tOp (uMulS noOp) (tC (.str "9")) (tC (.int 900))) (tCons (tOp (uAdd K noOp) (tC (.str "-")) (tOp (uMulS noOp) (tC (.str "9")) (tC (.int 900)))) (tCons (tOp (uAdd K noOp) (tC (.str "1/")) (tOp (uMulS noOp) (tC (.str "3")) (tC (.int 900)))) (tCons (tOp (uAdd K noOp) (tOp (uAdd K noOp) (tOp (uMulS noOp) (tC (.str "2")) (tC (.int 900))) (tC (.str "/"))) (tOp (uMulS noOp) (tC (.str "2")) (tC (.int 901)))) (tCons (tOp (uMulS noOp) (tC (.str "0")) (tC (.int 900))) tNil))))))) (gName 3)) (tSeq (tAsg (tOp (uAdd K noOp) (vM 3) (tLst (tCons (tOp (uAdd K noOp) (tOp (uAdd K noOp) (tOp (uAdd K noOp) (tOp (uAdd K noOp) (tOp (uAdd K noOp) (tC (.str "1")) (tOp (uMulS noOp) (tC (.str "0")) (tC (.int 500)))) (tC (.str "/"))) (tC (.str "1"))) (tOp (uMulS noOp) (tC (.str "0")) (tC (.int 499)))) (tC (.str "1"))) (tCons (tOp (uAdd K noOp) (tOp (uAdd K noOp) (tOp (uMulS noOp) (tC (.str "3")) (tC (.int 500))) (tC (.str "/"))) (tOp (uMulS noOp) (tC (.str "9")) (tC (.int 500)))) tNil)))) (gName 3)) (tSeq (tFor (iRng1 (tCons (tC (.int 20)) tNil)) (gName 4) (tSeq (tAsg (tF (sp_law_pair K a) (fun _ => E0) (tCons (vM 2) tNil)) (gTup K 2 (gCons (gName 5) (gCons (gName 6) gNil)))) (tSeq (tAsg (tF (sp_law_text K a) (fun _ => E0) (tCons (vM 5) (tCons (vM 6) tNil))) (gName 7)) (tSeq (tFor (iRng1 (tCons (tF (sp_law_pick K a) (fun _ => E0) (tCons (vM 2) (tCons (tLst (tCons (tC (.int 0)) (tCons (tC (.int 1)) (tCons (tC (.int 1)) (tCons (tC (.int 2)) (tCons (tC (.int 3)) tNil)))))) tNil))) tNil)) (gName 8) (tAsg (tF (sp_law_changed K a) (fun _ => E0) (tCons (vM 2) (tCons (vM 7) tNil))) (gName 7))) (tDrop (tBM K "list" rAppend (vM 3) (tCons (vM 7) tNil))))))) (tFor (iList K (vM 3)) (gName 7) (tSeq (tAsg (tIf (tTr K (tF (sp_law_is_text K a) (fun _ => E0) (tCons (vM 7) tNil))) (vM 7) (tC (.int 0))) (gName 9)) (tIfS (tyes (tOp (uNe K noOp) (tCB (rRepr K) (tCons (tF (sp_law_told K a) (fun _ => E0) (tCons (vM 7) tNil)) tNil)) (tCB (rRepr K) (tCons (vM 9) tNil)))) (tRet (tC (.bl false))) tNext)))))))))))) (tRet (tC (.bl true))))
theorem pure_law (T : Txt K mg a) : ∀ vs H Q E, sp_law K a vs H Q E → t_law K a { nx := fun _ H' => Q .non H', rt := Q } (start ["script", "k", "feed", "texts", "turn", "top", "bottom", "text", "again", "due"] vs) H := by
  intro vs H Q E h
  unfold sp_law at h
  split at h
  next p =>
    obtain ⟨ns, hs, hl, hb, q⟩ := h
    refine ⟨.ref p, _, rfl, .inl ⟨_, hs, rfl⟩, ?_⟩
    refine ⟨_, rfl, ?_, ?_, ?_⟩
    · split <;> split <;> omega
    · split <;> split <;> omega
    refine for_range (fun _ τ G => Same H G ∧ ∃ x1 x2 x3 x4 x5 x6 x7 x8 x9, τ = [some (.ref p), x1, x2, x3, x4, x5, x6, x7, x8, x9]) ⟨Same.refl H, _, _, _, _, _, _, _, _, _, rfl⟩ ?_ ?_
    case refine_2 => exact fun τ G _ => q G
    rintro i τ G hi ⟨sG, x1, x2, x3, x4, x5, x6, x7, x8, x9, rfl⟩
    refine ⟨ns, sG.seq hs, hb, hl, by omega, ?_, fun f G1 hf s1 hfeed => ?_⟩
    · split at hi <;> split at hi <;> omega
    have sl : sizeLine = 16777216 := rfl
    refine ⟨by show 14 ≤ sizeLine; decide, fun D0 h0 => ?_⟩
    have t0 : Tx (upd G1 D0 (.lst (L1.map V.str))) D0 14 := ⟨L1, upd_same, Nat.le_refl 14, Gn.all law1⟩
    have s2 : Same G1 (upd G1 D0 (.lst (L1.map V.str))) := same_new h0
    have n0 := h0
    show tSeq _ _ _ _ (upd G1 D0 (.lst (L1.map V.str)))
    generalize upd G1 D0 (.lst (L1.map V.str)) = J0 at t0 s2
    refine ⟨by show 12 ≤ sizeLine; decide, ?_⟩
    refine tx_cat (ys := L2') t0 (by decide) (Gn.all law2) fun D1 J1 s3 n1 t1 => ?_
    refine ⟨by show 5 ≤ sizeLine; decide, ?_⟩
    refine tx_cat (ys := L3) t1 (by decide) (Gn.all law3) fun D2 J2 s4 n2 t2 => ?_
    have a9 := (gmul (Str.ofString "9") 1000 57 1000).1
    have a3 := (gmul (Str.ofString "3") 1000 51 1000).1
    have a7 := (gmul (Str.ofString "7") 1000 55 1000).1
    have b9 := (gmul (Str.ofString "9") 900 57 900).1
    have b3 := (gmul (Str.ofString "3") 900 51 900).1
    have b2 := (gmul (Str.ofString "2") 900 50 900).1
    have b1 := (gmul (Str.ofString "2") 901 50 901).1
    have b0 := (gmul (Str.ofString "0") 900 48 900).1
    have d0 := (gmul (Str.ofString "0") 500 48 500).1
    have d1 := (gmul (Str.ofString "0") 499 48 499).1
    have d3 := (gmul (Str.ofString "3") 500 51 500).1
    have d9 := (gmul (Str.ofString "9") 500 57 500).1
    have e1 := c1.1
    have em := cm.1
    have es := cs.1
    have e2 := c1s.1
    refine ⟨mok (Str.ofString "9") 1000 57, ?_⟩
    refine ⟨mok (Str.ofString "9") 1000 57, ?_⟩
    refine ⟨by (try simp only [strLen_append]); omega, ?_⟩
    refine ⟨mok (Str.ofString "3") 1000 51, ?_⟩
    refine ⟨by (try simp only [strLen_append]); omega, ?_⟩
    refine ⟨mok (Str.ofString "7") 1000 55, ?_⟩
    refine ⟨by (try simp only [strLen_append]); omega, ?_⟩
    refine ⟨mok (Str.ofString "9") 1000 57, ?_⟩
    refine ⟨by (try simp only [strLen_append]); omega, ?_⟩
    refine ⟨by show 4 ≤ sizeLine; decide, ?_⟩
    refine tx_cat (ys := L4) t2 (by decide) ok4 fun D3 J3 s5 n3 t3 => ?_
    refine ⟨mok (Str.ofString "9") 900 57, ?_⟩
    refine ⟨mok (Str.ofString "9") 900 57, ?_⟩
    refine ⟨by (try simp only [strLen_append]); omega, ?_⟩
    refine ⟨mok (Str.ofString "3") 900 51, ?_⟩
    refine ⟨by (try simp only [strLen_append]); omega, ?_⟩
    refine ⟨mok (Str.ofString "2") 900 50, ?_⟩
    refine ⟨by (try simp only [strLen_append]); omega, ?_⟩
    refine ⟨mok (Str.ofString "2") 901 50, ?_⟩
    refine ⟨by (try simp only [strLen_append]); omega, ?_⟩
    refine ⟨mok (Str.ofString "0") 900 48, ?_⟩
    refine ⟨by show 5 ≤ sizeLine; decide, ?_⟩
    refine tx_cat (ys := L5) t3 (by decide) ok5 fun D4 J4 s6 n4 t4 => ?_
    refine ⟨mok (Str.ofString "0") 500 48, ?_⟩
    refine ⟨by (try simp only [strLen_append]); omega, ?_⟩
    refine ⟨by (try simp only [strLen_append]); omega, ?_⟩
    refine ⟨by (try simp only [strLen_append]); omega, ?_⟩
    refine ⟨mok (Str.ofString "0") 499 48, ?_⟩
    refine ⟨by (try simp only [strLen_append]); omega, ?_⟩
    refine ⟨by (try simp only [strLen_append]); omega, ?_⟩
    refine ⟨mok (Str.ofString "3") 500 51, ?_⟩
    refine ⟨by (try simp only [strLen_append]); omega, ?_⟩
    refine ⟨mok (Str.ofString "9") 500 57, ?_⟩
    refine ⟨by (try simp only [strLen_append]); omega, ?_⟩
    refine ⟨by show 2 ≤ sizeLine; decide, ?_⟩
    refine tx_cat (ys := L6) t4 (by decide) ok6 fun D J5 s7 n5 t5 => ?_
    have nG : G D = none := s1.free (s2.free (s3.free (s4.free (s5.free (s6.free n5)))))
    have s07 : Same G1 J5 := s2.trans (s3.trans (s4.trans (s5.trans (s6.trans s7))))
    have f07 := hfeed.mono s07
    have s17 := s1.trans s07
    have t5 : Tx J5 D 42 := t5
    refine ⟨_, rfl, by decide, by decide, ?_⟩
    refine for_range (fun j τ J => Same G J ∧ Feed J f ∧ Tx J D (42 + j) ∧ ∃ x1 x4 x5 x6 x7 x8 x9, τ = [some (.ref p), x1, some (.ref f), some (.ref D), x4, x5, x6, x7, x8, x9]) ⟨s17, f07, t5, _, _, _, _, _, _, _, rfl⟩ ?_ ?_
    · rintro j τ J hj ⟨sJ, fJ, tJ, y1, y4, y5, y6, y7, y8, y9, rfl⟩
      refine ⟨fJ, fun t b p1 M1 ht hb0 hb1 but1 f1 m1 e1 => ?_⟩
      refine ⟨p1, _, rfl, SqT.of e1, rfl, _, _, rfl, _, _, rfl, rfl, ?_⟩
      have nDf : D ≠ f := by
        rintro rfl
        obtain ⟨zs, h1, _⟩ := tJ
        obtain ⟨d, s, e, _⟩ := fJ
        rw [h1] at e
        injection e with e
        injection e with e
        cases zs with
        | nil => cases e
        | cons z r => cases e
      have tM1 : Tx M1 D (42 + j) := let ⟨zs, h1, h2⟩ := tJ; ⟨zs, but1 _ _ nDf h1, h2⟩
      have sM1 := keepB hf sJ but1
      have lt := b20 ht
      have lb := b20 hb1
      refine ⟨hb0, by omega, by omega, fun M2 s22 => ?_⟩
      have g0 := len_txt (t := t) hb0 ht hb1
      generalize txt (Rat.divInt t b) = z0 at g0
      have tM2 : Tx M2 D (42 + j) := let ⟨zs, h1, h2⟩ := tM1; ⟨zs, s22 _ _ h1, h2⟩
      have f2 := f1.mono s22
      refine ⟨by show 5 ≤ sizeLine; decide, fun l hl => ?_⟩
      have s23 : Same M2 (upd M2 l (.lst [.int 0, .int 1, .int 1, .int 2, .int 3])) := same_new hl
      refine ⟨_, f2.mono s23, upd_same, butNe f2 hl, by simp, by show 5 ≤ 1000; decide, fun v M4 hv but4 f4 => ?_⟩
      have tM4 : Tx M4 D (42 + j) := let ⟨zs, h1, h2⟩ := tM2; ⟨zs, but4 _ _ nDf (s23 _ _ h1), h2⟩
      have sM4 := keepB hf ((sM1.trans s22).trans s23) but4
      have hv' : ∃ c : Int, v = .int c ∧ 0 ≤ c ∧ c ≤ 3 := by
        simp only [List.mem_cons, List.not_mem_nil, or_false] at hv
        rcases hv with e | e | e | e | e <;> exact ⟨_, e, by decide, by decide⟩
      obtain ⟨c, rfl, hc0, hc1⟩ := hv'
      refine ⟨_, rfl, by omega, by omega, ?_⟩
      refine for_range (fun m τ N => Same G N ∧ Feed N f ∧ Tx N D (42 + j) ∧ ∃ z x8, τ = [some (.ref p), y1, some (.ref f), some (.ref D), some (.int (0 + (j : Int))), some (.int t), some (.int b), some (.str z), x8, y9] ∧ Gn (60 * 2 ^ m + 2 ^ m - 1) z) ⟨sM4, f4, tM4, z0, _, rfl, g0.mono⟩ ?_ ?_
      · rintro m τ N hm ⟨sN, fN, tN, z, x8, rfl, gz⟩
        have hm : m < 3 := by omega
        have pm : 2 ^ m ≤ 8 := by
          have := Nat.pow_le_pow_right (by decide : 0 < 2) (by omega : m ≤ 3)
          omega
        have p1 := Nat.one_le_two_pow (n := m)
        refine ⟨fN, _, by omega, gz, fun y N2 gy bN fN2 => ?_⟩
        refine ⟨keepB hf sN bN, fN2, let ⟨zs, h1, h2⟩ := tN; ⟨zs, bN _ _ nDf h1, h2⟩, y, _, rfl, gy.mono ?_⟩
        rw [Nat.pow_succ]
        omega
      · rintro τ N ⟨sN, fN, ⟨zs, hz, lz, az⟩, z, x8, rfl, gz⟩
        have pm : 2 ^ c.toNat ≤ 8 := by
          have := Nat.pow_le_pow_right (by decide : 0 < 2) (by omega : c.toNat ≤ 3)
          omega
        have gd : Gd z := gz.mono (m := 2100)
        refine ⟨.inl ⟨rfl, _, SqL.of hz⟩, D, _, _, rfl, rfl, hz, by rw [List.length_map]; exact Nat.lt_of_le_of_lt lz (by omega), ?_⟩
        refine ⟨keepU nG sN, ?_, ⟨zs ++ [z], ?_, ?_, ?_⟩, _, _, _, _, _, _, _, rfl⟩
        · obtain ⟨d, s, e, r⟩ := fN
          exact ⟨d, s, by rw [upd_ne (Ne.symm nDf)]; exact e, r⟩
        · rw [upd_same, List.map_append]
          rfl
        · rw [List.length_append]
          show zs.length + 1 ≤ _
          omega
        · intro w hw
          rcases List.mem_append.mp hw with e | e
          · exact az w e
          · rw [List.mem_singleton.mp e]
            exact gd
    · rintro τ J ⟨sJ, fJ, ⟨zs, hz, lz, az⟩, y1, y4, y5, y6, y7, y8, y9, rfl⟩
      refine ⟨D, rfl, ⟨_, SqL.of hz⟩, ?_⟩
      refine for_list (K := K) (a := D) (xs := zs.map V.str) (fun _ τ M => Same J M ∧ ∃ x7 x9, τ = [some (.ref p), y1, some (.ref f), some (.ref D), y4, y5, y6, x7, y8, x9]) ⟨Same.refl J, _, _, rfl⟩ (fun _ _ M _ ⟨sM, _⟩ => SqL.of (sM _ _ hz)) ?_ ?_
      · rintro m v τ M hm ⟨sM, x7, x9, rfl⟩
        obtain ⟨z, hzm, rfl⟩ := List.mem_map.mp (List.mem_of_getElem? hm)
        have gd := az z hzm
        refine ⟨gd, fun M1 s1 => ?_⟩
        cases eo : okT z with
        | true =>
          try refine iteT ?_
          refine ⟨gd, fun M2 s2 => ?_⟩
          rw [if_pos eo]
          refine ⟨_, _, rfl, .str z, rfl, shown_ok gd, by simp [PyData.depth], ?_⟩
          refine ⟨_, _, rfl, .str z, rfl, shown_ok gd, by simp [PyData.depth], ?_⟩
          simp only [tC]
          refine neS rfl ?_
          try refine iteF ?_
          exact ⟨sM.trans (s1.trans s2), _, _, rfl⟩
        | false =>
          try refine iteF ?_
          refine ⟨gd, fun M2 s2 => ?_⟩
          rw [if_neg (by rw [eo]; exact Bool.false_ne_true)]
          refine ⟨_, _, rfl, .int 0, by decide, by rw [shown1]; exact line5 (by decide +kernel), by decide, ?_⟩
          refine ⟨_, _, rfl, .int 0, by decide, by rw [shown1]; exact line5 (by decide +kernel), by decide, ?_⟩
          simp only [tC]
          refine neS rfl ?_
          try refine iteF ?_
          exact ⟨sM.trans (s1.trans s2), _, _, rfl⟩
      · rintro τ M ⟨sM, x7, x9, rfl⟩
        exact ⟨sG.trans (sJ.trans sM), _, _, _, _, _, _, _, _, _, rfl⟩
  next => exact h.elim
theorem len_law (K : PySem.W.Frag) (a : Ad) : ∀ vs H Q E, sp_law K a vs H Q E → vs.length = 1 := by
  intro vs H Q E h
  unfold sp_law at h
  split at h <;> first | rfl | exact h.elim
theorem fn_law (T : Txt K mg a) {fd : FuncData} (F : Fun K "law" "law" s_law a.f_law fd) : FnG P w K mg base CX0 6 a.f_law fd ["script"] (sp_law K a) := by
  refine fnG0 F sc_law (len_law K a) (t_law K a) (fun cdv A out s H E hg hr => ?_) (pure_law T)
  exact (pss_cons (ps_for PassesOwn.never rfl (pi_range1 rfl T.b_range (pa_cons (pe_callB (call_uMax rfl) rfl T.b_max (by decide +kernel) (pa_cons pe_int (pa_cons (pe_callB (call_uMin rfl) rfl T.b_min (by decide +kernel) (pa_cons pe_int (pa_cons (pe_callB call_uLen rfl T.b_len (by decide +kernel) (pa_cons (vm 0) pa_nil)) pa_nil))) pa_nil))) pa_nil)) (pg_name (i := 1) sc_law.nd rfl (Or.inl rfl)) (pss_cons (ps_set (i := 2) sc_law.nd rfl (Or.inl rfl) (pe_f (does_law_feed T) T.g_law_feed (hr.mono (by decide)) pN0 (pa_cons (vm 0) (pa_cons (vm 1) pa_nil)))) (pss_cons (ps_set (i := 3) sc_law.nd rfl (Or.inl rfl) (pe_lst (pa_cons pe_str (pa_cons pe_str (pa_cons pe_str (pa_cons pe_str (pa_cons pe_str (pa_cons pe_str (pa_cons pe_str (pa_cons pe_str (pa_cons pe_str (pa_cons pe_str (pa_cons pe_str (pa_cons pe_str (pa_cons pe_str (pa_cons pe_str pa_nil)))))))))))))))) (pss_cons (ps_set (i := 3) sc_law.nd rfl (Or.inl rfl) (pe_op (op_uAdd opNo) (vm 3) (pe_lst (pa_cons pe_str (pa_cons pe_str (pa_cons pe_str (pa_cons pe_str (pa_cons pe_str (pa_cons pe_str (pa_cons pe_str (pa_cons pe_str (pa_cons pe_str (pa_cons pe_str (pa_cons pe_str (pa_cons pe_str pa_nil))))))))))))))) (pss_cons (ps_set (i := 3) sc_law.nd rfl (Or.inl rfl) (pe_op (op_uAdd opNo) (vm 3) (pe_lst (pa_cons pe_str (pa_cons pe_str (pa_cons pe_str (pa_cons pe_str (pa_cons pe_str pa_nil)))))))) (pss_cons (ps_set (i := 3) sc_law.nd rfl (Or.inl rfl) (pe_op (op_uAdd opNo) (vm 3) (pe_lst (pa_cons (pe_op (op_uMulS opNo) pe_str pe_int) (pa_cons (pe_op (op_uAdd opNo) pe_str (pe_op (op_uMulS opNo) pe_str pe_int)) (pa_cons (pe_op (op_uAdd opNo) pe_str (pe_op (op_uMulS opNo) pe_str pe_int)) (pa_cons (pe_op (op_uAdd opNo) (pe_op (op_uAdd opNo) (pe_op (op_uMulS opNo) pe_str pe_int) pe_str) (pe_op (op_uMulS opNo) pe_str pe_int)) pa_nil))))))) (pss_cons (ps_set (i := 3) sc_law.nd rfl (Or.inl rfl) (pe_op (op_uAdd opNo) (vm 3) (pe_lst (pa_cons (pe_op (op_uMulS opNo) pe_str pe_int) (pa_cons (pe_op (op_uAdd opNo) pe_str (pe_op (op_uMulS opNo) pe_str pe_int)) (pa_cons (pe_op (op_uAdd opNo) pe_str (pe_op (op_uMulS opNo) pe_str pe_int)) (pa_cons (pe_op (op_uAdd opNo) (pe_op (op_uAdd opNo) (pe_op (op_uMulS opNo) pe_str pe_int) pe_str) (pe_op (op_uMulS opNo) pe_str pe_int)) (pa_cons (pe_op (op_uMulS opNo) pe_str pe_int) pa_nil)))))))) (pss_cons (ps_set (i := 3) sc_law.nd rfl (Or.inl rfl) (pe_op (op_uAdd opNo) (vm 3) (pe_lst (pa_cons (pe_op (op_uAdd opNo) (pe_op (op_uAdd opNo) (pe_op (op_uAdd opNo) (pe_op (op_uAdd opNo) (pe_op (op_uAdd opNo) pe_str (pe_op (op_uMulS opNo) pe_str pe_int)) pe_str) pe_str) (pe_op (op_uMulS opNo) pe_str pe_int)) pe_str) (pa_cons (pe_op (op_uAdd opNo) (pe_op (op_uAdd opNo) (pe_op (op_uMulS opNo) pe_str pe_int) pe_str) (pe_op (op_uMulS opNo) pe_str pe_int)) pa_nil))))) (pss_cons (ps_for PassesOwn.never rfl (pi_range1 rfl T.b_range (pa_cons pe_int pa_nil)) (pg_name (i := 4) sc_law.nd rfl (Or.inl rfl)) (pss_cons (ps_asg (pe_f (does_law_pair T) T.g_law_pair (hr.mono (by decide)) pN0 (pa_cons (vm 2) pa_nil)) (pg_tup rfl (pgs_cons (pg_name (i := 5) sc_law.nd rfl (Or.inl rfl)) (pgs_cons (pg_name (i := 6) sc_law.nd rfl (Or.inl rfl)) pgs_nil)))) (pss_cons (ps_set (i := 7) sc_law.nd rfl (Or.inl rfl) (pe_f (does_law_text T) T.g_law_text (hr.mono (by decide)) pN0 (pa_cons (vm 5) (pa_cons (vm 6) pa_nil)))) (pss_cons (ps_for PassesOwn.never rfl (pi_range1 rfl T.b_range (pa_cons (pe_f (does_law_pick T) T.g_law_pick (hr.mono (by decide)) pN0 (pa_cons (vm 2) (pa_cons (pe_lst (pa_cons pe_int (pa_cons pe_int (pa_cons pe_int (pa_cons pe_int (pa_cons pe_int pa_nil)))))) pa_nil))) pa_nil)) (pg_name (i := 8) sc_law.nd rfl (Or.inl rfl)) (pss_one (ps_set (i := 7) sc_law.nd rfl (Or.inl rfl) (pe_f (does_law_changed T) T.g_law_changed (hr.mono (by decide)) pN0 (pa_cons (vm 2) (pa_cons (vm 7) pa_nil)))))) (pss_one (ps_expr (pe_bm PySem.F.plainAttrs_list PySem.F.slot_list_append PySem.F.type_list_append mt_append (vm 3) (pa_cons (vm 7) pa_nil)))))))) (pss_one (ps_for PassesOwn.never rfl (pi_list (vm 3)) (pg_name (i := 7) sc_law.nd rfl (Or.inl rfl)) (pss_cons (ps_set (i := 9) sc_law.nd rfl (Or.inl rfl) (pe_ifExp (pt_u (pe_f (does_law_is_text T) T.g_law_is_text (hr.mono (by decide)) pN0 (pa_cons (vm 7) pa_nil))) (vm 7) pe_int)) (pss_one (ps_if (pt_c (op_uNe (by have := hr.units; exact this) opNo) (pe_callB (call_repr hg hr) rfl T.b_repr (by decide +kernel) (pa_cons (pe_f (does_law_told T) T.g_law_told (hr.mono (by decide)) pN0 (pa_cons (vm 7) pa_nil)) pa_nil)) (pe_callB (call_repr hg hr) rfl T.b_repr (by decide +kernel) (pa_cons (vm 9) pa_nil)) (nomark _)) (pss_one (ps_ret pe_bl)) pss_nil)))))))))))))) (pss_one (ps_ret pe_bl)))
end
end FP
namespace FP
open PySem PySem.Spec PyProof.Rows L2
abbrev R : PySem.W.OpenRow := PySem.W.OpenLaw.row PySem.Challenge.rw_foldparts_k04_texts_of_ratios
abbrev hk : PySem.W.Hook := hookX 6 fns more
def ob (s : PySem.W.SharedT) : AlF := obsXG 6 fns more (HandSHeadRun.getT s)
theorem ob_eq (s : PySem.W.SharedT) : ob s = hk.obs s.abs := obsX_eq (HandSHeadRun.getT_eq s)
def loose : List PySem.Str := ["_wall", "__name__", "PartError", "InvalidText", "ZeroDenominator", "DIGITS", "common_divisor", "is_number", "is_positive_text", "Ratio", "_law_feed", "_law_take", "_law_pick", "_law_integer", "_law_pair", "_law_lowest", "_law_text", "_law_is", "_law_is_number", "_law_is_text", "_law_told", "_law_changed"]
theorem run (w : World) : HandSHeadRun.RunEq R (PySem.W.view R.prog [24]) hk ob 2000 loose w := by
  intro os
  kernel_rfl
end FP
theorem FP.bits {z : Int} (h : PySem.Builtin.Int.intBits z ≤ 1048576) : z.natAbs.log2 ≤ 1048576 := by
  unfold PySem.Builtin.Int.intBits at h
  split at h
  next e =>
    have e : z = 0 := by simpa using e
    rw [e]
    decide
  next => omega
open PySem PySem.W PySem.Calls PyProof.Rows
theorem PySem.Challenge.cw_foldparts_k04_texts_of_ratios_holds : PySem.Challenge.rw_foldparts_k04_texts_of_ratios.Holds := by
  w_on; o_law
  refine HandSHeadRun.head_any (r := OpenLaw.row PySem.Challenge.rw_foldparts_k04_texts_of_ratios) (q := view (OpenLaw.row PySem.Challenge.rw_foldparts_k04_texts_of_ratios).prog [24]) (H := FP.hk) (ob := FP.ob) (M := 2000) (loose := FP.loose) (d := HandSHeadRun.topDef (OpenLaw.row PySem.Challenge.rw_foldparts_k04_texts_of_ratios).prog 24) (kwd := []) FP.ob_eq
    (by kernel_rfl) (fun s => by kernel_rfl) FP.run (by kernel_rfl) (by kernel_rfl) (by kernel_rfl) (by rfl) (by first | assumption | decide +kernel) (by decide +kernel) ⟨rfl, rfl, rfl, rfl, rfl, by decide +kernel⟩ ?hw ?hc
  case hw => w_witness2
  case hc =>
    refine FP.walk_G (l := PySem.Challenge.rw_foldparts_k04_texts_of_ratios) (n := 63) (k := 6) (x := "script") rfl (by decide) (by kernel_rfl) ⟨rfl, by decide, by decide⟩ ?F
    intro w mg fa h Y G hmg0
    obtain ⟨K, KX, c⟩ := Y
    have hmg : mg ("law" : PySem.Str) = some (.ref fa) := by
      have e : (HandSHeadRun.topDef (OpenLaw.row PySem.Challenge.rw_foldparts_k04_texts_of_ratios).prog 24).name = ("law" : PySem.Str) := by kernel_rfl
      rw [← e]
      exact hmg0
    have T := FP.txt_of KX G c
    have e := hmg.symm.trans T.g_law
    cases e
    obtain ⟨fd, F⟩ := T.d_law
    have b : ∀ (s : Shared) (u : Value), BindsTo s fd ⟨[u], []⟩ [("script", u)] := by
      obtain ⟨oc, od, kV, doc, pm, an, cdv, ct, osl, rfl, lk, hcd⟩ := F.ex
      exact fun s u => .of_eq rfl
    exact ⟨K, fd, FP.sp_law K (FP.adOf K), KX, b, fun H a ns hl hb _ hS => ⟨ns, hS, hl, fun z hz => FP.bits (hb z hz), fun _ => rfl⟩, fun base _ _ => FP.fn_law T F⟩
