import PyProof.Rows.All
import Wide.All
import OpenK.AllK
import Wide.FinOn
import PyProof.EqAt
import PyProof.EqKinds
import PyProof.TupleCall
import HandS.Base
import HandS.Call
import HandS.List
import HandS.Exc
import HandS.ExcInit
import HandS.ExcIs
import HandS.IsInst
import HandS.Defaults
import HandS.ExcValue
import HandS.ExcField
import HandS.ExcOwn
import HandS.Head0
import HandS.Head1
import HandS.Head2
import HandS.HeadEnd
import HandS.HeadHook1
import HandS.HeadHook2
import HandS.ForMost
import HandS.ForExc
import HandS.Conv
import HandS.Zip
import HandS.More
import HandS.Walk
import PySem.Challenge.RW_steadynets_k89_errors_of_nets_and_answer
set_option Elab.async false
set_option linter.all false
set_option maxRecDepth 100000
set_option maxHeartbeats 4000000
namespace PySem.XV
open PySem PySem.Spec PySem.W PySem.Calls PyProof.Rows PySem.HandSPX
/-! an own exception class with a one-line __init__, called by position or by its name: the object as a value -/
section
variable {Mo : Model} {Ar : Around} {Er : Value → Shared → Prop} {hp : Heap} {gs : Array GenState} {dr : Drawn} {tk : Nat} {os : OsState}
variable {cn qn : Str} {C NS : Addr} {bs mr mrB : List Value} {hasD : Bool} {sn : List Str} {sub : List Value} {ab : Bool} {col : Option Bool} {dd : Option Addr}
variable {z0 z1 z2 z3 z5 : Option Value} {Bn newId initId : String}

theorem chk_new (F : ExcBaseFacts Bn newId initId mrB) (hT : ∀ X : String, mr.contains (.type X) = mrB.contains (.type X)) {ps : List Value} {kw : List (Str × Value)} {Q : Unit → Shared → Prop}
    (hC : hp.get? C = some (excClassObj cn qn C NS bs mr hasD sn sub ab col dd z0 z1 z2 z3 z5 newId)) (hq : Q () ⟨hp, gs, dr, tk, os⟩) :
    wpAny Mo Ar (checkBuiltinCall newId ⟨.ref C :: ps, kw⟩) Q Er ⟨hp, gs, dr, tk, os⟩ := by
  have hc : (Value.ref C :: mr).contains (.type Bn) = true := by
    rw [List.contains_cons, hT, F.hasB, Bool.or_true]
  have hs := F.noStar
  simp only [checkBuiltinCall, F.newKind, F.newSplit, F.newRow]
  repeat (first
    | refine wpAny_loadPart_at hC ?_
    | (refine wpAny_isSubtype_exc hC ?_; rw [hc])
    | refine wpAny_staticBase_exc hC ?_
    | refine wpAny_madeBy_exc hC ?_
    | simp only [bne_self_eq_false, Bool.false_eq_true, if_false]
    | wp_step)
  exact hq
end
section
variable {prog : Program} {w : World} {Ar : Around} {Er : Value → Shared → Prop} {R : Result → Shared → Prop} {hp : Heap} {gs : Array GenState} {dr : Drawn} {tk : Nat} {os : OsState}
variable {cn qn : Str} {C NS : Addr} {bs mr mrB : List Value} {hasD : Bool} {sn : List Str} {sub : List Value} {ab : Bool} {col : Option Bool} {dd : Option Addr}
variable {z0 z1 z2 z3 z5 : Option Value} {Bn newId initId : String}

theorem new_kw (F : ExcBaseFacts Bn newId initId mrB) (hT : ∀ X : String, mr.contains (.type X) = mrB.contains (.type X)) {ps : List Value} {kw : List (Str × Value)}
    (hC : hp.get? C = some (excClassObj cn qn C NS bs mr hasD sn sub ab col dd z0 z1 z2 z3 z5 newId))
    (hq : R (.ok (.ret (.ref (hp.objs.size + 1)))) ⟨(hp.push (kdv_tup ps)).push (excO C hp.objs.size), gs, dr, tk, os⟩) (hz : ps.length ≤ sizeLine) :
    codeAny (model prog w) Ar (.builtin newId ⟨.ref C :: ps, kw⟩) R ⟨hp, gs, dr, tk, os⟩ := by
  have he := F.ends
  have c1 : (Value.ref C :: mr).contains (.type Bn) = true := by
    rw [List.contains_cons, hT, F.hasB, Bool.or_true]
  have c2 : (Value.ref C :: mr).contains (.type "AttributeError") = false := by
    rw [List.contains_cons, hT, F.noAttr] <;> rfl
  have c3 : (Value.ref C :: mr).contains (.type "NameError") = false := by
    rw [List.contains_cons, hT, F.noName] <;> rfl
  refine codeAny_builtinAt F.entry ?_
  unfold Builtin.«BaseException.__new__»
  refine wpAt_bind ?_
  show wpAt _ _ _ (stack >>= _) _ _ _
  refine wpAt_bind (wpAt_stack fun pq bl => wpAt_of_wpAny ?_)
  wp_walk
  refine wpAt_of_wpAny ?_
  rw [F.owner]
  repeat (first
    | with_reducible refine wpAny_madeHere_exc F.canon hC ?_
    | with_reducible refine wpAny_loadPart_at hC ?_
    | (with_reducible refine wpAny_isSubtype_exc hC ?_; first | rw [c1] | rw [c2] | rw [c3])
    | wp_step)
  show R _ _
  rw [Heap.size_push]
  exact hq

/-- behind the type's own call: what the __init__ gave back -/
def Back (x : Addr) (Q : Fin → Shared → Prop) (Er : Value → Shared → Prop) : Result → Shared → Prop := fun r s' => match r with
  | .ok (.ret v) => v = .none ∧ Q (.done (.ret (.ref x))) s'
  | .ok _ => False
  | .error e => Er e s'
theorem tcall_kw (F : ExcBaseFacts Bn newId initId mrB) (hT : ∀ X : String, mr.contains (.type X) = mrB.contains (.type X)) {ps : List Value} {kw : List (Str × Value)} {fI : Addr} {Q : Fin → Shared → Prop}
    (hC : hp.get? C = some (excClassObj cn qn C NS bs mr hasD sn sub ab col dd z0 z1 z2 z3 z5 newId))
    (hi : Looks (model prog w) hp (typeLookup (.ref C) "__init__") (some (.ref fI)))
    (hb : ∀ self, Looks (model prog w) hp (bindSpecial (.ref fI) self) (.ref fI, [self])) (hz : ps.length ≤ sizeLine)
    (hq : codeAny (model prog w) Ar (.call (.ref fI) ⟨.ref (hp.objs.size + 1) :: ps, kw⟩) (Back (hp.objs.size + 1) Q Er) ⟨(hp.push (kdv_tup ps)).push (excO C hp.objs.size), gs, dr, tk, os⟩) :
    wpAny (model prog w) Ar (Builtin.«type.__call__» ⟨.ref C :: ps, kw⟩) Q Er ⟨hp, gs, dr, tk, os⟩ := by
  repeat (first
    | with_reducible refine wpAny_loadPart_at hC ?_
    | with_reducible refine wpAny_madeBy_exc hC ?_
    | wp_step)
  refine codeAny_call_builtin_code (Code.quiet_builtin _ F.quiet) (chk_new F hT hC ?_)
  refine new_kw F hT hC ?_ hz
  show wpAny _ _ _ _ _ _
  have kk : ∀ b o, hp.get? b = some o → ((hp.push (kdv_tup ps)).push (excO C hp.objs.size)).get? b = some o :=
    fun b o e => Heap.get?_push_of_some _ (Heap.get?_push_of_some _ e)
  have hC1 := kk _ _ hC
  have hg : ((hp.push (kdv_tup ps)).push (excO C hp.objs.size)).get? (hp.objs.size + 1) = some (excO C hp.objs.size) := by
    heap_get
  have hcc : (Value.ref C :: mr).contains (.ref C) = true := by simp
  have i1 := hi.keeps kk
  have b1 := (hb (.ref (hp.objs.size + 1))).keeps kk
  unfold isInstance
  repeat (first
    | with_reducible refine wpAny_loadPart_at hg ?_
    | (with_reducible refine wpAny_isSubtype_exc hC1 ?_; rw [hcc])
    | wp_step)
  show wpAny _ _ (typeLookup (.ref C) _) _ _ _
  refine i1.at ?_
  refine wpAny_holding (wpAny_bind (b1.at ?_))
  refine wpAny_bind (wpAny_call (codeAny_mono hq fun r s' y => ?_))
  cases r with
  | error e => exact y
  | ok fl =>
    cases fl with
    | ret v =>
      obtain ⟨ev, y⟩ := y
      subst ev
      first
        | exact wpAny_pure (wpAny_pure y)
        | (wp_walk; exact y)
    | next => exact False.elim y
    | brk => exact False.elim y
    | cont => exact False.elim y
theorem call_kw (F : ExcBaseFacts Bn newId initId mrB) (hT : ∀ X : String, mr.contains (.type X) = mrB.contains (.type X)) {ps : List Value} {kw : List (Str × Value)} {fI : Addr}
    (hC : hp.get? C = some (excClassObj cn qn C NS bs mr hasD sn sub ab col dd z0 z1 z2 z3 z5 newId))
    (hi : Looks (model prog w) hp (typeLookup (.ref C) "__init__") (some (.ref fI)))
    (hb : ∀ self, Looks (model prog w) hp (bindSpecial (.ref fI) self) (.ref fI, [self])) (hz : ps.length ≤ sizeLine)
    (hq : codeAny (model prog w) (Ar.under (.builtin "type.__call__" ⟨.ref C :: ps, kw⟩)) (.call (.ref fI) ⟨.ref (hp.objs.size + 1) :: ps, kw⟩) (InitBack (hp.objs.size + 1) R) ⟨(hp.push (kdv_tup ps)).push (excO C hp.objs.size), gs, dr, tk, os⟩) :
    codeAny (model prog w) Ar (.call (.ref C) ⟨ps, kw⟩) R ⟨hp, gs, dr, tk, os⟩ := by
  have f1 := tc_lookup
  have f2 := tc_bind (.ref C)
  have hTy : (⟨hp, gs, dr, tk, os⟩ : Shared).TypeIs (.ref C) "type" := ⟨_, hC, rfl⟩
  refine codeAny_of_tree ?_
  show wpAny _ _ (callAny (.ref C) _) _ _ _
  repeat (any_goals (first
    | assumption
    | with_reducible refine wpAny_loadPart_at hC ?_
    | wp_step))
  refine ⟨rfl, ?_⟩
  refine codeAny_call_builtin_at (Code.quiet_builtin _ (by decide +kernel)) entry_typeCall (wpAny_check_type_call_sub hC (tcall_kw F hT hC hi hb hz ?_))
  refine codeAny_mono hq fun r s' y => ?_
  rcases r with e | (v | _ | _ | _) <;> exact y
end
end PySem.XV

set_option Elab.async false
set_option linter.all false
set_option maxRecDepth 100000
set_option maxHeartbeats 4000000
namespace PySem.XV
open PySem PySem.Spec PySem.W PySem.Calls PyProof.Rows PySem.HandSPX
/-! ### the text of __init__(self, f): self.f = f -/
def iA (f : Str) (p1 p2 : Pos) : Arguments := { posonlyargs := [], args := [{ arg := "self", annotation := none, pos := p1 }, { arg := f, annotation := none, pos := p2 }], vararg := none, kwonlyargs := [], kw_defaults := [], kwarg := none, defaults := [] }
def iB (f : Str) (q1 q2 q3 q4 : Pos) : List Stmt := [.Assign [.Attribute (.Name "self" q1) f q2] (.Name f q3) q4]
def iS (f : Str) : Scope := { kind := .function, names := [(PySem.Str.ofString "self", .local), (f, .local)], isGenerator := false, isCoroutine := false, more := [] }
/-- a name that may stand there -/
structure NmOk (f : Str) : Prop where
  ns : (f == ("self" : Str)) = false
  nd : (f == ("__debug__" : Str)) = false
theorem nm_ne {f : Str} (h : NmOk f) : ¬ f = ("self" : Str) := by
  intro e
  have z := h.ns
  rw [e] at z
  simp at z
theorem kind_self {q : Str} {f : Str} {L fa : Addr} {cd : Value} : (envOfC q (iS f) L fa cd).kindOf "self" = some .local := by
  show (iS f).names.lookup ("self" : Str) = some NameKind.local
  rfl
theorem kind_f {q : Str} {f : Str} {L fa : Addr} {cd : Value} (h : NmOk f) : (envOfC q (iS f) L fa cd).kindOf f = some .local := by
  show (iS f).names.lookup f = some NameKind.local
  unfold iS
  have e : (f == (PySem.Str.ofString "self")) = false := h.ns
  simp [List.lookup, e]
theorem bind_p {qual f : Str} (hn : NmOk f) {p1 p2 : Pos} {bd : List Stmt} {sc : Scope} {kV doc pm cd ct x v : Value} {an : Option Addr} :
    bindArgs (fnOf "__init__" qual (iA f p1 p2) bd sc .none kV doc pm an cd ct) ⟨[x, v], []⟩ = pure [(("self" : Str), x), (f, v)] := by
  have e1 : (f == ("self" : Str)) = false := hn.ns
  have e2 : (("self" : Str) == f) = false := by
    rw [beq_eq_false_iff_ne]
    exact fun z => nm_ne hn z.symm
  simp [bindArgs, fnOf, iA, List.lookup, e1, seqItems?]
  rfl
theorem bind_k {qual f : Str} (hn : NmOk f) {p1 p2 : Pos} {bd : List Stmt} {sc : Scope} {kV doc pm cd ct x v : Value} {an : Option Addr} :
    bindArgs (fnOf "__init__" qual (iA f p1 p2) bd sc .none kV doc pm an cd ct) ⟨[x], [(f, v)]⟩ = pure [(("self" : Str), x), (f, v)] := by
  have e1 : (f == ("self" : Str)) = false := hn.ns
  have e2 : (("self" : Str) == f) = false := by
    rw [beq_eq_false_iff_ne]
    exact fun z => nm_ne hn z.symm
  simp [bindArgs, fnOf, iA, List.lookup, e1, seqItems?]
  rfl
/-- v handed in by position, or by its name -/
inductive Handed (f : Str) (v : Value) : List Value → List (Str × Value) → Prop where
  | pos : Handed f v [v] []
  | kw : Handed f v [] [(f, v)]
theorem Handed.len {f : Str} {v : Value} {ps : List Value} {kw : List (Str × Value)} (h : Handed f v ps kw) : ps.length ≤ sizeLine := by
  rw [sizeLine_eq]
  cases h <;> (simp)
/-- what the written part says of the class at C, whose __init__ at fI keeps one thing as f -/
structure XTxt (K : Frag) (C fI : Addr) (qual f : Str) : Prop where
  nm : NmOk f
  cls : ∃ cn qn NS bs mr sn sub ab col dd z0 z1 z2 z3 z5, K.lookup C = some (excClassObj cn qn C NS bs mr true sn sub ab col dd z0 z1 z2 z3 z5 "ValueError.__new__") ∧ refsVE mr = true
  sa : findIn K (.ref C) "__setattr__" = some (some (.builtin "object.__setattr__"))
  noN : findIn K (.ref C) f = some none
  iC : findIn K (.ref C) "__init__" = some (some (.ref fI))
  tI : typeIn K (.ref fI) = some (.type "function")
  fn : ∃ (oc : Value) (od : Option Addr) (kV doc pm : Value) (an : Option Addr) (cdv ct : Value) (osl : Array (Option Value)) (p1 p2 q1 q2 q3 q4 : Pos),
    K.lookup fI = some ⟨oc, od, .func (fnOf "__init__" qual (iA f p1 p2) (iB f q1 q2 q3 q4) (iS f) .none kV doc pm an cdv ct), osl⟩ ∧ codeIn K cdv qual = true
/-- a local name is read -/
theorem rdC {M : Model} {s : Shared} {name : Str} {scope : Scope} {L a : Addr} {cd : Value} {m : Str → Option Value} {x : Str} {pos : Pos} {v : Value} {Q : Value → Shared → Prop} {A : Around} {E : Value → Shared → Prop}
    (hn : s.heap.Ns L m) (hv : m x = some v) (hk : scope.kind = .function) (hl : (envOfC name scope L a cd).kindOf x = some .local) (hd : (x == ("__debug__" : Str)) = false) (h : Q v s) :
    wpAny M A (eval (.Name x pos) (envOfC name scope L a cd)) Q E s := wpAny_Name (wpAny_loadName_local hk hl hn hv h) hd
/-- what the __init__ leaves of the new exception at x -/
structure Filled (h h' : Heap) (x C dx t1 : Addr) (f : Str) (v : Value) : Prop where
  keep : ∀ b o, b ≠ x → h.get? b = some o → h'.get? b = some o
  obj : h'.get? x = some { cls := .ref C, dict := some dx, data := .fields #[.ref t1, .none, .none, .none, .bool false, .none] }
  dbig : h.objs.size ≤ dx
  dne : dx ≠ x
  ns : h'.Ns1 dx (fun y => if y = f then some v else none)
section
variable {prog : Program} {w : World} {A : Around} {R : Result → Shared → Prop} {s : Shared} {K : Frag} {C fI : Addr} {qual f : Str}
theorem x_init (T : XTxt K C fI qual f) {x t0 : Addr} {v : Value} {ps : List Value} {kw : List (Str × Value)} (ha : Handed f v ps kw) (X : K.In s.heap) (hlim : s.heap.NoLimit) (hx : s.heap.get? x = some (excO C t0)) (hroom : A.depth < recursionLimit)
    (hq : ∀ h' tk dx, Filled s.heap h' x C dx t0 f v → R (.ok (.ret .none)) { s with heap := h', toks := tk }) :
    codeAny (model prog w) A (.call (.ref fI) ⟨.ref x :: ps, kw⟩) R s := by
  obtain ⟨oc, od, kV, doc, pm, an, cdv, ct, osl, p1, p2, q1, q2, q3, q4, ho, hcd⟩ := T.fn
  obtain ⟨cn, qn, NS, bs, mr, sn, sub, ab, col, dd, z0, z1, z2, z3, z5, hC, hmr⟩ := T.cls
  have hcl : clsIn K C = some { name := cn, bases := bs, mro := .ref C :: mr, ns := NS, qualname := qn, hasDict := true, slotNames := sn, subclasses := sub, abstract := ab, collection := col, hasDel := false } := by
    unfold clsIn
    rw [hC] <;> rfl
  have hb : BindsTo s (fnOf "__init__" qual (iA f p1 p2) (iB f q1 q2 q3 q4) (iS f) .none kV doc pm an cdv ct) ⟨.ref x :: ps, kw⟩ [(("self" : Str), .ref x), (f, v)] := by
    cases ha with
    | pos => exact BindsTo.of_eq (bind_p T.nm)
    | kw => exact BindsTo.of_eq (bind_k T.nm)
  have hal : ([(("self" : Str), Value.ref x), (f, v)].all fun y => (iS f).names.lookup y.1 == some .local || (iS f).names.lookup y.1 == some .cell) = true := by
    have e1 : (iS f).names.lookup ("self" : Str) = some NameKind.local := rfl
    have e2 : (iS f).names.lookup f = some NameKind.local := kind_f (q := "") (L := 0) (fa := 0) (cd := .none) T.nm
    simp [e1, e2]
  refine Att.call_fn X hlim ho hcd hroom hb hal (fun s1 IC => ?_) rfl rfl rfl
  obtain ⟨h1, tk1, rfl⟩ := IC.toInCall.same
  have k : ∀ b o, s.heap.get? b = some o → h1.get? b = some o := IC.toInCall.keep
  have hn := IC.toInCall.ns
  have X1 : K.In h1 := X.keeps k
  have hx1 := k _ _ hx
  have v1 : bindL (envOfC qual (iS f) s.heap.objs.size fI cdv).kindOf [(("self" : Str), Value.ref x), (f, v)] (fun _ => none) ("self" : Str) = some (.ref x) := by
    have e := kind_self (q := qual) (f := f) (L := s.heap.objs.size) (fa := fI) (cd := cdv)
    have e2 := kind_f (q := qual) (L := s.heap.objs.size) (fa := fI) (cd := cdv) T.nm
    have n2 : ¬ (("self" : Str) = f) := fun z => nm_ne T.nm z.symm
    simp [bindL, e, e2, n2]
  have v2 : bindL (envOfC qual (iS f) s.heap.objs.size fI cdv).kindOf [(("self" : Str), Value.ref x), (f, v)] (fun _ => none) f = some v := by
    have e := kind_f (q := qual) (L := s.heap.objs.size) (fa := fI) (cd := cdv) T.nm
    simp [bindL, e]
  show wpAny _ _ (execs _ _) _ _ _
  refine wpAny_execs_cons (plainObj_wpAny_Assign_Attribute ?_)
  refine rdC hn v2 rfl (kind_f T.nm) T.nm.nd (rdC hn v1 rfl kind_self (by decide) ?_)
  refine set_plain X1 (ox := excO C t0) (od := none) ⟨hx1, rfl, rfl, trivial⟩ T.sa ?_
  refine exc_osa X1 hx1 hcl (show refsVE (.ref C :: mr) = true from hmr) rfl T.noN (fun h3 tk3 dx k3 dn dne hx3 hn3 => ?_)
  show wpAny _ _ (execs _ _) _ _ _
  have z : s.heap.objs.size < h1.objs.size := hn.lt
  exact wpAny_execs_nil (hq h3 tk3 dx ⟨fun b o hb e => k3 b o hb (k b o e), hx3, Nat.le_of_lt (Nat.lt_of_lt_of_le z dn), dne, hn3⟩)
/-- what a call of the class leaves -/
structure Made1 (h h' : Heap) (e C d : Addr) (f : Str) (v : Value) : Prop where
  keep : ∀ b o, h.get? b = some o → h'.get? b = some o
  ne : h.objs.size ≤ e
  obj : ∃ t1 : Addr, h'.get? e = some { cls := .ref C, dict := some d, data := .fields #[.ref t1, .none, .none, .none, .bool false, .none] }
  nd : h.objs.size ≤ d
  dne : d ≠ e
  ns : h'.Ns1 d (fun y => if y = f then some v else none)
theorem x_made (T : XTxt K C fI qual f) {v : Value} {ps : List Value} {kw : List (Str × Value)} (ha : Handed f v ps kw) (X : K.In s.heap) (hlim : s.heap.NoLimit) (hroom : A.depth + 1 < recursionLimit)
    (hq : ∀ h' tk e d, Made1 s.heap h' e C d f v → R (.ok (.ret (.ref e))) { s with heap := h', toks := tk }) : codeAny (model prog w) A (.call (.ref C) ⟨ps, kw⟩) R s := by
  obtain ⟨cn, qn, NS, bs, mr, sn, sub, ab, col, dd, z0, z1, z2, z3, z5, hC, hmr⟩ := T.cls
  obtain ⟨hp, g, dr, tk, os⟩ := s
  have k : ∀ b o, hp.get? b = some o → ((hp.push (kdv_tup ps)).push (excO C hp.objs.size)).get? b = some o := fun b o e => Heap.get?_push_of_some _ (Heap.get?_push_of_some _ e)
  have hget : ((hp.push (kdv_tup ps)).push (excO C hp.objs.size)).get? (hp.objs.size + 1) = some (excO C hp.objs.size) := by
    heap_get
  refine call_kw F.excBase_ValueError (fun Y => refsVE_contains Y mr hmr) (X _ _ hC) (looks_findIn X T.iC) (fun self => bind_fn X self T.tI) ha.len ?_
  refine x_init (s := ⟨(hp.push (kdv_tup ps)).push (excO C hp.objs.size), g, dr, tk, os⟩) T ha (X.keeps k) (hlim.keeps k) hget hroom fun h' tk' dx ⟨k', hx, dn, dne, hns⟩ => ?_
  have old : ∀ b o, hp.get? b = some o → h'.get? b = some o := fun b o e => k' b o (Nat.ne_of_lt (Nat.lt_succ_of_lt (Heap.lt_size e))) (k b o e)
  have z : hp.objs.size + 1 + 1 ≤ dx := by
    first
      | exact dn
      | simpa only [Heap.size_push] using dn
  exact ⟨rfl, hq h' tk' (hp.objs.size + 1) dx ⟨old, Nat.le_succ _, ⟨_, hx⟩, Nat.le_trans (Nat.le_trans (Nat.le_succ _) (Nat.le_succ _)) z, dne, hns⟩⟩
end
end PySem.XV

set_option Elab.async false
set_option linter.all false
set_option maxRecDepth 100000
set_option maxHeartbeats 4000000
namespace PySem.XV
open PySem PySem.Spec PySem.W PySem.Calls PyProof.Rows PySem.HandSPX
section
variable {prog : Program} {w : World} {A : Around} {E : Value → Shared → Prop} {s : Shared} {K : Frag} {x D : Addr} {ox : Obj} {od : Option Obj}
theorem find_data {C : Addr} {name : Str} {a g : Value} (hc : (clsIn K C).isSome = true) (ha : findIn K (.ref C) name = some (some a)) (hg : specialIn K a "__get__" = some (some g)) (ht : takesIn K a = some true) :
    findObj K C od name = some (.bind g a) := by
  obtain ⟨cd, hc⟩ := Option.isSome_iff_exists.mp hc
  unfold findObj
  rw [hc, Option.bind_some, ha, Option.bind_some]
  simp [hg, ht]
/-- e.__class__, e an exception of an own class, with or without a dict -/
theorem cls_at {Q : Option Value → Shared → Prop} (hga : findIn K (.ref D) "__getattribute__" = some (some (.builtin "BaseException.__getattribute__"))) (hgt : findIn K (.ref D) "__getattr__" = some none)
    (hsub : subIn K (.ref D) (.type "BaseException") = some true) (hdct : hasDictIn K D = true) (ha : findIn K (.ref D) "__class__" = some (some (.builtin "object.__class__")))
    (hn : specialIn K (.builtin "object.__class__") "__get__" = some (some (.builtin "getset_descriptor.__get__"))) (htk : takesIn K (.builtin "object.__class__") = some true) (hm : mroIn K D (.type "object") = some true)
    (X : K.In s.heap) (I : InstAt s.heap x ox D od) (h : Q (some (.ref D)) { s with toks := s.toks + 1 }) : wpAny (model prog w) A (getAttr? (.ref x) "__class__") Q E s := by
  have hf : findObj K D od "__class__" = some (.bind (.builtin "getset_descriptor.__get__") (.builtin "object.__class__")) :=
    find_data (by obtain ⟨cd, hc, _⟩ := any_some hdct; rw [hc] <;> rfl) ha hn htk
  obtain ⟨hp, g, d, t, os⟩ := s
  have L0 := I.type (M := model prog w)
  have L1 := looks_findIn (M := model prog w) X hga
  have L2 := looks_findIn (M := model prog w) X hgt
  have L3 := looks_find (M := model prog w) X I hf
  have sub : Looks (model prog w) hp (isInstance (.ref x) (.type "BaseException")) true := L0.andThen (looks_subIn X hsub)
  have q0 : (false && onTheHeap (Value.builtin "BaseException.__getattribute__")) = false := rfl
  have q2 : (Value.builtin "BaseException.__getattribute__" == Value.builtin "object.__getattribute__") = false := by
    decide +kernel
  have q1 : (onTheHeap (Value.ref D) && Value.builtin "BaseException.__getattribute__" == Value.builtin "object.__getattribute__") = false := by
    rw [q2] <;> rfl
  unfold getAttr? getAttrBy? getAttrBy
  refine wpAny_bind (wpAny_mkText (wpAny_bind (wpAny_attempt (wpAny_holding (wpAny_bind (L0.at (wpAny_bind (L1.at ?_))))))))
  show wpAny _ _ (if (onTheHeap (Value.ref D) && Value.builtin "BaseException.__getattribute__" == Value.builtin "object.__getattribute__") = true then _ else _) _ _ _
  rw [q1, if_neg Bool.false_ne_true]
  unfold getAttrByItsOwn hookBefore
  refine wpAny_bind ?_
  rw [if_pos (show onTheHeap (Value.ref D) = true from rfl)]
  refine L2.at ?_
  refine wpAny_bind (wpAny_attempt (wpAny_holding ?_))
  unfold callGetattribute
  rw [q0, if_neg Bool.false_ne_true]
  unfold boundAndCalled
  rw [PySem.F.excAttr_ValueError.ga.bind (.ref x)]
  refine wpAny_bind (wpAny_pure ?_)
  show wpAny _ _ (call (.builtin "BaseException.__getattribute__") [.ref x, .str "__class__" t]) _ _ _
  refine wpAny_call (codeAny_call_builtin PySem.F.excAttr_ValueError.ga.plain PySem.F.entry_bexc_ga ?_)
  refine @check_slot (model prog w) _ _ ⟨hp, g, d, t + 1, os⟩ "BaseException.__getattribute__" "BaseException" "__getattribute__" (.ref x) [.str "__class__" t] [] _ (by decide +kernel) (by decide +kernel) sub
    (PySem.F.args_bexc_ga (.ref x) (.str "__class__" t)) ?_
  unfold Builtin.«object.__getattribute__»
  refine wpAny_bind (wpAny_of_eq (a := ((Value.ref x : Value), [Value.str "__class__" t])) (by first | rfl | (simp only [slotArgs]; rfl)) ?_)
  refine wpAny_bind (wpAny_pure (wpAny_bind (L0.at (wpAny_bind (L3.at ?_)))))
  show wpAny _ _ (holding [Value.builtin "object.__class__"] (call (.builtin "getset_descriptor.__get__") [.builtin "object.__class__", .ref x, .ref D]) >>= ret) _ _ _
  refine wpAny_bind (wpAny_holding (wpAny_call (class_get (s := ⟨hp, g, d, t + 1, os⟩) (ox := ox) (od := od) X I hm ?_)))
  refine wpAny_pure ?_
  show wpAny _ _ (handedOut (.ref D)) _ _ _
  rw [handedOut_of (v := .ref D) rfl]
  first
    | exact wpAny_pure (wpAny_pure h)
    | exact wpAny_pure h
    | exact wpAny_pure (wpAny_bind (wpAny_pure (wpAny_pure h)))
theorem kit_exc (hga : findIn K (.ref D) "__getattribute__" = some (some (.builtin "BaseException.__getattribute__"))) (hgt : findIn K (.ref D) "__getattr__" = some none)
    (hsub : subIn K (.ref D) (.type "BaseException") = some true) (hdct : hasDictIn K D = true) (ha : findIn K (.ref D) "__class__" = some (some (.builtin "object.__class__")))
    (hn : specialIn K (.builtin "object.__class__") "__get__" = some (some (.builtin "getset_descriptor.__get__"))) (htk : takesIn K (.builtin "object.__class__") = some true) (hm : mroIn K D (.type "object") = some true) :
    KitX K (.ref x) (.ref D) (fun h => InstAt h x ox D od) where
  ty := fun _ _ _ I => I.type
  it := fun _ _ X _ => by
    obtain ⟨cdD, hcD, _⟩ := any_some hdct
    unfold clsIn at hcD
    split at hcD
    · rename_i c' d' cd' sl' ho
      intro A' Q' E' s' k q
      unfold isType loadHead
      exact wpAny_bind (wpAny_loadPart (k _ _ (X _ _ ho)) (wpAny_pure q))
    · cases hcD
  ne := fun h tp dd its n sl X htp => by
    obtain ⟨cdD, hcD, _⟩ := any_some hdct
    refine Bool.eq_false_iff.mpr fun q => ?_
    have e : D = tp := Value.ref.inj (beq_iff_eq.mp q)
    subst e
    unfold clsIn at hcD
    split at hcD
    · rename_i c' d' cd' sl' ho
      have z := (X _ _ ho).symm.trans htp
      cases z
    · cases hcD
  ca := fun X I k => cls_at hga hgt hsub hdct ha hn htk hm X I k
end
end PySem.XV
namespace L2
open PySem PySem.Spec PyProof.Rows
section
variable {X : Cx} {pins : List (Addr × Obj)} {σ : St} {H : Hp} {s : Shared}
/-- two new objects laid and tracked -/
theorem Inv.laid2 {h' : Heap} {d e : Addr} {o1 o2 : HO} {t' : Nat} (I : Inv X pins σ H s) (k : ∀ b u, s.heap.get? b = some u → h'.get? b = some u) (hd : s.heap.objs.size ≤ d) (he : s.heap.objs.size ≤ e) (ne : d ≠ e)
    (n1 : ObjOk X.prog X.w (upd (upd H d o1) e o2) h' d o1) (n2 : ObjOk X.prog X.w (upd (upd H d o1) e o2) h' e o2) : Inv X pins σ (upd (upd H d o1) e o2) { s with heap := h', toks := t' } := by
  have fd : H d = none := I.hok.fresh hd
  have fe : H e = none := I.hok.fresh he
  have nl : ∀ b u, s.heap.get? b = some u → b ≠ d ∧ b ≠ e := fun b u q => ⟨Nat.ne_of_lt (Nat.lt_of_lt_of_le (Heap.lt_size q) hd), Nat.ne_of_lt (Nat.lt_of_lt_of_le (Heap.lt_size q) he)⟩
  have st : ∀ b o, H b = some o → upd (upd H d o1) e o2 b = some o := fun b o q => by
    rw [upd_ne (ne_of_none q fe), upd_ne (ne_of_none q fd)]
    exact q
  refine I.un ⟨fun b u q _ _ _ => k b u q, fun b u q _ _ _ => ⟨u.slots, k b u q⟩, fun b u q n _ => ?_, fun b u q _ => ⟨u, k b u q⟩, fun b xs q => st b _ q, fun b u xs q => st b _ q, fun b ps q => ⟨#[], ?_⟩⟩ fun b u q => ?_
  · rw [upd_ne (nl b u q).2, upd_ne (nl b u q).1]
    exact n
  · rw [st b _ q]
    simp
  · by_cases hb : b = e
    · subst hb
      rw [upd_same] at q
      cases q
      exact n2
    · rw [upd_ne hb] at q
      by_cases hc : b = d
      · subst hc
        rw [upd_same] at q
        cases q
        exact n1
      · rw [upd_ne hc] at q
        exact (I.hok b u q).stay (fun c v _ q => k c v q) (fun c q => st c _ q) fun c xs q => st c _ q
end
/-! ### readings -/
/-- C(v): a new exception that keeps v as f -/
def tXv (C : Addr) (f : Str) (ta : TA) : TE := fun σ H Q => ta σ H fun vs H1 => ∃ v, vs = [v] ∧ ∀ e d, H1 e = none → H1 d = none → d ≠ e → Q (.ref e) (upd (upd H1 d (.xd [(f, v)])) e (exo e C (some d)))
theorem relO_one {v : V} {u : Value} (r : RelV v u) (f g : Str) : RelO (List.lookup g [(f, v)]) (if g = f then some u else none) := by
  by_cases h : g = f
  · subst h
    rw [if_pos rfl]
    have e : List.lookup g [(g, v)] = some v := by simp [List.lookup]
    rw [e]
    exact r
  · rw [if_neg h]
    have e1 : (g == f) = false := by simpa using h
    have e : List.lookup g [(f, v)] = none := by simp [List.lookup, e1]
    rw [e]
    trivial
section
variable {X : Cx} {C fI : Addr} {qual f : Str}
theorem xv_laid {pins : List (Addr × Obj)} {σ : St} {H : Hp} {hp h' : Heap} {g : Array GenState} {dr : Drawn} {tk tk' : Nat} {os : OsState} {e d : Addr} {v : V} {u : Value} {Q : VK} (I : Inv X pins σ H ⟨hp, g, dr, tk, os⟩) (M : PySem.XV.Made1 hp h' e C d f u) (r : RelV v u)
    (q : ∀ e d, H e = none → H d = none → d ≠ e → Q (.ref e) (upd (upd H d (.xd [(f, v)])) e (exo e C (some d)))) : EP X pins σ Q (.ref e) ⟨h', g, dr, tk', os⟩ := by
  obtain ⟨t1, ho⟩ := M.obj
  refine ⟨.ref e, upd (upd H d (.xd [(f, v)])) e (exo e C (some d)), I.laid2 (o1 := .xd [(f, v)]) (o2 := exo e C (some d)) (t' := tk') M.keep M.nd M.ne M.dne ⟨_, M.ns, fun y => relO_one r f y⟩ (exo_ok ho), rfl, q e d (I.hok.fresh M.ne) (I.hok.fresh M.nd) M.dne⟩
theorem pe_xv {k : Nat} {a : Expr} {ta : TA} {x : Str} {p pos : Pos} (T : PySem.XV.XTxt X.K C fI qual f) (gC : X.mg x = some (.ref C)) (kC : PySem.W.keepIn X.K (.ref C) = true) (hr : Room k X.A) (ha : PA X [a] ta) (hg : Gl X x := by rfl)
    (he : starEach (a :: []) X.env = (false, eval a X.env) :: starEach [] X.env := by rfl) (hpl : (backTo pos (starEach [] X.env)).any (·.1) = false := by rfl) (hdb : (x == ("__debug__" : Str)) = false := by decide) :
    PE X (.Call (.Name x p) [a] [] pos) (tXv C f ta) := by
  refine ⟨fun pins s σ H Q I h => ?_⟩
  refine wpAny_Call_Name_kw (ld_glob I hg gC ?_ hdb)
  refine PySem.W.callWith_K (h₀ := X.base) I.ok.mod.kin kC (thn (ha.run pos pins s σ H _ I h) fun us s1 hh => ?_) he hpl
  obtain ⟨vs, H1, I1, r1, v, ev, q1⟩ := hh
  subst ev
  refine ⟨I1.kIn, ?_⟩
  cases r1 with
  | cons rv rn =>
    rename_i v' us'
    cases rn
    show wpAny _ _ (call (.ref C) [v']) _ _ _
    have hl := I1.nolimit
    obtain ⟨hp, g, dr, tk, os⟩ := s1
    exact wpAny_call (PySem.XV.x_made T .pos I1.kIn hl (by have := hr.dp; omega) fun h' tk' e d M => xv_laid I1 M rv q1)
/-- C(f = v) -/
theorem pe_xvk {k : Nat} {a : Expr} {ta : TA} {x : Str} {p pos kp : Pos} (T : PySem.XV.XTxt X.K C fI qual f) (gC : X.mg x = some (.ref C)) (kC : PySem.W.keepIn X.K (.ref C) = true) (hr : Room k X.A) (ha : PK X [⟨some f, a, kp⟩] ta) (hg : Gl X x := by rfl)
    (hall : (backToKw pos (keywordEach [⟨some f, a, kp⟩] X.env)).all (·.1.isSome) = true := by rfl) (hks : (backToKw pos (keywordEach [⟨some f, a, kp⟩] X.env)).filterMap (·.1) = [f] := by rfl)
    (hpl : ((backTo pos (starEach [] X.env)).any (·.1) || (backToKw pos (keywordEach [⟨some f, a, kp⟩] X.env)).any (·.1.isNone)) = false := by rfl) (hdb : (x == ("__debug__" : Str)) = false := by decide) :
    PE X (.Call (.Name x p) [] [⟨some f, a, kp⟩] pos) (tXv C f ta) := by
  refine ⟨fun pins s σ H Q I h => ?_⟩
  refine wpAny_Call_Name_kw (ld_glob I hg gC ?_ hdb)
  refine PySem.W.callWith_KW0 (h₀ := X.base) I.ok.mod.kin kC hall (thn (ha.run pos pins s σ H _ I h) fun us s1 hh => ?_) hpl
  obtain ⟨vs, H1, I1, r1, v, ev, q1⟩ := hh
  subst ev
  refine ⟨I1.kIn, ?_⟩
  rw [hks]
  cases r1 with
  | cons rv rn =>
    rename_i v' us'
    cases rn
    show wpAny _ _ (call (.ref C) [] [(f, v')]) _ _ _
    have hl := I1.nolimit
    obtain ⟨hp, g, dr, tk, os⟩ := s1
    exact wpAny_call (PySem.XV.x_made T .kw I1.kIn hl (by have := hr.dp; omega) fun h' tk' e d M => xv_laid I1 M rv q1)
end
end L2

set_option Elab.async false
set_option linter.all false
set_option maxRecDepth 100000
set_option maxHeartbeats 4000000
namespace L2
open PySem PySem.Spec PyProof.Rows
/-- at a stands an exception of the class at C -/
def Exd (H : Hp) (a C : Addr) : Prop := ∃ d, H a = some (exo a C d) ∧ ∀ dx, d = some dx → ∃ fs, H dx = some (.xd fs)
section
variable {X : Cx} {C : Addr} {f : Str}
/-- C(), C without an __init__ of its own -/
theorem pe_xv0 {bmB : List Value} {x : Str} {p pos : Pos} (q : PySem.W.excIn X.K C bmB "ValueError.__new__" = true) {B initId : String} (F : ExcBaseFacts B "ValueError.__new__" initId bmB) (gC : X.mg x = some (.ref C)) (kC : PySem.W.keepIn X.K (.ref C) = true) (hg : Gl X x := by rfl)
    (hdb : (x == ("__debug__" : Str)) = false := by decide) :
    PE X (.Call (.Name x p) [] [] pos) (fun σ H Q => ∀ a, H a = none → Q (.ref a) (upd H a (exo a C none))) := by
  refine ⟨fun pins s σ H Q I h => ?_⟩
  refine wpAny_Call_Name_kw (ld_glob I hg gC ?_ hdb)
  refine PySem.W.callWith_K0 I.kIn kC ?_
  show wpAny _ _ (call (.ref C) []) _ _ _
  obtain ⟨bm, N, nm, qn, bs, hdct, sn, sub, ab, col, dd, k0, k1, k2, k3, k5, mN, hC, hN, hni, T⟩ := exc_obj I.kIn q
  obtain ⟨hp, g, dr, tk, os⟩ := s
  refine wpAny_call_exc_subT F T hC hN hni (fun h' a hm => ?_) (by show 0 ≤ sizeLine; omega)
  have hn : H a = none := I.hok.gone hm.new
  obtain ⟨t, ht, _, _⟩ := hm.there
  exact ⟨.ref a, upd H a (exo a C none), I.laidN (t' := tk) hm.keeps hm.new hn (exo_ok ht), rfl, h a hn⟩
/-- e.f of such an exception -/
def tXat (K : PySem.W.Frag) (f : Str) (te : TE) : TE := fun σ H Q => te σ H fun x H1 => ∃ (a C dd : Addr) (fs : List (Str × V)) (v : V), x = .ref a ∧ H1 a = some (exo a C (some dd)) ∧ H1 dd = some (.xd fs) ∧ fs.lookup f = some v ∧
  XfC K C ∧ PySem.W.findIn K (.ref C) f = some none ∧ Q v H1
theorem pe_xat {e : Expr} {te : TE} {pos : Pos} (he : PE X e te) (hb : attributeBase e f X.env (eval e X.env) = eval e X.env := by rfl) : PE X (.Attribute e f pos) (tXat X.K f te) := by
  refine ⟨fun pins s σ H Q I h => ?_⟩
  refine attr_of hb (thn (he.run pins s σ H _ I h) fun u s1 hh => ?_)
  obtain ⟨x, H1, I1, rx, a, C, dd, fs, v, ex, ea, ed, l, T, hno, q⟩ := hh
  subst ex
  obtain rfl : u = Value.ref a := rx
  obtain ⟨t1, ho⟩ := exo_at I1.hok ea
  have hx : ObjOk X.prog X.w H1 s1.heap dd (.xd fs) := I1.hok dd _ ed
  obtain ⟨mA, hns, hr⟩ := hx
  obtain ⟨od, hod, hl⟩ := lookIn_ns hns
  obtain ⟨u, hu, ru⟩ := RelO.some_of (v := v) (o := mA f) (by rw [← l]; exact hr f)
  have J : PySem.W.InstAt s1.heap a _ C (some od) := ⟨ho, rfl, rfl, hod⟩
  exact HandSPX.exc_get I1.kIn J T.ga T.gg T.exC (PySem.W.findObj_own T.hdC hno rfl (by rw [hl, hu])) (handed_of ru) ⟨v, H1, I1.tok _, ru, q⟩
/-- isinstance(e, c), e such an exception -/
def rIsX (K : PySem.W.Frag) : List V → Hp → VK → Prop := fun xs H Q => ∃ (a C : Addr) (c : V) (cv : Value) (b : Bool), xs = [.ref a, c] ∧ Exd H a C ∧ ExcC K C ∧ ClsV c cv ∧ PySem.W.kitOne K (.ref C) cv = some b ∧ Q (.bl b) H
/-- isinstance(e, (c1, ..)) -/
def rIsXT (K : PySem.W.Frag) : List V → Hp → VK → Prop := fun xs H Q => ∃ (a C tp : Addr) (cs : List V) (us : List Value) (b : Bool), xs = [.ref a, .ref tp] ∧ Exd H a C ∧ ExcC K C ∧ H tp = some (.tup cs) ∧ Paired ClsV cs us ∧ PySem.W.kitAny K (.ref C) us = some b ∧ Q (.bl b) H
theorem kit_xd {pins : List (Addr × Obj)} {σ : St} {H : Hp} {s : Shared} {a : Addr} (I : Inv X pins σ H s) (h : Exd H a C) (T : ExcC X.K C) : ∃ P : Heap → Prop, PySem.W.KitX X.K (.ref a) (.ref C) P ∧ P s.heap := by
  obtain ⟨d, hd, hf⟩ := h
  obtain ⟨t1, ho⟩ := exo_at I.hok hd
  cases d with
  | none => exact ⟨_, PySem.XV.kit_exc (od := none) T.hg T.hk T.hs T.hd T.ha T.hn T.ht T.hm, ⟨ho, rfl, rfl, trivial⟩⟩
  | some dx =>
    obtain ⟨fs, hfs⟩ := hf dx rfl
    have hx : ObjOk X.prog X.w H s.heap dx (.xd fs) := I.hok dx _ hfs
    obtain ⟨mA, hns, hr⟩ := hx
    obtain ⟨od, hod, hl⟩ := lookIn_ns hns
    exact ⟨_, PySem.XV.kit_exc (od := some od) T.hg T.hk T.hs T.hd T.ha T.hn T.ht T.hm, ⟨ho, rfl, rfl, hod⟩⟩
theorem call_isX : CallR X (.builtin "isinstance") (rIsX X.K) := by
  intro pins s σ H xs us Q I r h
  obtain ⟨a, C, c, cv, b, rfl, ha, T, hc, e, q⟩ := h
  obtain ⟨u1, u2, rfl, r1, r2⟩ := vals2 r
  cases (show u1 = Value.ref a from r1)
  have e2 := hc.eq r2
  subst e2
  obtain ⟨P, Z, p⟩ := kit_xd I ha T
  exact PySem.W.kia_one Z I.kIn p e (fun z => nomatch z) fun tk => ⟨.bl b, H, I.tok tk, rfl, q⟩
theorem call_isXT : CallR X (.builtin "isinstance") (rIsXT X.K) := by
  intro pins s σ H xs us Q I r h
  obtain ⟨a, C, tp, cs, ws, b, rfl, ha, T, hT, hc, e, q⟩ := h
  obtain ⟨u1, u2, rfl, r1, r2⟩ := vals2 r
  cases (show u1 = Value.ref a from r1)
  cases (show u2 = Value.ref tp from r2)
  obtain ⟨P, Z, p⟩ := kit_xd I ha T
  obtain ⟨_, its, rv, o, h1, h2, n, h3⟩ := (show ObjOk X.prog X.w H s.heap tp (.tup cs) from I.hok tp _ hT)
  have e3 := ClsV.all hc rv
  subst e3
  obtain ⟨oc, od, dt, sl⟩ := o
  simp only at h2 h3
  subst h2 h3
  exact PySem.W.kia_tup Z I.kIn p h1 e (fun z => nomatch z) fun tk => ⟨.bl b, H, I.tok tk, rfl, q⟩
end
end L2

set_option Elab.async false
set_option linter.all false
set_option maxRecDepth 100000
set_option maxHeartbeats 4000000
namespace XH
open PySem PySem.Spec PyProof.Rows L2 He
/-! what the written part says of exception classes, as Bools -/
def exB (K : PySem.W.Frag) (C : Addr) : Bool :=
  decide (PySem.W.findIn K (.ref C) "__getattribute__" = some (some (.builtin "BaseException.__getattribute__"))) && (decide (PySem.W.findIn K (.ref C) "__getattr__" = some none) &&
  (decide (PySem.W.subIn K (.ref C) (.type "BaseException") = some true) && (PySem.W.hasDictIn K C && (decide (PySem.W.findIn K (.ref C) "__class__" = some (some (.builtin "object.__class__"))) &&
  (decide (PySem.W.specialIn K (.builtin "object.__class__") "__get__" = some (some (.builtin "getset_descriptor.__get__"))) && (decide (PySem.W.takesIn K (.builtin "object.__class__") = some true) && decide (PySem.W.mroIn K C (.type "object") = some true)))))))
theorem exB_ok {K : PySem.W.Frag} {C : Addr} (h : exB K C = true) : ExcC K C := by
  obtain ⟨h1, h⟩ := ba h
  obtain ⟨h2, h⟩ := ba h
  obtain ⟨h3, h⟩ := ba h
  obtain ⟨h4, h⟩ := ba h
  obtain ⟨h5, h⟩ := ba h
  obtain ⟨h6, h⟩ := ba h
  obtain ⟨h7, h8⟩ := ba h
  exact ⟨of_decide_eq_true h1, of_decide_eq_true h2, of_decide_eq_true h3, h4, of_decide_eq_true h5, of_decide_eq_true h6, of_decide_eq_true h7, of_decide_eq_true h8⟩
theorem xf_of {K : PySem.W.Frag} {C : Addr} (h : ExcC K C) : XfC K C := ⟨h.hg, h.hk, h.hs, h.hd⟩
def mkB (K : PySem.W.Frag) (C : Addr) : Bool := match K.lookup C with
  | some ⟨.type t, _, .cls cd, sl⟩ => (match cd.mro, sl.toList with
    | .ref C' :: mr, [_, _, _, _, some (.builtin n), _] => decide (t = "type") && (decide (C' = C) && (decide (n = "ValueError.__new__") && (!cd.hasDel && (cd.hasDict && PySem.HandSPX.refsVE mr))))
    | _, _ => false)
  | _ => false
theorem mkB_ok {K : PySem.W.Frag} {C : Addr} (h : mkB K C = true) : ∃ cn qn NS bs mr sn sub ab col dd z0 z1 z2 z3 z5, K.lookup C = some (excClassObj cn qn C NS bs mr true sn sub ab col dd z0 z1 z2 z3 z5 "ValueError.__new__") ∧ PySem.HandSPX.refsVE mr = true := by
  unfold mkB at h
  split at h
  · rename_i t dd cd sl ho
    split at h
    · rename_i C' mr z0 z1 z2 z3 n z5 hm hs
      obtain ⟨h1, h⟩ := ba h
      obtain ⟨h2, h⟩ := ba h
      obtain ⟨h3, h⟩ := ba h
      obtain ⟨h4, h⟩ := ba h
      obtain ⟨h5, h6⟩ := ba h
      obtain rfl := of_decide_eq_true h1
      obtain rfl := of_decide_eq_true h2
      obtain rfl := of_decide_eq_true h3
      have h4' : cd.hasDel = false := by simpa using h4
      obtain ⟨nm, bs, mro, ns, qn, hd, sn, sub, ab, col, del⟩ := cd
      dsimp only at hm h4' h5
      subst hm h4' h5
      have e : sl = #[z0, z1, z2, z3, some (.builtin "ValueError.__new__"), z5] := by
        obtain ⟨l⟩ := sl
        simp only at hs
        rw [hs]
      subst e
      exact ⟨nm, qn, ns, bs, mr, sn, sub, ab, col, dd, z0, z1, z2, z3, z5, ho, h6⟩
    · cases h
  · cases h
/-- C, an __init__ that keeps one thing as f -/
def ftB (K : PySem.W.Frag) (C : Addr) (f : Str) : Bool := mkB K C && (decide (PySem.W.findIn K (.ref C) "__setattr__" = some (some (.builtin "object.__setattr__"))) && (decide (PySem.W.findIn K (.ref C) f = some none) &&
  (decide (PySem.W.findIn K (.ref C) "__init__" = some (some (.ref (ma K C "__init__")))) && (decide (PySem.W.typeIn K (.ref (ma K C "__init__")) = some (.type "function")) && (!(f == ("self" : Str)) && !(f == ("__debug__" : Str)))))))
/-- the line of bases: C itself, then what is behind the base class -/
def lnB (K : PySem.W.Frag) (C P : Addr) : Bool := decide (PySem.W.typeIn K (.ref C) = some (.type "type")) && (match PySem.W.clsIn K C with
  | some cd => decide (cd.mro = (if C = P then [] else [.ref C]) ++ .ref P :: veBase)
  | none => false)
structure Ln (K : PySem.W.Frag) (C P : Addr) : Prop where
  ty : PySem.W.typeIn K (.ref C) = some (.type "type")
  cd : ∃ cd, PySem.W.clsIn K C = some cd ∧ cd.mro = (if C = P then [] else [.ref C]) ++ .ref P :: veBase
theorem lnB_ok {K : PySem.W.Frag} {C P : Addr} (h : lnB K C P = true) : Ln K C P := by
  obtain ⟨h1, h2⟩ := ba h
  refine ⟨of_decide_eq_true h1, ?_⟩
  cases e : PySem.W.clsIn K C with
  | none =>
    rw [e] at h2
    cases h2
  | some cd =>
    rw [e] at h2
    exact ⟨cd, rfl, of_decide_eq_true h2⟩
theorem ln_mro {K : PySem.W.Frag} {C P : Addr} (h : Ln K C P) (v : Value) : PySem.W.mroIn K C v = some (((if C = P then [] else [Value.ref C]) ++ Value.ref P :: veBase).contains v) := by
  obtain ⟨cd, e, m⟩ := h.cd
  unfold PySem.W.mroIn
  rw [e, Option.bind_some, m, if_neg (by split <;> simp)]
theorem kit_own {K : PySem.W.Frag} {C D P : Addr} (hC : Ln K C P) (hD : Ln K D P) : PySem.W.kitOne K (.ref C) (.ref D) = some (decide (D = C) || decide (D = P)) := by
  unfold PySem.W.kitOne
  by_cases h : C = D
  · subst h
    rw [if_pos (by simp)]
    simp
  · have h1 : ¬ (Value.ref C == Value.ref D) = true := fun z => h (Value.ref.inj (beq_iff_eq.mp z))
    rw [if_neg h1]
    obtain ⟨cd, e, m⟩ := hD.cd
    show (if ((PySem.W.clsIn K D).isSome && PySem.W.typeIn K (.ref D) == some (.type "type")) = true then PySem.W.subIn K (.ref C) (.ref D) else none) = _
    rw [e, hD.ty, if_pos (by rfl)]
    show PySem.W.mroIn K C (.ref D) = _
    rw [ln_mro hC]
    have h2 : ¬ D = C := fun z => h z.symm
    have h4 : ∀ X : Addr, (Value.ref D == Value.ref X) = decide (D = X) := fun X => by
      by_cases q : D = X
      · subst q
        simp
      · rw [decide_eq_false q]
        exact beq_eq_false_iff_ne.mpr fun z => q (Value.ref.inj z)
    congr 1
    by_cases hp : C = P
    · subst hp
      rw [if_pos rfl]
      simp [veBase, h4, h2]
    · rw [if_neg hp]
      simp [veBase, h4, h2]
theorem kit_ve {K : PySem.W.Frag} {C P : Addr} (hC : Ln K C P) : PySem.W.kitOne K (.ref C) (.type "ValueError") = some true := by
  show (if PySem.W.kitMeta "ValueError" = true then PySem.W.subIn K (.ref C) (.type "ValueError") else none) = some true
  rw [if_pos (by decide +kernel)]
  show PySem.W.mroIn K C (.type "ValueError") = some true
  rw [ln_mro hC]
  split <;> rfl
/-- .. and a tuple of them -/
theorem kit_any {K : PySem.W.Frag} {C P : Addr} (hC : Ln K C P) : ∀ Ds : List Addr, (∀ D ∈ Ds, Ln K D P) → PySem.W.kitAny K (.ref C) (Ds.map Value.ref) = some (Ds.any fun D => decide (D = C) || decide (D = P))
  | [], _ => rfl
  | D :: r, h => by
    have h1 := kit_own hC (h D List.mem_cons_self)
    have ih := kit_any hC r fun E hE => h E (List.mem_cons_of_mem _ hE)
    refine kitAny_cons h1 (fun e => ?_) (fun e => ?_)
    · rw [ih, List.any_cons, e, Bool.false_or]
    · rw [List.any_cons, e, Bool.true_or]
/-! the head's look -/
def hook (n : Nat) (fa : List Fa) (fn : List DefD) (ex : PySem.W.Frag → Bool) : PySem.W.Hook where
  α := Bool × AlD
  obs := fun s => (ex (frG s.heap.get? (asD s.heap.get? n)), obsD fa fn (frG s.heap.get? (asD s.heap.get? n)))
  val := fun _ => (true, valD fn)
  says := fun _ h => ∃ K : PySem.W.Frag, K.In h ∧ SaysD fa fn K ∧ ex K = true
  of := fun _ _ e => ⟨_, frG_in, congrArg (fun z : Bool × AlD => z.2) e, congrArg (fun z : Bool × AlD => z.1) e⟩
  keeps := fun _ _ _ ⟨K, hK, c⟩ k => ⟨K, PySem.W.Frag.In.keeps hK k, c⟩
def obsOf (n : Nat) (fa : List Fa) (fn : List DefD) (ex : PySem.W.Frag → Bool) (g : Addr → Option Obj) : Bool × AlD := (ex (frG g (asD g n)), obsD fa fn (frG g (asD g n)))
theorem obsOf_eq {n : Nat} {fa : List Fa} {fn : List DefD} {ex : PySem.W.Frag → Bool} {g : Addr → Option Obj} {s : Shared} (h : ∀ a, g a = s.heap.get? a) : obsOf n fa fn ex g = (hook n fa fn ex).obs s := by
  have e : g = s.heap.get? := funext h
  rw [e] <;> rfl
end XH

set_option Elab.async false
set_option linter.all false
set_option maxRecDepth 100000
set_option maxHeartbeats 400000
namespace XH
open PySem PySem.Spec PyProof.Rows L2 He
/-- the head's watch over the objects at some places of the heap, with a word on classes -/
def hookR (as : List Addr) (fa : List Fa) (fn : List DefD) (ex : PySem.W.Frag → Bool) : PySem.W.Hook where
  α := Bool × AlD
  obs := fun s => (ex (frG s.heap.get? as), obsD fa fn (frG s.heap.get? as))
  val := fun _ => (true, valD fn)
  says := fun _ h => ∃ K : PySem.W.Frag, K.In h ∧ SaysD fa fn K ∧ ex K = true
  of := fun _ _ e => ⟨_, frG_in, congrArg Prod.snd e, congrArg Prod.fst e⟩
  keeps := fun _ _ _ ⟨K, hK, c⟩ k => ⟨K, PySem.W.Frag.In.keeps hK k, c⟩
def obsR (as : List Addr) (fa : List Fa) (fn : List DefD) (ex : PySem.W.Frag → Bool) (g : Addr → Option Obj) : Bool × AlD := (ex (frG g as), obsD fa fn (frG g as))
theorem obsR_eq {as : List Addr} {fa : List Fa} {fn : List DefD} {ex : PySem.W.Frag → Bool} {g : Addr → Option Obj} {s : Shared} (h : ∀ a, g a = s.heap.get? a) : obsR as fa fn ex g = (hookR as fa fn ex).obs s := by
  have e : g = s.heap.get? := funext h
  rw [e] <;> rfl
end XH

set_option Elab.async false
set_option linter.all false
set_option maxRecDepth 100000
set_option maxHeartbeats 4000000
namespace K89
open PySem PySem.Spec PyProof.Rows L2
/-! ### what the head tells -/
def top (i : Nat) : Stmt := PySem.Challenge.pw_steadynets_k89_errors_of_nets_and_answer.main.body.getD i (.Pass ⟨0, 0, 0, 0⟩)
abbrev s_law_start : Stmt := top 74
abbrev s_law_pick : Stmt := top 75
abbrev s_law_between : Stmt := top 76
abbrev s_law_same : Stmt := top 77
abbrev s_law_kinds_of : Stmt := top 78
abbrev s_law_others : Stmt := top 79
abbrev s_law_is_other : Stmt := top 80
abbrev s_law_made_first : Stmt := top 81
abbrev s_law_made_middle : Stmt := top 82
abbrev s_law_made_last : Stmt := top 83
abbrev s_law_made_at : Stmt := top 84
abbrev s_law_object : Stmt := top 85
abbrev s_law_very : Stmt := top 86
abbrev s_law : Stmt := top 87
/-- the classes that keep one thing: their names, the names of what they keep -/
def xs0 : List (Str × Str) := [("BadNet", "net"), ("BadRun", "run"), ("BadPlace", "place"), ("BadAt", "at"), ("BadOrder", "order"), ("BadChain", "chain"), ("BadNetText", "line"), ("BadAnswer", "answer"), ("BadAnswerText", "line"), ("BadWholeText", "line"), ("BadGroup", "group"), ("BadGate", "gate"), ("BadWire", "wire"), ("BadBound", "bound"), ("DarkPanel", "panel"), ("BadBegin", "begin"), ("BadEnd", "end"), ("BadLit", "index"), ("BadDark", "index"), ("BadWires", "wires"), ("BadPrices", "prices"), ("BadDrop", "drop"), ("BadWishes", "index"), ("BadFlips", "flips"), ("BadSums", "sums"), ("BadFormula", "formula"), ("BadPanels", "index"), ("BadLamp", "lamp"), ("BadShared", "shared"), ("BadShare", "share")]
def xs1 : List (Str × Str) := [("DarkPanels", "lamp"), ("BadEdit", "edit"), ("BadDesk", "desk"), ("BadDeskText", "line"), ("BadMachine", "machine"), ("BadLamps", "index"), ("BadStates", "index"), ("BadMoves", "index"), ("BadName", "name"), ("BadWalk", "index"), ("BadMachineText", "line"), ("BadCode", "code"), ("BadMove", "move"), ("BadNets", "nets"), ("BadRuns", "index"), ("BadLog", "log"), ("BadLogText", "line"), ("BadMany", "many"), ("BadNumber", "number"), ("BadCell", "cell"), ("BadCube", "cube"), ("BadOther", "other"), ("BadCubes", "index"), ("BadLevers", "index"), ("BadTable", "index"), ("BadBursts", "index"), ("BadPanel", "panel"), ("BadIndex", "index"), ("BadSign", "sign"), ("BadOn", "index")]
def xs2 : List (Str × Str) := [("BadOff", "index"), ("BadClash", "cell"), ("BadPanelText", "line"), ("BadPath", "path"), ("BadStep", "step"), ("BadSteps", "index")]
def xs : List (Str × Str) := xs0 ++ (xs1 ++ (xs2))
/-- the others, the base of all first -/
def ns : List Str := ["PanelError", "NothingToUndo", "NothingToRedo"]
def fa0 : List He.Fa := [.glo "_law_start", .glo "_law_pick", .glo "_law_between", .glo "_law_same", .glo "_law_kinds_of", .glo "_law_others", .glo "_law_is_other", .glo "_law_made_first", .glo "_law_made_middle", .glo "_law_made_last", .glo "_law_made_at", .glo "_law_object", .glo "_law_very", .glo "law", .free "ValueError", .free "abs", .free "all", .free "bool", .free "dict", .free "int", .free "isinstance", .free "len", .free "list", .free "max", .free "range", .free "str", .free "tuple", .free "zip", .glo "BadNet", .glo "BadRun"]
def fa1 : List He.Fa := [.glo "BadPlace", .glo "BadAt", .glo "BadOrder", .glo "BadChain", .glo "BadNetText", .glo "BadAnswer", .glo "BadAnswerText", .glo "BadWholeText", .glo "BadGroup", .glo "BadGate", .glo "BadWire", .glo "BadBound", .glo "DarkPanel", .glo "BadBegin", .glo "BadEnd", .glo "BadLit", .glo "BadDark", .glo "BadWires", .glo "BadPrices", .glo "BadDrop", .glo "BadWishes", .glo "BadFlips", .glo "BadSums", .glo "BadFormula", .glo "BadPanels", .glo "BadLamp", .glo "BadShared", .glo "BadShare", .glo "DarkPanels", .glo "BadEdit"]
def fa2 : List He.Fa := [.glo "BadDesk", .glo "BadDeskText", .glo "BadMachine", .glo "BadLamps", .glo "BadStates", .glo "BadMoves", .glo "BadName", .glo "BadWalk", .glo "BadMachineText", .glo "BadCode", .glo "BadMove", .glo "BadNets", .glo "BadRuns", .glo "BadLog", .glo "BadLogText", .glo "BadMany", .glo "BadNumber", .glo "BadCell", .glo "BadCube", .glo "BadOther", .glo "BadCubes", .glo "BadLevers", .glo "BadTable", .glo "BadBursts", .glo "BadPanel", .glo "BadIndex", .glo "BadSign", .glo "BadOn", .glo "BadOff", .glo "BadClash"]
def fa3 : List He.Fa := [.glo "BadPanelText", .glo "BadPath", .glo "BadStep", .glo "BadSteps", .glo "PanelError", .glo "NothingToUndo", .glo "NothingToRedo"]
def fa : List He.Fa := fa0 ++ (fa1 ++ (fa2 ++ (fa3)))
def ini (x : Str) (i : Nat) : He.DefD := ⟨(x, some "__init__"), "__init__", x ++ ".__init__", defArgs (inClass (top i) 0), defBody (inClass (top i) 0), defScope (inClass (top i) 0), [], []⟩
def fn0 : List He.DefD := [⟨("_law_start", none), "_law_start", "_law_start", defArgs s_law_start, defBody s_law_start, defScope s_law_start, [], []⟩, ⟨("_law_pick", none), "_law_pick", "_law_pick", defArgs s_law_pick, defBody s_law_pick, defScope s_law_pick, [], []⟩, ⟨("_law_between", none), "_law_between", "_law_between", defArgs s_law_between, defBody s_law_between, defScope s_law_between, [], []⟩, ⟨("_law_same", none), "_law_same", "_law_same", defArgs s_law_same, defBody s_law_same, defScope s_law_same, [], []⟩, ⟨("_law_kinds_of", none), "_law_kinds_of", "_law_kinds_of", defArgs s_law_kinds_of, defBody s_law_kinds_of, defScope s_law_kinds_of, [], []⟩, ⟨("_law_others", none), "_law_others", "_law_others", defArgs s_law_others, defBody s_law_others, defScope s_law_others, [], []⟩, ⟨("_law_is_other", none), "_law_is_other", "_law_is_other", defArgs s_law_is_other, defBody s_law_is_other, defScope s_law_is_other, [], []⟩, ⟨("_law_made_first", none), "_law_made_first", "_law_made_first", defArgs s_law_made_first, defBody s_law_made_first, defScope s_law_made_first, [], []⟩, ⟨("_law_made_middle", none), "_law_made_middle", "_law_made_middle", defArgs s_law_made_middle, defBody s_law_made_middle, defScope s_law_made_middle, [], []⟩, ⟨("_law_made_last", none), "_law_made_last", "_law_made_last", defArgs s_law_made_last, defBody s_law_made_last, defScope s_law_made_last, [], []⟩, ⟨("_law_made_at", none), "_law_made_at", "_law_made_at", defArgs s_law_made_at, defBody s_law_made_at, defScope s_law_made_at, [], []⟩, ⟨("_law_object", none), "_law_object", "_law_object", defArgs s_law_object, defBody s_law_object, defScope s_law_object, [], []⟩, ⟨("_law_very", none), "_law_very", "_law_very", defArgs s_law_very, defBody s_law_very, defScope s_law_very, [], []⟩, ⟨("law", none), "law", "law", defArgs s_law, defBody s_law, defScope s_law, [], []⟩, ini "BadNet" 2, ini "BadRun" 3, ini "BadPlace" 4, ini "BadAt" 5, ini "BadOrder" 6, ini "BadChain" 7, ini "BadNetText" 8, ini "BadAnswer" 9, ini "BadAnswerText" 10, ini "BadWholeText" 11, ini "BadGroup" 12, ini "BadGate" 13, ini "BadWire" 14, ini "BadBound" 15, ini "DarkPanel" 16, ini "BadBegin" 18]
def fn1 : List He.DefD := [ini "BadEnd" 19, ini "BadLit" 20, ini "BadDark" 21, ini "BadWires" 22, ini "BadPrices" 23, ini "BadDrop" 24, ini "BadWishes" 25, ini "BadFlips" 26, ini "BadSums" 27, ini "BadFormula" 28, ini "BadPanels" 29, ini "BadLamp" 30, ini "BadShared" 31, ini "BadShare" 32, ini "DarkPanels" 33, ini "BadEdit" 34, ini "BadDesk" 35, ini "BadDeskText" 36, ini "BadMachine" 40, ini "BadLamps" 41, ini "BadStates" 42, ini "BadMoves" 43, ini "BadName" 44, ini "BadWalk" 45, ini "BadMachineText" 46, ini "BadCode" 47, ini "BadMove" 48, ini "BadNets" 49, ini "BadRuns" 50, ini "BadLog" 51]
def fn2 : List He.DefD := [ini "BadLogText" 52, ini "BadMany" 54, ini "BadNumber" 55, ini "BadCell" 56, ini "BadCube" 57, ini "BadOther" 58, ini "BadCubes" 59, ini "BadLevers" 60, ini "BadTable" 61, ini "BadBursts" 62, ini "BadPanel" 63, ini "BadIndex" 64, ini "BadSign" 65, ini "BadOn" 66, ini "BadOff" 67, ini "BadClash" 68, ini "BadPanelText" 69, ini "BadPath" 70, ini "BadStep" 71, ini "BadSteps" 72]
def fn : List He.DefD := fn0 ++ (fn1 ++ (fn2))
def exK (K : PySem.W.Frag) : Bool := (xs.all fun p => PySem.W.keepIn K (.ref (He.ga K p.1)) && (XH.exB K (He.ga K p.1) && (XH.ftB K (He.ga K p.1) p.2 && XH.lnB K (He.ga K p.1) (He.ga K "PanelError")))) &&
  ((ns.all fun x => PySem.W.keepIn K (.ref (He.ga K x)) && (XH.exB K (He.ga K x) && (PySem.W.excIn K (He.ga K x) He.veBase "ValueError.__new__" && XH.lnB K (He.ga K x) (He.ga K "PanelError")))) &&
  decide ((xs.map fun p => He.ga K p.1) ++ ns.map fun x => He.ga K x).Nodup)
/-- the world of the text -/
structure Wld (K : PySem.W.Frag) (mg : Str → Option Value) : Prop where
  in_ : ∃ h : Heap, K.In h ∧ h.Ns mainGlobals mg
  c : He.SaysD fa fn K
  b : exK K = true
/-- a class that keeps one thing -/
structure XF (K : PySem.W.Frag) (mg : Str → Option Value) (x f : Str) : Prop where
  g : mg x = some (.ref (He.ga K x))
  k : PySem.W.keepIn K (.ref (He.ga K x)) = true
  t : PySem.XV.XTxt K (He.ga K x) (He.ma K (He.ga K x) "__init__") (x ++ ".__init__") f
  c : ExcC K (He.ga K x)
  l : XH.Ln K (He.ga K x) (He.ga K "PanelError")
structure XN (K : PySem.W.Frag) (mg : Str → Option Value) (x : Str) : Prop where
  g : mg x = some (.ref (He.ga K x))
  k : PySem.W.keepIn K (.ref (He.ga K x)) = true
  q : PySem.W.excIn K (He.ga K x) He.veBase "ValueError.__new__" = true
  c : ExcC K (He.ga K x)
  l : XH.Ln K (He.ga K x) (He.ga K "PanelError")
section
variable {K : PySem.W.Frag} {mg : Str → Option Value}
theorem Wld.glo (W : Wld K mg) (i : Nat) {x : Str} (h : fa[i]? = some (.glo x)) : mg x = some (.ref (He.ga K x)) := by
  obtain ⟨hp, X, G⟩ := W.in_
  exact He.glo_ok X G (W.c.fact i h)
theorem Wld.free (W : Wld K mg) (i : Nat) {x : Str} (h : fa[i]? = some (.free x)) : mg x = none := by
  obtain ⟨hp, X, G⟩ := W.in_
  exact He.free_ok X G (W.c.fact i h)
theorem xtxt_of {C fI : Addr} {qual f : Str} {ps : Arguments} {bd : List Stmt} {sc : Scope} {p1 p2 q1 q2 q3 q4 : Pos} (b : XH.ftB K C f = true) (F : ∃ fd, FunD K "__init__" qual ps bd sc [] [] fI fd) (ef : fI = He.ma K C "__init__")
    (e1 : ps = PySem.XV.iA f p1 p2) (e2 : bd = PySem.XV.iB f q1 q2 q3 q4) (e3 : sc = PySem.XV.iS f) : PySem.XV.XTxt K C (He.ma K C "__init__") qual f := by
  subst ef e1 e2 e3
  obtain ⟨b1, b⟩ := He.ba b
  obtain ⟨b2, b⟩ := He.ba b
  obtain ⟨b3, b⟩ := He.ba b
  obtain ⟨b4, b⟩ := He.ba b
  obtain ⟨b5, b⟩ := He.ba b
  obtain ⟨b6, b7⟩ := He.ba b
  obtain ⟨fd, F⟩ := F
  obtain ⟨oc, od, dV, kV, doc, pm, an, cdv, ct, osl, e, lk, hcd, hD, hK⟩ := F.ex
  have ed : dV = .none := by
    rcases hD with ⟨_, z⟩ | ⟨z, _⟩
    · exact z
    · exact absurd rfl z
  subst ed e
  exact ⟨⟨by simpa using b6, by simpa using b7⟩, XH.mkB_ok b1, of_decide_eq_true b2, of_decide_eq_true b3, of_decide_eq_true b4, of_decide_eq_true b5, ⟨oc, od, kV, doc, pm, an, cdv, ct, osl, _, _, _, _, _, _, lk, hcd⟩⟩
theorem Wld.xf (W : Wld K mg) (i j k : Nat) {x f : Str} {n : Nat} {p1 p2 q1 q2 q3 q4 : Pos} (h : xs[i]? = some (x, f)) (hg : fa[j]? = some (.glo x)) (hd : fn[k]? = some (ini x n)) (e1 : defArgs (inClass (top n) 0) = PySem.XV.iA f p1 p2)
    (e2 : defBody (inClass (top n) 0) = PySem.XV.iB f q1 q2 q3 q4) (e3 : defScope (inClass (top n) 0) = PySem.XV.iS f) : XF K mg x f := by
  obtain ⟨b1, _⟩ := He.ba W.b
  have z := List.all_eq_true.mp b1 _ (List.mem_of_getElem? h)
  obtain ⟨z1, z⟩ := He.ba z
  obtain ⟨z2, z⟩ := He.ba z
  obtain ⟨z3, z4⟩ := He.ba z
  exact ⟨W.glo j hg, z1, xtxt_of z3 (W.c.def_ k hd) rfl e1 e2 e3, XH.exB_ok z2, XH.lnB_ok z4⟩
theorem Wld.xn (W : Wld K mg) (i j : Nat) {x : Str} (h : ns[i]? = some x) (hg : fa[j]? = some (.glo x)) : XN K mg x := by
  obtain ⟨_, b2⟩ := He.ba W.b
  obtain ⟨b3, _⟩ := He.ba b2
  have z := List.all_eq_true.mp b3 _ (List.mem_of_getElem? h)
  obtain ⟨z1, z⟩ := He.ba z
  obtain ⟨z2, z⟩ := He.ba z
  obtain ⟨z3, z4⟩ := He.ba z
  exact ⟨W.glo j hg, z1, z3, XH.exB_ok z2, XH.lnB_ok z4⟩
theorem Wld.nd (W : Wld K mg) : ((xs.map fun p => He.ga K p.1) ++ ns.map fun x => He.ga K x).Nodup := by
  obtain ⟨_, b2⟩ := He.ba W.b
  exact of_decide_eq_true (He.ba b2).2
theorem Wld.n_ValueError (W : Wld K mg) : mg "ValueError" = none := W.free 14 rfl
theorem Wld.n_abs (W : Wld K mg) : mg "abs" = none := W.free 15 rfl
theorem Wld.n_all (W : Wld K mg) : mg "all" = none := W.free 16 rfl
theorem Wld.n_bool (W : Wld K mg) : mg "bool" = none := W.free 17 rfl
theorem Wld.n_dict (W : Wld K mg) : mg "dict" = none := W.free 18 rfl
theorem Wld.n_int (W : Wld K mg) : mg "int" = none := W.free 19 rfl
theorem Wld.n_isinstance (W : Wld K mg) : mg "isinstance" = none := W.free 20 rfl
theorem Wld.n_len (W : Wld K mg) : mg "len" = none := W.free 21 rfl
theorem Wld.n_list (W : Wld K mg) : mg "list" = none := W.free 22 rfl
theorem Wld.n_max (W : Wld K mg) : mg "max" = none := W.free 23 rfl
theorem Wld.n_range (W : Wld K mg) : mg "range" = none := W.free 24 rfl
theorem Wld.n_str (W : Wld K mg) : mg "str" = none := W.free 25 rfl
theorem Wld.n_tuple (W : Wld K mg) : mg "tuple" = none := W.free 26 rfl
theorem Wld.n_zip (W : Wld K mg) : mg "zip" = none := W.free 27 rfl
theorem Wld.g_law_start (W : Wld K mg) : mg "_law_start" = some (.ref (He.ga K "_law_start")) := W.glo 0 rfl
theorem Wld.g_law_pick (W : Wld K mg) : mg "_law_pick" = some (.ref (He.ga K "_law_pick")) := W.glo 1 rfl
theorem Wld.g_law_between (W : Wld K mg) : mg "_law_between" = some (.ref (He.ga K "_law_between")) := W.glo 2 rfl
theorem Wld.g_law_same (W : Wld K mg) : mg "_law_same" = some (.ref (He.ga K "_law_same")) := W.glo 3 rfl
theorem Wld.g_law_kinds_of (W : Wld K mg) : mg "_law_kinds_of" = some (.ref (He.ga K "_law_kinds_of")) := W.glo 4 rfl
theorem Wld.g_law_others (W : Wld K mg) : mg "_law_others" = some (.ref (He.ga K "_law_others")) := W.glo 5 rfl
theorem Wld.g_law_is_other (W : Wld K mg) : mg "_law_is_other" = some (.ref (He.ga K "_law_is_other")) := W.glo 6 rfl
theorem Wld.g_law_made_first (W : Wld K mg) : mg "_law_made_first" = some (.ref (He.ga K "_law_made_first")) := W.glo 7 rfl
theorem Wld.g_law_made_middle (W : Wld K mg) : mg "_law_made_middle" = some (.ref (He.ga K "_law_made_middle")) := W.glo 8 rfl
theorem Wld.g_law_made_last (W : Wld K mg) : mg "_law_made_last" = some (.ref (He.ga K "_law_made_last")) := W.glo 9 rfl
theorem Wld.g_law_made_at (W : Wld K mg) : mg "_law_made_at" = some (.ref (He.ga K "_law_made_at")) := W.glo 10 rfl
theorem Wld.g_law_object (W : Wld K mg) : mg "_law_object" = some (.ref (He.ga K "_law_object")) := W.glo 11 rfl
theorem Wld.g_law_very (W : Wld K mg) : mg "_law_very" = some (.ref (He.ga K "_law_very")) := W.glo 12 rfl
theorem Wld.g_law (W : Wld K mg) : mg "law" = some (.ref (He.ga K "law")) := W.glo 13 rfl
theorem Wld.x_BadNet (W : Wld K mg) : XF K mg "BadNet" "net" := W.xf 0 28 14 (n := 2) rfl rfl rfl rfl rfl rfl
theorem Wld.x_BadRun (W : Wld K mg) : XF K mg "BadRun" "run" := W.xf 1 29 15 (n := 3) rfl rfl rfl rfl rfl rfl
theorem Wld.x_BadPlace (W : Wld K mg) : XF K mg "BadPlace" "place" := W.xf 2 30 16 (n := 4) rfl rfl rfl rfl rfl rfl
theorem Wld.x_BadAt (W : Wld K mg) : XF K mg "BadAt" "at" := W.xf 3 31 17 (n := 5) rfl rfl rfl rfl rfl rfl
theorem Wld.x_BadOrder (W : Wld K mg) : XF K mg "BadOrder" "order" := W.xf 4 32 18 (n := 6) rfl rfl rfl rfl rfl rfl
theorem Wld.x_BadChain (W : Wld K mg) : XF K mg "BadChain" "chain" := W.xf 5 33 19 (n := 7) rfl rfl rfl rfl rfl rfl
theorem Wld.x_BadNetText (W : Wld K mg) : XF K mg "BadNetText" "line" := W.xf 6 34 20 (n := 8) rfl rfl rfl rfl rfl rfl
theorem Wld.x_BadAnswer (W : Wld K mg) : XF K mg "BadAnswer" "answer" := W.xf 7 35 21 (n := 9) rfl rfl rfl rfl rfl rfl
theorem Wld.x_BadAnswerText (W : Wld K mg) : XF K mg "BadAnswerText" "line" := W.xf 8 36 22 (n := 10) rfl rfl rfl rfl rfl rfl
theorem Wld.x_BadWholeText (W : Wld K mg) : XF K mg "BadWholeText" "line" := W.xf 9 37 23 (n := 11) rfl rfl rfl rfl rfl rfl
theorem Wld.x_BadGroup (W : Wld K mg) : XF K mg "BadGroup" "group" := W.xf 10 38 24 (n := 12) rfl rfl rfl rfl rfl rfl
theorem Wld.x_BadGate (W : Wld K mg) : XF K mg "BadGate" "gate" := W.xf 11 39 25 (n := 13) rfl rfl rfl rfl rfl rfl
theorem Wld.x_BadWire (W : Wld K mg) : XF K mg "BadWire" "wire" := W.xf 12 40 26 (n := 14) rfl rfl rfl rfl rfl rfl
theorem Wld.x_BadBound (W : Wld K mg) : XF K mg "BadBound" "bound" := W.xf 13 41 27 (n := 15) rfl rfl rfl rfl rfl rfl
theorem Wld.x_DarkPanel (W : Wld K mg) : XF K mg "DarkPanel" "panel" := W.xf 14 42 28 (n := 16) rfl rfl rfl rfl rfl rfl
theorem Wld.x_BadBegin (W : Wld K mg) : XF K mg "BadBegin" "begin" := W.xf 15 43 29 (n := 18) rfl rfl rfl rfl rfl rfl
theorem Wld.x_BadEnd (W : Wld K mg) : XF K mg "BadEnd" "end" := W.xf 16 44 30 (n := 19) rfl rfl rfl rfl rfl rfl
theorem Wld.x_BadLit (W : Wld K mg) : XF K mg "BadLit" "index" := W.xf 17 45 31 (n := 20) rfl rfl rfl rfl rfl rfl
theorem Wld.x_BadDark (W : Wld K mg) : XF K mg "BadDark" "index" := W.xf 18 46 32 (n := 21) rfl rfl rfl rfl rfl rfl
theorem Wld.x_BadWires (W : Wld K mg) : XF K mg "BadWires" "wires" := W.xf 19 47 33 (n := 22) rfl rfl rfl rfl rfl rfl
theorem Wld.x_BadPrices (W : Wld K mg) : XF K mg "BadPrices" "prices" := W.xf 20 48 34 (n := 23) rfl rfl rfl rfl rfl rfl
theorem Wld.x_BadDrop (W : Wld K mg) : XF K mg "BadDrop" "drop" := W.xf 21 49 35 (n := 24) rfl rfl rfl rfl rfl rfl
theorem Wld.x_BadWishes (W : Wld K mg) : XF K mg "BadWishes" "index" := W.xf 22 50 36 (n := 25) rfl rfl rfl rfl rfl rfl
theorem Wld.x_BadFlips (W : Wld K mg) : XF K mg "BadFlips" "flips" := W.xf 23 51 37 (n := 26) rfl rfl rfl rfl rfl rfl
theorem Wld.x_BadSums (W : Wld K mg) : XF K mg "BadSums" "sums" := W.xf 24 52 38 (n := 27) rfl rfl rfl rfl rfl rfl
theorem Wld.x_BadFormula (W : Wld K mg) : XF K mg "BadFormula" "formula" := W.xf 25 53 39 (n := 28) rfl rfl rfl rfl rfl rfl
theorem Wld.x_BadPanels (W : Wld K mg) : XF K mg "BadPanels" "index" := W.xf 26 54 40 (n := 29) rfl rfl rfl rfl rfl rfl
theorem Wld.x_BadLamp (W : Wld K mg) : XF K mg "BadLamp" "lamp" := W.xf 27 55 41 (n := 30) rfl rfl rfl rfl rfl rfl
theorem Wld.x_BadShared (W : Wld K mg) : XF K mg "BadShared" "shared" := W.xf 28 56 42 (n := 31) rfl rfl rfl rfl rfl rfl
theorem Wld.x_BadShare (W : Wld K mg) : XF K mg "BadShare" "share" := W.xf 29 57 43 (n := 32) rfl rfl rfl rfl rfl rfl
theorem Wld.x_DarkPanels (W : Wld K mg) : XF K mg "DarkPanels" "lamp" := W.xf 30 58 44 (n := 33) rfl rfl rfl rfl rfl rfl
theorem Wld.x_BadEdit (W : Wld K mg) : XF K mg "BadEdit" "edit" := W.xf 31 59 45 (n := 34) rfl rfl rfl rfl rfl rfl
theorem Wld.x_BadDesk (W : Wld K mg) : XF K mg "BadDesk" "desk" := W.xf 32 60 46 (n := 35) rfl rfl rfl rfl rfl rfl
theorem Wld.x_BadDeskText (W : Wld K mg) : XF K mg "BadDeskText" "line" := W.xf 33 61 47 (n := 36) rfl rfl rfl rfl rfl rfl
theorem Wld.x_BadMachine (W : Wld K mg) : XF K mg "BadMachine" "machine" := W.xf 34 62 48 (n := 40) rfl rfl rfl rfl rfl rfl
theorem Wld.x_BadLamps (W : Wld K mg) : XF K mg "BadLamps" "index" := W.xf 35 63 49 (n := 41) rfl rfl rfl rfl rfl rfl
theorem Wld.x_BadStates (W : Wld K mg) : XF K mg "BadStates" "index" := W.xf 36 64 50 (n := 42) rfl rfl rfl rfl rfl rfl
theorem Wld.x_BadMoves (W : Wld K mg) : XF K mg "BadMoves" "index" := W.xf 37 65 51 (n := 43) rfl rfl rfl rfl rfl rfl
theorem Wld.x_BadName (W : Wld K mg) : XF K mg "BadName" "name" := W.xf 38 66 52 (n := 44) rfl rfl rfl rfl rfl rfl
theorem Wld.x_BadWalk (W : Wld K mg) : XF K mg "BadWalk" "index" := W.xf 39 67 53 (n := 45) rfl rfl rfl rfl rfl rfl
theorem Wld.x_BadMachineText (W : Wld K mg) : XF K mg "BadMachineText" "line" := W.xf 40 68 54 (n := 46) rfl rfl rfl rfl rfl rfl
theorem Wld.x_BadCode (W : Wld K mg) : XF K mg "BadCode" "code" := W.xf 41 69 55 (n := 47) rfl rfl rfl rfl rfl rfl
theorem Wld.x_BadMove (W : Wld K mg) : XF K mg "BadMove" "move" := W.xf 42 70 56 (n := 48) rfl rfl rfl rfl rfl rfl
theorem Wld.x_BadNets (W : Wld K mg) : XF K mg "BadNets" "nets" := W.xf 43 71 57 (n := 49) rfl rfl rfl rfl rfl rfl
theorem Wld.x_BadRuns (W : Wld K mg) : XF K mg "BadRuns" "index" := W.xf 44 72 58 (n := 50) rfl rfl rfl rfl rfl rfl
theorem Wld.x_BadLog (W : Wld K mg) : XF K mg "BadLog" "log" := W.xf 45 73 59 (n := 51) rfl rfl rfl rfl rfl rfl
theorem Wld.x_BadLogText (W : Wld K mg) : XF K mg "BadLogText" "line" := W.xf 46 74 60 (n := 52) rfl rfl rfl rfl rfl rfl
theorem Wld.x_BadMany (W : Wld K mg) : XF K mg "BadMany" "many" := W.xf 47 75 61 (n := 54) rfl rfl rfl rfl rfl rfl
theorem Wld.x_BadNumber (W : Wld K mg) : XF K mg "BadNumber" "number" := W.xf 48 76 62 (n := 55) rfl rfl rfl rfl rfl rfl
theorem Wld.x_BadCell (W : Wld K mg) : XF K mg "BadCell" "cell" := W.xf 49 77 63 (n := 56) rfl rfl rfl rfl rfl rfl
theorem Wld.x_BadCube (W : Wld K mg) : XF K mg "BadCube" "cube" := W.xf 50 78 64 (n := 57) rfl rfl rfl rfl rfl rfl
theorem Wld.x_BadOther (W : Wld K mg) : XF K mg "BadOther" "other" := W.xf 51 79 65 (n := 58) rfl rfl rfl rfl rfl rfl
theorem Wld.x_BadCubes (W : Wld K mg) : XF K mg "BadCubes" "index" := W.xf 52 80 66 (n := 59) rfl rfl rfl rfl rfl rfl
theorem Wld.x_BadLevers (W : Wld K mg) : XF K mg "BadLevers" "index" := W.xf 53 81 67 (n := 60) rfl rfl rfl rfl rfl rfl
theorem Wld.x_BadTable (W : Wld K mg) : XF K mg "BadTable" "index" := W.xf 54 82 68 (n := 61) rfl rfl rfl rfl rfl rfl
theorem Wld.x_BadBursts (W : Wld K mg) : XF K mg "BadBursts" "index" := W.xf 55 83 69 (n := 62) rfl rfl rfl rfl rfl rfl
theorem Wld.x_BadPanel (W : Wld K mg) : XF K mg "BadPanel" "panel" := W.xf 56 84 70 (n := 63) rfl rfl rfl rfl rfl rfl
theorem Wld.x_BadIndex (W : Wld K mg) : XF K mg "BadIndex" "index" := W.xf 57 85 71 (n := 64) rfl rfl rfl rfl rfl rfl
theorem Wld.x_BadSign (W : Wld K mg) : XF K mg "BadSign" "sign" := W.xf 58 86 72 (n := 65) rfl rfl rfl rfl rfl rfl
theorem Wld.x_BadOn (W : Wld K mg) : XF K mg "BadOn" "index" := W.xf 59 87 73 (n := 66) rfl rfl rfl rfl rfl rfl
theorem Wld.x_BadOff (W : Wld K mg) : XF K mg "BadOff" "index" := W.xf 60 88 74 (n := 67) rfl rfl rfl rfl rfl rfl
theorem Wld.x_BadClash (W : Wld K mg) : XF K mg "BadClash" "cell" := W.xf 61 89 75 (n := 68) rfl rfl rfl rfl rfl rfl
theorem Wld.x_BadPanelText (W : Wld K mg) : XF K mg "BadPanelText" "line" := W.xf 62 90 76 (n := 69) rfl rfl rfl rfl rfl rfl
theorem Wld.x_BadPath (W : Wld K mg) : XF K mg "BadPath" "path" := W.xf 63 91 77 (n := 70) rfl rfl rfl rfl rfl rfl
theorem Wld.x_BadStep (W : Wld K mg) : XF K mg "BadStep" "step" := W.xf 64 92 78 (n := 71) rfl rfl rfl rfl rfl rfl
theorem Wld.x_BadSteps (W : Wld K mg) : XF K mg "BadSteps" "index" := W.xf 65 93 79 (n := 72) rfl rfl rfl rfl rfl rfl
theorem Wld.x_PanelError (W : Wld K mg) : XN K mg "PanelError" := W.xn 0 94 rfl rfl
theorem Wld.x_NothingToUndo (W : Wld K mg) : XN K mg "NothingToUndo" := W.xn 1 95 rfl rfl
theorem Wld.x_NothingToRedo (W : Wld K mg) : XN K mg "NothingToRedo" := W.xn 2 96 rfl rfl
theorem Wld.g_BadNet (W : Wld K mg) : mg "BadNet" = some (.ref (He.ga K "BadNet")) := (W.x_BadNet).g
theorem Wld.g_BadRun (W : Wld K mg) : mg "BadRun" = some (.ref (He.ga K "BadRun")) := (W.x_BadRun).g
theorem Wld.g_BadPlace (W : Wld K mg) : mg "BadPlace" = some (.ref (He.ga K "BadPlace")) := (W.x_BadPlace).g
theorem Wld.g_BadAt (W : Wld K mg) : mg "BadAt" = some (.ref (He.ga K "BadAt")) := (W.x_BadAt).g
theorem Wld.g_BadOrder (W : Wld K mg) : mg "BadOrder" = some (.ref (He.ga K "BadOrder")) := (W.x_BadOrder).g
theorem Wld.g_BadChain (W : Wld K mg) : mg "BadChain" = some (.ref (He.ga K "BadChain")) := (W.x_BadChain).g
theorem Wld.g_BadNetText (W : Wld K mg) : mg "BadNetText" = some (.ref (He.ga K "BadNetText")) := (W.x_BadNetText).g
theorem Wld.g_BadAnswer (W : Wld K mg) : mg "BadAnswer" = some (.ref (He.ga K "BadAnswer")) := (W.x_BadAnswer).g
theorem Wld.g_BadAnswerText (W : Wld K mg) : mg "BadAnswerText" = some (.ref (He.ga K "BadAnswerText")) := (W.x_BadAnswerText).g
theorem Wld.g_BadWholeText (W : Wld K mg) : mg "BadWholeText" = some (.ref (He.ga K "BadWholeText")) := (W.x_BadWholeText).g
theorem Wld.g_BadGroup (W : Wld K mg) : mg "BadGroup" = some (.ref (He.ga K "BadGroup")) := (W.x_BadGroup).g
theorem Wld.g_BadGate (W : Wld K mg) : mg "BadGate" = some (.ref (He.ga K "BadGate")) := (W.x_BadGate).g
theorem Wld.g_BadWire (W : Wld K mg) : mg "BadWire" = some (.ref (He.ga K "BadWire")) := (W.x_BadWire).g
theorem Wld.g_BadBound (W : Wld K mg) : mg "BadBound" = some (.ref (He.ga K "BadBound")) := (W.x_BadBound).g
theorem Wld.g_DarkPanel (W : Wld K mg) : mg "DarkPanel" = some (.ref (He.ga K "DarkPanel")) := (W.x_DarkPanel).g
theorem Wld.g_BadBegin (W : Wld K mg) : mg "BadBegin" = some (.ref (He.ga K "BadBegin")) := (W.x_BadBegin).g
theorem Wld.g_BadEnd (W : Wld K mg) : mg "BadEnd" = some (.ref (He.ga K "BadEnd")) := (W.x_BadEnd).g
theorem Wld.g_BadLit (W : Wld K mg) : mg "BadLit" = some (.ref (He.ga K "BadLit")) := (W.x_BadLit).g
theorem Wld.g_BadDark (W : Wld K mg) : mg "BadDark" = some (.ref (He.ga K "BadDark")) := (W.x_BadDark).g
theorem Wld.g_BadWires (W : Wld K mg) : mg "BadWires" = some (.ref (He.ga K "BadWires")) := (W.x_BadWires).g
theorem Wld.g_BadPrices (W : Wld K mg) : mg "BadPrices" = some (.ref (He.ga K "BadPrices")) := (W.x_BadPrices).g
theorem Wld.g_BadDrop (W : Wld K mg) : mg "BadDrop" = some (.ref (He.ga K "BadDrop")) := (W.x_BadDrop).g
theorem Wld.g_BadWishes (W : Wld K mg) : mg "BadWishes" = some (.ref (He.ga K "BadWishes")) := (W.x_BadWishes).g
theorem Wld.g_BadFlips (W : Wld K mg) : mg "BadFlips" = some (.ref (He.ga K "BadFlips")) := (W.x_BadFlips).g
theorem Wld.g_BadSums (W : Wld K mg) : mg "BadSums" = some (.ref (He.ga K "BadSums")) := (W.x_BadSums).g
theorem Wld.g_BadFormula (W : Wld K mg) : mg "BadFormula" = some (.ref (He.ga K "BadFormula")) := (W.x_BadFormula).g
theorem Wld.g_BadPanels (W : Wld K mg) : mg "BadPanels" = some (.ref (He.ga K "BadPanels")) := (W.x_BadPanels).g
theorem Wld.g_BadLamp (W : Wld K mg) : mg "BadLamp" = some (.ref (He.ga K "BadLamp")) := (W.x_BadLamp).g
theorem Wld.g_BadShared (W : Wld K mg) : mg "BadShared" = some (.ref (He.ga K "BadShared")) := (W.x_BadShared).g
theorem Wld.g_BadShare (W : Wld K mg) : mg "BadShare" = some (.ref (He.ga K "BadShare")) := (W.x_BadShare).g
theorem Wld.g_DarkPanels (W : Wld K mg) : mg "DarkPanels" = some (.ref (He.ga K "DarkPanels")) := (W.x_DarkPanels).g
theorem Wld.g_BadEdit (W : Wld K mg) : mg "BadEdit" = some (.ref (He.ga K "BadEdit")) := (W.x_BadEdit).g
theorem Wld.g_BadDesk (W : Wld K mg) : mg "BadDesk" = some (.ref (He.ga K "BadDesk")) := (W.x_BadDesk).g
theorem Wld.g_BadDeskText (W : Wld K mg) : mg "BadDeskText" = some (.ref (He.ga K "BadDeskText")) := (W.x_BadDeskText).g
theorem Wld.g_BadMachine (W : Wld K mg) : mg "BadMachine" = some (.ref (He.ga K "BadMachine")) := (W.x_BadMachine).g
theorem Wld.g_BadLamps (W : Wld K mg) : mg "BadLamps" = some (.ref (He.ga K "BadLamps")) := (W.x_BadLamps).g
theorem Wld.g_BadStates (W : Wld K mg) : mg "BadStates" = some (.ref (He.ga K "BadStates")) := (W.x_BadStates).g
theorem Wld.g_BadMoves (W : Wld K mg) : mg "BadMoves" = some (.ref (He.ga K "BadMoves")) := (W.x_BadMoves).g
theorem Wld.g_BadName (W : Wld K mg) : mg "BadName" = some (.ref (He.ga K "BadName")) := (W.x_BadName).g
theorem Wld.g_BadWalk (W : Wld K mg) : mg "BadWalk" = some (.ref (He.ga K "BadWalk")) := (W.x_BadWalk).g
theorem Wld.g_BadMachineText (W : Wld K mg) : mg "BadMachineText" = some (.ref (He.ga K "BadMachineText")) := (W.x_BadMachineText).g
theorem Wld.g_BadCode (W : Wld K mg) : mg "BadCode" = some (.ref (He.ga K "BadCode")) := (W.x_BadCode).g
theorem Wld.g_BadMove (W : Wld K mg) : mg "BadMove" = some (.ref (He.ga K "BadMove")) := (W.x_BadMove).g
theorem Wld.g_BadNets (W : Wld K mg) : mg "BadNets" = some (.ref (He.ga K "BadNets")) := (W.x_BadNets).g
theorem Wld.g_BadRuns (W : Wld K mg) : mg "BadRuns" = some (.ref (He.ga K "BadRuns")) := (W.x_BadRuns).g
theorem Wld.g_BadLog (W : Wld K mg) : mg "BadLog" = some (.ref (He.ga K "BadLog")) := (W.x_BadLog).g
theorem Wld.g_BadLogText (W : Wld K mg) : mg "BadLogText" = some (.ref (He.ga K "BadLogText")) := (W.x_BadLogText).g
theorem Wld.g_BadMany (W : Wld K mg) : mg "BadMany" = some (.ref (He.ga K "BadMany")) := (W.x_BadMany).g
theorem Wld.g_BadNumber (W : Wld K mg) : mg "BadNumber" = some (.ref (He.ga K "BadNumber")) := (W.x_BadNumber).g
theorem Wld.g_BadCell (W : Wld K mg) : mg "BadCell" = some (.ref (He.ga K "BadCell")) := (W.x_BadCell).g
theorem Wld.g_BadCube (W : Wld K mg) : mg "BadCube" = some (.ref (He.ga K "BadCube")) := (W.x_BadCube).g
theorem Wld.g_BadOther (W : Wld K mg) : mg "BadOther" = some (.ref (He.ga K "BadOther")) := (W.x_BadOther).g
theorem Wld.g_BadCubes (W : Wld K mg) : mg "BadCubes" = some (.ref (He.ga K "BadCubes")) := (W.x_BadCubes).g
theorem Wld.g_BadLevers (W : Wld K mg) : mg "BadLevers" = some (.ref (He.ga K "BadLevers")) := (W.x_BadLevers).g
theorem Wld.g_BadTable (W : Wld K mg) : mg "BadTable" = some (.ref (He.ga K "BadTable")) := (W.x_BadTable).g
theorem Wld.g_BadBursts (W : Wld K mg) : mg "BadBursts" = some (.ref (He.ga K "BadBursts")) := (W.x_BadBursts).g
theorem Wld.g_BadPanel (W : Wld K mg) : mg "BadPanel" = some (.ref (He.ga K "BadPanel")) := (W.x_BadPanel).g
theorem Wld.g_BadIndex (W : Wld K mg) : mg "BadIndex" = some (.ref (He.ga K "BadIndex")) := (W.x_BadIndex).g
theorem Wld.g_BadSign (W : Wld K mg) : mg "BadSign" = some (.ref (He.ga K "BadSign")) := (W.x_BadSign).g
theorem Wld.g_BadOn (W : Wld K mg) : mg "BadOn" = some (.ref (He.ga K "BadOn")) := (W.x_BadOn).g
theorem Wld.g_BadOff (W : Wld K mg) : mg "BadOff" = some (.ref (He.ga K "BadOff")) := (W.x_BadOff).g
theorem Wld.g_BadClash (W : Wld K mg) : mg "BadClash" = some (.ref (He.ga K "BadClash")) := (W.x_BadClash).g
theorem Wld.g_BadPanelText (W : Wld K mg) : mg "BadPanelText" = some (.ref (He.ga K "BadPanelText")) := (W.x_BadPanelText).g
theorem Wld.g_BadPath (W : Wld K mg) : mg "BadPath" = some (.ref (He.ga K "BadPath")) := (W.x_BadPath).g
theorem Wld.g_BadStep (W : Wld K mg) : mg "BadStep" = some (.ref (He.ga K "BadStep")) := (W.x_BadStep).g
theorem Wld.g_BadSteps (W : Wld K mg) : mg "BadSteps" = some (.ref (He.ga K "BadSteps")) := (W.x_BadSteps).g
theorem Wld.g_PanelError (W : Wld K mg) : mg "PanelError" = some (.ref (He.ga K "PanelError")) := (W.x_PanelError).g
theorem Wld.g_NothingToUndo (W : Wld K mg) : mg "NothingToUndo" = some (.ref (He.ga K "NothingToUndo")) := (W.x_NothingToUndo).g
theorem Wld.g_NothingToRedo (W : Wld K mg) : mg "NothingToRedo" = some (.ref (He.ga K "NothingToRedo")) := (W.x_NothingToRedo).g
end
end K89

set_option Elab.async false
set_option linter.all false
set_option maxRecDepth 100000
set_option maxHeartbeats 400000
namespace K89
/-- where the classes, their names, their functions and the functions' codes stand -/
def at0 : List Nat := [0, 1, 2, 3, 4, 5, 6, 7, 8, 9, 10, 23, 24, 40, 41, 43, 44, 59, 60, 62, 63, 78, 79, 81, 82, 97, 98, 100, 101, 116, 117, 119, 120, 135, 136, 138, 139, 154, 155, 157, 158, 173, 174, 176, 177, 192, 193, 195, 196, 211, 212, 214, 215, 230, 231, 233, 234, 249, 250, 252]
def at1 : List Nat := [253, 268, 269, 271, 272, 287, 288, 290, 291, 306, 307, 309, 310, 325, 326, 328, 329, 344, 345, 347, 348, 363, 364, 366, 367, 382, 383, 385, 386, 401, 402, 404, 405, 420, 421, 423, 424, 439, 440, 442, 443, 458, 459, 461, 462, 477, 478, 480, 481, 496, 497, 499, 500, 515, 516, 518, 519, 534, 535, 537]
def at2 : List Nat := [538, 553, 554, 556, 557, 572, 573, 575, 576, 591, 592, 594, 595, 610, 611, 613, 614, 629, 630, 632, 633, 648, 649, 651, 652, 667, 668, 670, 671, 682, 683, 694, 695, 710, 711, 713, 714, 729, 730, 732, 733, 748, 749, 751, 752, 767, 768, 770, 771, 786, 787, 789, 790, 805, 806, 808, 809, 824, 825, 827]
def at3 : List Nat := [828, 843, 844, 846, 847, 862, 863, 865, 866, 881, 882, 884, 885, 900, 901, 903, 904, 919, 920, 922, 923, 938, 939, 941, 942, 957, 958, 960, 961, 976, 977, 979, 980, 995, 996, 998, 999, 1014, 1015, 1017, 1018, 1033, 1034, 1036, 1037, 1052, 1053, 1055, 1056, 1071, 1072, 1074, 1075, 1090, 1091, 1093, 1094, 1109, 1110, 1112]
def at4 : List Nat := [1113, 1128, 1129, 1131, 1132, 1147, 1148, 1150, 1151, 1166, 1167, 1169, 1170, 1185, 1186, 1188, 1189, 1204, 1205, 1207, 1208, 1223, 1224, 1226, 1227, 1242, 1243, 1245, 1246, 1261, 1262, 1264, 1265, 1280, 1281, 1283, 1284, 1299, 1300, 1302, 1303, 1311, 1312, 1318, 1319, 1325, 1326, 1330, 1331, 1335, 1336, 1342, 1343, 1349, 1350, 1354, 1355, 1359, 1360, 1364]
def at5 : List Nat := [1365, 1371, 1372, 1378, 1379, 1385, 1386, 1390, 1391]
def ats : List Nat := at0 ++ (at1 ++ (at2 ++ (at3 ++ (at4 ++ (at5)))))
end K89

set_option Elab.async false
set_option linter.all false
set_option maxRecDepth 100000
set_option maxHeartbeats 0
namespace K89
open PySem PySem.Spec PySem.W PySem.Calls PyProof.Rows L2
abbrev RS : PySem.W.OpenRow := PySem.W.OpenLaw.row PySem.Challenge.rw_steadynets_k89_errors_of_nets_and_answer
abbrev qv : Program := PySem.W.view RS.prog [87]
def topName : Stmt → Option PySem.Str
  | .ClassDef n .. => some n
  | .FunctionDef n .. => some n
  | _ => none
def names : List PySem.Str := (RS.prog.main.body.take 87).filterMap topName
theorem runS (w : World) (os : OsState) : (HandSHeadRun.endF (HandSHeadRun.stepQ (HandSHeadRun.denQ HandSHeadRun.tabQ) RS.prog w) 20000 RS.prog w os).map (fun s => (HandSHeadRun.looksF RS.prog (boot_heap w.params) s.abs, HandSHeadRun.seenQ qv names (importedModules RS.prog.main.body) (fun s => xlAt qv [] s && recOk RS.toRowW.records s) s.abs)) = some (true, openGood qv names) := by
  kernel_rfl
end K89

set_option Elab.async false
set_option linter.all false
set_option maxRecDepth 100000
set_option maxHeartbeats 400000
namespace K89
open PySem PySem.Spec PyProof.Rows L2
/-! what is asked of the classes, in three parts -/
def exP (l : List (Str × Str)) (K : PySem.W.Frag) : Bool := l.all fun p => PySem.W.keepIn K (.ref (He.ga K p.1)) && (XH.exB K (He.ga K p.1) && (XH.ftB K (He.ga K p.1) p.2 && XH.lnB K (He.ga K p.1) (He.ga K "PanelError")))
def exN (K : PySem.W.Frag) : Bool := (ns.all fun x => PySem.W.keepIn K (.ref (He.ga K x)) && (XH.exB K (He.ga K x) && (PySem.W.excIn K (He.ga K x) He.veBase "ValueError.__new__" && XH.lnB K (He.ga K x) (He.ga K "PanelError")))) &&
  decide ((xs.map fun p => He.ga K p.1) ++ ns.map fun x => He.ga K x).Nodup
theorem exK_of {K : PySem.W.Frag} (h0 : exP xs0 K = true) (h1 : exP xs1 K = true) (h2 : (exP xs2 K && exN K) = true) : exK K = true := by
  have e : exK K = (exP (xs0 ++ (xs1 ++ xs2)) K && exN K) := rfl
  have e2 : exP (xs0 ++ (xs1 ++ xs2)) K = (exP xs0 K && exP (xs1 ++ xs2) K) := List.all_append
  have e3 : exP (xs1 ++ xs2) K = (exP xs1 K && exP xs2 K) := List.all_append
  obtain ⟨h3, h4⟩ := He.ba h2
  rw [e, e2, e3, h0, h1, h3, h4]
  rfl
theorem opt3 {α : Type} {o : Option α} {a b c d : α → Bool} (ha : o.map a = some true) (hb : o.map b = some true) (hc : o.map c = some true) (h : ∀ s, a s = true → b s = true → c s = true → d s = true) : o.map d = some true := by
  cases o with
  | none => cases ha
  | some s => exact congrArg some (h s (Option.some.inj ha) (Option.some.inj hb) (Option.some.inj hc))
end K89

set_option Elab.async false
set_option linter.all false
set_option maxRecDepth 100000
set_option maxHeartbeats 0
namespace K89
open PySem PySem.Spec PyProof.Rows L2
abbrev RA0 : PySem.W.OpenRow := PySem.W.OpenLaw.row PySem.Challenge.rw_steadynets_k89_errors_of_nets_and_answer
theorem runA0 (w : World) (os : OsState) : (HandSHeadRun.endF (HandSHeadRun.stepQ (HandSHeadRun.denQ HandSHeadRun.tabQ) RA0.prog w) 20000 RA0.prog w os).map (fun s => (exP xs0 (He.frG (HandSHeadRun.getT s) ats) : Bool)) = some (true) := by
  kernel_rfl
end K89

set_option Elab.async false
set_option linter.all false
set_option maxRecDepth 100000
set_option maxHeartbeats 0
namespace K89
open PySem PySem.Spec PyProof.Rows L2
abbrev RA1 : PySem.W.OpenRow := PySem.W.OpenLaw.row PySem.Challenge.rw_steadynets_k89_errors_of_nets_and_answer
theorem runA1 (w : World) (os : OsState) : (HandSHeadRun.endF (HandSHeadRun.stepQ (HandSHeadRun.denQ HandSHeadRun.tabQ) RA1.prog w) 20000 RA1.prog w os).map (fun s => (exP xs1 (He.frG (HandSHeadRun.getT s) ats) : Bool)) = some (true) := by
  kernel_rfl
end K89

set_option Elab.async false
set_option linter.all false
set_option maxRecDepth 100000
set_option maxHeartbeats 0
namespace K89
open PySem PySem.Spec PyProof.Rows L2
abbrev RA2 : PySem.W.OpenRow := PySem.W.OpenLaw.row PySem.Challenge.rw_steadynets_k89_errors_of_nets_and_answer
theorem runA2 (w : World) (os : OsState) : (HandSHeadRun.endF (HandSHeadRun.stepQ (HandSHeadRun.denQ HandSHeadRun.tabQ) RA2.prog w) 20000 RA2.prog w os).map (fun s => (exP xs2 (He.frG (HandSHeadRun.getT s) ats) && exN (He.frG (HandSHeadRun.getT s) ats) : Bool)) = some (true) := by
  kernel_rfl
end K89

set_option Elab.async false
set_option linter.all false
set_option maxRecDepth 100000
set_option maxHeartbeats 400000
namespace K89
open PySem PySem.Spec PyProof.Rows L2
abbrev RA : PySem.W.OpenRow := PySem.W.OpenLaw.row PySem.Challenge.rw_steadynets_k89_errors_of_nets_and_answer
theorem runA (w : World) (os : OsState) : (HandSHeadRun.endF (HandSHeadRun.stepQ (HandSHeadRun.denQ HandSHeadRun.tabQ) RA.prog w) 20000 RA.prog w os).map (fun s => (exK (He.frG (HandSHeadRun.getT s) ats) : Bool)) = some (true) :=
  opt3 (runA0 w os) (runA1 w os) (runA2 w os) fun _ => exK_of
end K89

set_option Elab.async false
set_option linter.all false
set_option maxRecDepth 100000
set_option maxHeartbeats 0
namespace K89
open PySem PySem.Spec PySem.W PySem.Calls PyProof.Rows L2
abbrev RB1 : PySem.W.OpenRow := PySem.W.OpenLaw.row PySem.Challenge.rw_steadynets_k89_errors_of_nets_and_answer
theorem runB1 (w : World) (os : OsState) : (HandSHeadRun.endF (HandSHeadRun.stepQ (HandSHeadRun.denQ HandSHeadRun.tabQ) RB1.prog w) 20000 RB1.prog w os).map (fun s => (fa.all fun f => f.ok (He.frG (HandSHeadRun.getT s) ats) : Bool)) = some (true) := by
  kernel_rfl
end K89

set_option Elab.async false
set_option linter.all false
set_option maxRecDepth 100000
set_option maxHeartbeats 0
namespace K89
open PySem PySem.Spec PySem.W PySem.Calls PyProof.Rows L2
abbrev RD0 : PySem.W.OpenRow := PySem.W.OpenLaw.row PySem.Challenge.rw_steadynets_k89_errors_of_nets_and_answer
theorem runD0 (w : World) (os : OsState) : (HandSHeadRun.endF (HandSHeadRun.stepQ (HandSHeadRun.denQ HandSHeadRun.tabQ) RD0.prog w) 20000 RD0.prog w os).map (fun s => (fn0.all fun d => d.ok (He.frG (HandSHeadRun.getT s) ats) : Bool)) = some (true) := by
  kernel_rfl
end K89

set_option Elab.async false
set_option linter.all false
set_option maxRecDepth 100000
set_option maxHeartbeats 0
namespace K89
open PySem PySem.Spec PySem.W PySem.Calls PyProof.Rows L2
abbrev RD1 : PySem.W.OpenRow := PySem.W.OpenLaw.row PySem.Challenge.rw_steadynets_k89_errors_of_nets_and_answer
theorem runD1 (w : World) (os : OsState) : (HandSHeadRun.endF (HandSHeadRun.stepQ (HandSHeadRun.denQ HandSHeadRun.tabQ) RD1.prog w) 20000 RD1.prog w os).map (fun s => (fn1.all fun d => d.ok (He.frG (HandSHeadRun.getT s) ats) : Bool)) = some (true) := by
  kernel_rfl
end K89

set_option Elab.async false
set_option linter.all false
set_option maxRecDepth 100000
set_option maxHeartbeats 0
namespace K89
open PySem PySem.Spec PySem.W PySem.Calls PyProof.Rows L2
abbrev RD2 : PySem.W.OpenRow := PySem.W.OpenLaw.row PySem.Challenge.rw_steadynets_k89_errors_of_nets_and_answer
theorem runD2 (w : World) (os : OsState) : (HandSHeadRun.endF (HandSHeadRun.stepQ (HandSHeadRun.denQ HandSHeadRun.tabQ) RD2.prog w) 20000 RD2.prog w os).map (fun s => (fn2.all fun d => d.ok (He.frG (HandSHeadRun.getT s) ats) : Bool)) = some (true) := by
  kernel_rfl
end K89

set_option Elab.async false
set_option linter.all false
set_option maxRecDepth 100000
set_option maxHeartbeats 0
namespace K89
open PySem PySem.Spec PyProof.Rows L2
abbrev RC : PySem.W.OpenRow := PySem.W.OpenLaw.row PySem.Challenge.rw_steadynets_k89_errors_of_nets_and_answer
theorem runC (w : World) (os : OsState) : (HandSHeadRun.endF (HandSHeadRun.stepQ (HandSHeadRun.denQ HandSHeadRun.tabQ) RC.prog w) 20000 RC.prog w os).map (fun s => (fn.map fun d => He.fnW (He.frG (HandSHeadRun.getT s) ats) d.at_ : List He.FnW)) = some (fn.map He.DefD.val) := by
  kernel_rfl
end K89

set_option Elab.async false
set_option linter.all false
set_option maxRecDepth 100000
set_option maxHeartbeats 4000000
namespace DL
open PySem PySem.Spec PyProof.Rows L2
/-! ### data as trees -/
inductive Tr where
  | non | bl (b : Bool) | int (i : Int) | str (x : Str) | lst (xs : List Tr) | tup (xs : List Tr) | dic (kvs : List (Key × Tr))
noncomputable instance : DecidableEq Tr := fun a b => Classical.propDecidable (a = b)
/-- a dict that is free (it may be walked), or one that may be read -/
def DicR : Bool → Hp → Addr → List (Key × V) → Prop
  | true, H, a, kvs => H a = some (.dK kvs)
  | false, H, a, kvs => Rd H a (.dK kvs)
mutual
/-- v stands for the tree -/
inductive Den (K : PySem.W.Frag) (b : Bool) (H : Hp) : V → Tr → Prop
  | non : Den K b H .non .non
  | bl (x : Bool) : Den K b H (.bl x) (.bl x)
  | int (i : Int) : Den K b H (.int i) (.int i)
  | str (x : Str) : Den K b H (.str x) (.str x)
  | lst {a : Addr} {xs : List V} {ds : List Tr} : SqL K H a xs → Dens K b H xs ds → Den K b H (.ref a) (.lst ds)
  | tup {a : Addr} {xs : List V} {ds : List Tr} : SqT K H a xs → Dens K b H xs ds → Den K b H (.ref a) (.tup ds)
  | dic {a : Addr} {kvs : List (Key × V)} {es : List (Key × Tr)} : DicR b H a kvs → DenK K b H kvs es → Den K b H (.ref a) (.dic es)
inductive Dens (K : PySem.W.Frag) (b : Bool) (H : Hp) : List V → List Tr → Prop
  | nil : Dens K b H [] []
  | cons {v : V} {vs : List V} {d : Tr} {ds : List Tr} : Den K b H v d → Dens K b H vs ds → Dens K b H (v :: vs) (d :: ds)
inductive DenK (K : PySem.W.Frag) (b : Bool) (H : Hp) : List (Key × V) → List (Key × Tr) → Prop
  | nil : DenK K b H [] []
  | cons {k : Key} {v : V} {kvs : List (Key × V)} {d : Tr} {es : List (Key × Tr)} : Den K b H v d → DenK K b H kvs es → DenK K b H ((k, v) :: kvs) ((k, d) :: es)
end
/-- all that was tracked is as it was -/
def Ex (H H' : Hp) : Prop := ∀ a o, H a = some o → H' a = some o
/-- all that could be read can be read -/
def Er (H H' : Hp) : Prop := ∀ a o, Rd H a o → Rd H' a o
theorem Ex.refl (H : Hp) : Ex H H := fun _ _ h => h
theorem Ex.trans {H H1 H2 : Hp} (a : Ex H H1) (b : Ex H1 H2) : Ex H H2 := fun x o h => b x o (a x o h)
theorem Ex.new {H H' : Hp} {p : Addr} {o : HO} (e : Ex H H') (h : H' p = none) : Ex H (upd H' p o) := fun a u x => by
  rw [upd_ne (ne_of_none (e a u x) h)]
  exact e a u x
theorem Ex.mut {H H' : Hp} {p : Addr} {o : HO} (e : Ex H H') (h : H p = none) : Ex H (upd H' p o) := fun a u ha => by
  rw [upd_ne (ne_of_none ha h)]
  exact e a u ha
theorem Ex.er {H H' : Hp} (e : Ex H H') : Er H H' := fun a o h => by
  rcases h with h | ⟨u, h⟩
  · exact .inl (e a _ h)
  · exact .inr ⟨u, e a _ h⟩
theorem Ex.free {H H' : Hp} (e : Ex H H') {p : Addr} (h : H' p = none) : H p = none := by
  cases q : H p with
  | none => rfl
  | some o =>
    rw [e p o q] at h
    cases h
theorem Er.trans {H H1 H2 : Hp} (a : Er H H1) (b : Er H1 H2) : Er H H2 := fun x o h => b x o (a x o h)
theorem Er.l {K : PySem.W.Frag} {H H' : Hp} {a : Addr} {xs : List V} (e : Er H H') (h : SqL K H a xs) : SqL K H' a xs := by
  rcases h with h | h
  · exact .inl (e _ _ h)
  · exact .inr h
theorem Er.t {K : PySem.W.Frag} {H H' : Hp} {a : Addr} {xs : List V} (e : Er H H') (h : SqT K H a xs) : SqT K H' a xs := by
  rcases h with h | h
  · exact .inl (e _ _ h)
  · exact .inr h
/-- one that was mutable, locked -/
theorem er_lock {H : Hp} {d : Addr} {u : HO} {o : Obj} (h : H d = some u) (hm : Mut (some u)) : Er H (upd H d (.frz o u)) := fun a x r => by
  by_cases e : a = d
  · subst e
    rcases r with r | ⟨o', r⟩
    · rw [h] at r
      cases r
      exact .inr ⟨o, upd_same⟩
    · rw [h] at r
      cases r
      cases hm
  · rcases r with r | ⟨o', r⟩
    · exact .inl (by rw [upd_ne e]; exact r)
    · exact .inr ⟨o', by rw [upd_ne e]; exact r⟩
theorem ex_unlock {H H' : Hp} {d : Addr} {u : HO} {o : Obj} (h : H d = some u) (e : Ex (upd H d (.frz o u)) H') : Ex H (upd H' d u) := fun a x q => by
  by_cases r : a = d
  · subst r
    rw [h] at q
    cases q
    exact upd_same
  · rw [upd_ne r]
    exact e a x (by rw [upd_ne r]; exact q)
/-- what data lean on stands -/
structure Kp (b : Bool) (H H' : Hp) : Prop where
  er : Er H H'
  dk : b = true → ∀ a kvs, H a = some (.dK kvs) → H' a = some (.dK kvs)
theorem Ex.kp {H H' : Hp} (e : Ex H H') {b : Bool} : Kp b H H' := ⟨e.er, fun _ a kvs h => e a _ h⟩
theorem Er.kp {H H' : Hp} (e : Er H H') : Kp false H H' := ⟨e, fun h => nomatch h⟩
theorem DicR.rd {b : Bool} {H : Hp} {a : Addr} {kvs : List (Key × V)} (h : DicR b H a kvs) : Rd H a (.dK kvs) := by
  cases b with
  | true => exact .inl h
  | false => exact h
theorem Kp.d {b : Bool} {H H' : Hp} {a : Addr} {kvs : List (Key × V)} (e : Kp b H H') (h : DicR b H a kvs) : DicR b H' a kvs := by
  cases b with
  | true => exact e.dk rfl a kvs h
  | false => exact e.er _ _ h
section
variable {K : PySem.W.Frag} {b : Bool} {H H' : Hp}
mutual
theorem Den.mono (e : Kp b H H') : ∀ {v : V} {d : Tr}, Den K b H v d → Den K b H' v d
  | _, _, .non => .non
  | _, _, .bl x => .bl x
  | _, _, .int i => .int i
  | _, _, .str x => .str x
  | _, _, .lst h hs => .lst (e.er.l h) (Dens.mono e hs)
  | _, _, .tup h hs => .tup (e.er.t h) (Dens.mono e hs)
  | _, _, .dic h hs => .dic (e.d h) (DenK.mono e hs)
theorem Dens.mono (e : Kp b H H') : ∀ {vs : List V} {ds : List Tr}, Dens K b H vs ds → Dens K b H' vs ds
  | _, _, .nil => .nil
  | _, _, .cons h hs => .cons (Den.mono e h) (Dens.mono e hs)
theorem DenK.mono (e : Kp b H H') : ∀ {kvs : List (Key × V)} {es : List (Key × Tr)}, DenK K b H kvs es → DenK K b H' kvs es
  | _, _, .nil => .nil
  | _, _, .cons h hs => .cons (Den.mono e h) (DenK.mono e hs)
end
theorem Dens.length : ∀ {vs : List V} {ds : List Tr}, Dens K b H vs ds → vs.length = ds.length
  | _, _, .nil => rfl
  | _, _, .cons _ hs => by rw [List.length_cons, List.length_cons, Dens.length hs]
theorem Dens.get : ∀ {vs : List V} {ds : List Tr} {i : Nat} {v : V}, Dens K b H vs ds → vs[i]? = some v → ∃ d, ds[i]? = some d ∧ Den K b H v d
  | _, _, _, _, .nil, e => by simp at e
  | _, _, 0, _, .cons h _, e => by
    simp at e
    subst e
    exact ⟨_, rfl, h⟩
  | _, _, i + 1, v, .cons _ t, e => by
    obtain ⟨d, h1, h2⟩ := Dens.get (i := i) (v := v) t (by simpa using e)
    exact ⟨d, by simpa using h1, h2⟩
theorem Dens.get' {vs : List V} {ds : List Tr} {i : Nat} {d : Tr} (h : Dens K b H vs ds) (e : ds[i]? = some d) : ∃ v, vs[i]? = some v ∧ Den K b H v d := by
  have hi : i < vs.length := by
    rw [h.length]
    exact (List.getElem?_eq_some_iff.mp e).1
  obtain ⟨d', h1, h2⟩ := h.get (i := i) (v := vs[i]) (by simp [hi])
  rw [e] at h1
  cases h1
  exact ⟨vs[i], by simp [hi], h2⟩
theorem DenK.length : ∀ {kvs : List (Key × V)} {es : List (Key × Tr)}, DenK K b H kvs es → kvs.length = es.length
  | _, _, .nil => rfl
  | _, _, .cons _ hs => by rw [List.length_cons, List.length_cons, DenK.length hs]
theorem DenK.keys : ∀ {kvs : List (Key × V)} {es : List (Key × Tr)}, DenK K b H kvs es → kvs.map (·.1) = es.map (·.1)
  | _, _, .nil => rfl
  | _, _, .cons _ hs => by rw [List.map_cons, List.map_cons, DenK.keys hs]
/-- the built-in type -/
def tyN : Tr → String
  | .non => "NoneType"
  | .bl _ => "bool"
  | .int _ => "int"
  | .str _ => "str"
  | .lst _ => "list"
  | .tup _ => "tuple"
  | .dic _ => "dict"
theorem Den.ty {v : V} {d : Tr} (h : Den K b H v d) : TyX K H v (.type (tyN d)) := by
  cases h with
  | non => exact .base .non
  | bl x => exact .base (.bl x)
  | int i => exact .base (.int i)
  | str x => exact .base (.str x)
  | lst h _ =>
    rcases h with (h | ⟨o, h⟩) | ⟨o, its, n, h, hc, _⟩
    · exact .base (.lst h)
    · exact .base (.frz h)
    · exact .kList h hc
  | tup h _ =>
    rcases h with (h | ⟨o, h⟩) | ⟨o, its, n, h, hc, _⟩
    · exact .base (.tup h)
    · exact .fTuple h
    · exact .kTuple h hc
  | dic h _ =>
    rcases h.rd with h | ⟨o, h⟩
    · exact .base (.dK h)
    · exact .fDict h
end
/-! ### isinstance of a name against a written type -/
def isTy (d : Tr) (n : String) : Bool := (kitB (tyN d) n).getD false
section
variable {K : PySem.W.Frag} {σ : L2.St} {H : Hp} {i : Nat} {x : V} {d : Tr} {Q : VK} {n m : String} {b c e : Bool}
theorem rd_isi (hs : σ[i]? = some (some x)) (hd : Den K b H x d) (hk : kitB (tyN d) n = some c) (q : Q (.bl c) H) : tCB (rIsi K) (tCons (tVar i) (tCons (tC (.ty n)) tNil)) σ H Q :=
  ⟨x, hs, x, .ty n, .type (tyN d), .type n, c, rfl, .ty n, hd.ty, kit_ty hk, q⟩
theorem rd_isi2 (hs : σ[i]? = some (some x)) (hd : Den K b H x d) (hk : kitB (tyN d) n = some c) (hk2 : kitB (tyN d) m = some e) (q : ∀ p, H p = none → Q (.bl (c || e)) (upd H p (.tup [.ty n, .ty m]))) :
    tCB (rIsiT K) (tCons (tVar i) (tCons (tTup (tCons (tC (.ty n)) (tCons (tC (.ty m)) tNil))) tNil)) σ H Q := by
  refine ⟨x, hs, (by show 2 ≤ sizeLine; decide), fun p hp => ?_⟩
  refine ⟨x, p, [.ty n, .ty m], .type (tyN d), [.type n, .type m], c || e, rfl, upd_same, .cons (.ty n) (.cons (.ty m) .nil), (hd.mono (Ex.new (Ex.refl H) hp).kp).ty, ?_, q p hp⟩
  refine kitAny_cons (kit_ty hk) (fun z => ?_) (fun z => by rw [z]; rfl)
  rw [z, Bool.false_or]
  refine kitAny_cons (kit_ty hk2) (fun z => ?_) (fun z => z)
  rw [z]
  exact kitAny_nil
end
end DL
namespace DL
open PySem PySem.Spec PyProof.Rows L2
/-! ### isinstance: the answers -/
def isL : Tr → Bool | .lst _ => true | _ => false
def isT : Tr → Bool | .tup _ => true | _ => false
def isD : Tr → Bool | .dic _ => true | _ => false
def isB : Tr → Bool | .bl _ => true | _ => false
def isI : Tr → Bool | .int _ => true | .bl _ => true | _ => false
def isS : Tr → Bool | .str _ => true | _ => false
theorem ki_NL : kitB "NoneType" "list" = some false := by decide +kernel
theorem ki_BL : kitB "bool" "list" = some false := by decide +kernel
theorem ki_IL : kitB "int" "list" = some false := by decide +kernel
theorem ki_SL : kitB "str" "list" = some false := by decide +kernel
theorem ki_LL : kitB "list" "list" = some true := by decide +kernel
theorem ki_TL : kitB "tuple" "list" = some false := by decide +kernel
theorem ki_DL : kitB "dict" "list" = some false := by decide +kernel
theorem kL : ∀ d : Tr, kitB (tyN d) "list" = some (isL d)
  | .non => ki_NL | .bl _ => ki_BL | .int _ => ki_IL | .str _ => ki_SL | .lst _ => ki_LL | .tup _ => ki_TL | .dic _ => ki_DL
theorem ki_NT : kitB "NoneType" "tuple" = some false := by decide +kernel
theorem ki_BT : kitB "bool" "tuple" = some false := by decide +kernel
theorem ki_IT : kitB "int" "tuple" = some false := by decide +kernel
theorem ki_ST : kitB "str" "tuple" = some false := by decide +kernel
theorem ki_LT : kitB "list" "tuple" = some false := by decide +kernel
theorem ki_TT : kitB "tuple" "tuple" = some true := by decide +kernel
theorem ki_DT : kitB "dict" "tuple" = some false := by decide +kernel
theorem kT : ∀ d : Tr, kitB (tyN d) "tuple" = some (isT d)
  | .non => ki_NT | .bl _ => ki_BT | .int _ => ki_IT | .str _ => ki_ST | .lst _ => ki_LT | .tup _ => ki_TT | .dic _ => ki_DT
theorem ki_ND : kitB "NoneType" "dict" = some false := by decide +kernel
theorem ki_BD : kitB "bool" "dict" = some false := by decide +kernel
theorem ki_ID : kitB "int" "dict" = some false := by decide +kernel
theorem ki_SD : kitB "str" "dict" = some false := by decide +kernel
theorem ki_LD : kitB "list" "dict" = some false := by decide +kernel
theorem ki_TD : kitB "tuple" "dict" = some false := by decide +kernel
theorem ki_DD : kitB "dict" "dict" = some true := by decide +kernel
theorem kD : ∀ d : Tr, kitB (tyN d) "dict" = some (isD d)
  | .non => ki_ND | .bl _ => ki_BD | .int _ => ki_ID | .str _ => ki_SD | .lst _ => ki_LD | .tup _ => ki_TD | .dic _ => ki_DD
theorem ki_NB : kitB "NoneType" "bool" = some false := by decide +kernel
theorem ki_BB : kitB "bool" "bool" = some true := by decide +kernel
theorem ki_IB : kitB "int" "bool" = some false := by decide +kernel
theorem ki_SB : kitB "str" "bool" = some false := by decide +kernel
theorem ki_LB : kitB "list" "bool" = some false := by decide +kernel
theorem ki_TB : kitB "tuple" "bool" = some false := by decide +kernel
theorem ki_DB : kitB "dict" "bool" = some false := by decide +kernel
theorem kB : ∀ d : Tr, kitB (tyN d) "bool" = some (isB d)
  | .non => ki_NB | .bl _ => ki_BB | .int _ => ki_IB | .str _ => ki_SB | .lst _ => ki_LB | .tup _ => ki_TB | .dic _ => ki_DB
theorem ki_NI : kitB "NoneType" "int" = some false := by decide +kernel
theorem ki_BI : kitB "bool" "int" = some true := by decide +kernel
theorem ki_II : kitB "int" "int" = some true := by decide +kernel
theorem ki_SI : kitB "str" "int" = some false := by decide +kernel
theorem ki_LI : kitB "list" "int" = some false := by decide +kernel
theorem ki_TI : kitB "tuple" "int" = some false := by decide +kernel
theorem ki_DI : kitB "dict" "int" = some false := by decide +kernel
theorem kI : ∀ d : Tr, kitB (tyN d) "int" = some (isI d)
  | .non => ki_NI | .bl _ => ki_BI | .int _ => ki_II | .str _ => ki_SI | .lst _ => ki_LI | .tup _ => ki_TI | .dic _ => ki_DI
theorem ki_NS : kitB "NoneType" "str" = some false := by decide +kernel
theorem ki_BS : kitB "bool" "str" = some false := by decide +kernel
theorem ki_IS : kitB "int" "str" = some false := by decide +kernel
theorem ki_SS : kitB "str" "str" = some true := by decide +kernel
theorem ki_LS : kitB "list" "str" = some false := by decide +kernel
theorem ki_TS : kitB "tuple" "str" = some false := by decide +kernel
theorem ki_DS : kitB "dict" "str" = some false := by decide +kernel
theorem kS : ∀ d : Tr, kitB (tyN d) "str" = some (isS d)
  | .non => ki_NS | .bl _ => ki_BS | .int _ => ki_IS | .str _ => ki_SS | .lst _ => ki_LS | .tup _ => ki_TS | .dic _ => ki_DS
/-! ### how deep, how long; dicts of what holds no dict -/
mutual
def noDic : Tr → Prop
  | .lst xs => noDics xs
  | .tup xs => noDics xs
  | .dic _ => False
  | _ => True
def noDics : List Tr → Prop
  | [] => True
  | x :: xs => noDic x ∧ noDics xs
end
def Okd : Nat → Tr → Prop
  | _, .non => True
  | _, .bl _ => True
  | _, .int _ => True
  | _, .str _ => True
  | n + 1, .lst xs => xs.length ≤ 1000000 ∧ ∀ x ∈ xs, Okd n x
  | n + 1, .tup xs => xs.length ≤ 1000000 ∧ ∀ x ∈ xs, Okd n x
  | n + 2, .dic kvs => kvs.length ≤ 1000000 ∧ (kvs.map (·.1)).Nodup ∧ ∀ p ∈ kvs, Okd (n + 1) p.2 ∧ noDic p.2
  | 1, .dic _ => False
  | 0, _ => False
section
variable {K : PySem.W.Frag} {H : Hp}
mutual
theorem Den.flat : ∀ {v : V} {d : Tr}, noDic d → Den K false H v d → Den K true H v d
  | _, _, _, .non => .non
  | _, _, _, .bl x => .bl x
  | _, _, _, .int i => .int i
  | _, _, _, .str x => .str x
  | _, _, h, .lst q hs => .lst q (Dens.flat (by simpa [noDic] using h) hs)
  | _, _, h, .tup q hs => .tup q (Dens.flat (by simpa [noDic] using h) hs)
  | _, _, h, .dic q hs => by simp [noDic] at h
theorem Dens.flat : ∀ {vs : List V} {ds : List Tr}, noDics ds → Dens K false H vs ds → Dens K true H vs ds
  | _, _, _, .nil => .nil
  | _, _, h, .cons q hs => by
    simp only [noDics] at h
    exact .cons (Den.flat h.1 q) (Dens.flat h.2 hs)
end
mutual
theorem Den.weak : ∀ {v : V} {d : Tr}, Den K true H v d → Den K false H v d
  | _, _, .non => .non
  | _, _, .bl x => .bl x
  | _, _, .int i => .int i
  | _, _, .str x => .str x
  | _, _, .lst q hs => .lst q (Dens.weak hs)
  | _, _, .tup q hs => .tup q (Dens.weak hs)
  | _, _, .dic q hs => .dic (.inl q) (DenK.weak hs)
theorem Dens.weak : ∀ {vs : List V} {ds : List Tr}, Dens K true H vs ds → Dens K false H vs ds
  | _, _, .nil => .nil
  | _, _, .cons q hs => .cons (Den.weak q) (Dens.weak hs)
theorem DenK.weak : ∀ {kvs : List (Key × V)} {es : List (Key × Tr)}, DenK K true H kvs es → DenK K false H kvs es
  | _, _, .nil => .nil
  | _, _, .cons q hs => .cons (Den.weak q) (DenK.weak hs)
end
end
/-! ### a comprehension whose turns make values one by one -/
section
variable {J : It} {n : Nat} {G : Hp → Prop} {Y : Nat → Hp → V → Hp → Prop}
/-- what stands through the turns: the list at D holds what was made, and R of each; all that was tracked ahead stands -/
def Coll (H1 : Hp) (D : Addr) (R : Nat → V → Hp → Prop) (i : Nat) (H : Hp) : Prop := ∃ acc : List V, H D = some (.lst acc) ∧ acc.length = i ∧ Ex H1 H ∧ ∀ j v, acc[j]? = some v → R j v H
/-- R i y: the i-th is y. stable: told of a heap it stays where what was tracked stays but D's list -/
theorem lc_map (w : Walk J n G Y) {g : TG} {te : TE} {vs : List Nat} {σ : L2.St} {H1 : Hp} {D : Addr} {Qd : Hp → Prop} (R : Nat → V → Hp → Prop) (hn : n < sizeLine) (hD : H1 D = none) (hG : ∀ H, Ex H1 H → G H)
    (hR : ∀ i v (H H' : Hp), R i v H → (∀ b o, b ≠ D → H b = some o → H' b = some o) → R i v H')
    (hs : ∀ i x H H' (Q : VK), i < n → Ex H1 H → Y i H x H' → (∀ y H4, Ex H H4 → R i y H4 → Q y H4) → g x (wipe σ vs) H' fun σ2 H2 => wipe σ2 vs = wipe σ vs ∧ te σ2 H2 Q)
    (hd : ∀ H ys, H D = some (.lst ys) → ys.length = n → Ex H1 H → (∀ j v, ys[j]? = some v → R j v H) → Qd H) :
    ∃ W : Nat → Nat → Hp → Prop, (∃ m, W 0 m (upd H1 D (.lst []))) ∧ ∀ i m H, W i m H →
      (J.stop i H ∧ Qd H) ∨ (J.go i H ∧ ∃ Nx : Hp → Prop, (∀ H', Nx H' → ∃ m', m' < m ∧ W (i + 1) m' H') ∧ ∀ x H', J.yld i H x H' → g x (wipe σ vs) H' fun σ2 H2 => wipe σ2 vs = wipe σ vs ∧ tYes σ2 H2 fun b H3 =>
        if b = true then te σ2 H3 fun y H4 => ∃ acc, H4 D = some (.lst acc) ∧ acc.length < sizeLine ∧ Nx (upd H4 D (.lst (acc ++ [y]))) else Nx H3) := by
  refine lc_it w (fun i H => Coll H1 D R i H) ⟨[], upd_same, rfl, (Ex.refl H1).new hD, fun j v h => by simp at h⟩ (fun i H _ ⟨_, _, _, e, _⟩ => hG H e) (fun i x H H' hi ⟨acc, hacc, hl, e, hr⟩ y => ?_) (fun H ⟨acc, h1, h2, h3, h4⟩ => hd H acc h1 h2 h3 h4)
  show g x (wipe σ vs) H' (fun σ2 H2 => wipe σ2 vs = wipe σ vs ∧ (if true = true then te σ2 H2 (fun y H4 => ∃ acc, H4 D = some (.lst acc) ∧ acc.length < sizeLine ∧ Coll H1 D R (i + 1) (upd H4 D (.lst (acc ++ [y])))) else Coll H1 D R (i + 1) H2))
  have e0 : ∀ (A B : Prop), (if true = true then A else B) = A := fun _ _ => if_pos rfl
  simp only [e0]
  refine hs i x H H' _ hi e y (fun z H4 e4 rz => ?_)
  have hD4 : H4 D = some (.lst acc) := e4 D _ hacc
  refine ⟨acc, hD4, by omega, acc ++ [z], upd_same, by simp [hl], ?_, fun j v hj => ?_⟩
  · intro b o hb
    have nb : b ≠ D := fun q => by
      rw [q, hD] at hb
      cases hb
    rw [upd_ne nb]
    exact e4 b o (e b o hb)
  · have keep : ∀ b o, b ≠ D → H4 b = some o → upd H4 D (.lst (acc ++ [z])) b = some o := fun b o nb hb => by
      rw [upd_ne nb]
      exact hb
    by_cases hj2 : j < acc.length
    · rw [List.getElem?_append_left hj2] at hj
      exact hR j v H4 _ (hR j v H H4 (hr j v hj) fun b o _ hb => e4 b o hb) keep
    · have hj3 : j = acc.length := by
        have := (List.getElem?_eq_some_iff.mp hj).1
        simp at this
        omega
      subst hj3
      simp at hj
      subst hj
      rw [hl]
      exact hR i z H4 _ rz keep
end
end DL
namespace DL
open PySem PySem.Spec PyProof.Rows L2
theorem walk_zipT {K : PySem.W.Frag} {a b : Addr} {xs ys : List V} {n : Nat} (hn : n = min xs.length ys.length) : Walk (RZ.ItzT K a b) n (fun H => SqT K H a xs ∧ SqT K H b ys) (YPair (fun i => xs[i]?) (fun i => ys[i]?)) := by
  subst hn
  refine ⟨fun i _ hi q => ?_, fun _ q => ⟨xs, ys, q.1, q.2, by omega⟩, fun i H v H' _ q y => ?_⟩
  · have z1 : i < xs.length := by omega
    have z2 : i < ys.length := by omega
    exact ⟨xs, ys, xs[i], ys[i], q.1, q.2, by simp [z1], by simp [z2]⟩
  · obtain ⟨T, x, z, h1, h2, h3, h4, h5⟩ := y
    exact ⟨T, x, z, h1, h2, h3, h4 xs q.1, h5 ys q.2⟩
theorem all_same {α : Type} [DecidableEq α] {ds es : List α} (h : ds.length = es.length) : ((List.range ds.length).map fun i => decide (ds[i]? = es[i]?)).all id = true ↔ ds = es := by
  rw [List.all_map]
  constructor
  · intro q
    refine List.ext_getElem? fun i => ?_
    by_cases hi : i < ds.length
    · exact of_decide_eq_true (List.all_eq_true.mp q i (List.mem_range.mpr hi))
    · rw [List.getElem?_eq_none (by omega), List.getElem?_eq_none (by omega)]
  · intro e
    subst e
    exact List.all_eq_true.mpr fun i _ => decide_eq_true rfl
theorem bls_of {l : List V} {n : Nat} {f : Nat → Bool} (hl : l.length = n) (h : ∀ j v, l[j]? = some v → v = V.bl (f j)) : l = ((List.range n).map f).map V.bl := by
  refine List.ext_getElem? fun i => ?_
  by_cases hi : i < n
  · have z : i < l.length := by omega
    rw [List.getElem?_eq_getElem z]
    have q := h i l[i] (List.getElem?_eq_getElem z)
    rw [q]
    simp [hi]
  · rw [List.getElem?_eq_none (by omega), List.getElem?_eq_none (by simp; omega)]
end DL
namespace DL
open PySem PySem.Spec PyProof.Rows L2
def kTr : Key → Tr
  | .inl i => .int i
  | .inr x => .str x
theorem kTr_inj {a b : Key} (h : kTr a = kTr b) : a = b := by
  cases a <;> cases b <;> simp [kTr] at h <;> rw [h]
theorem den_key {K : PySem.W.Frag} {b : Bool} {H : Hp} (k : Key) : Den K b H (kV k) (kTr k) := by
  cases k with
  | inl i => exact .int i
  | inr x => exact .str x
theorem dens_keys {K : PySem.W.Frag} {b : Bool} {H : Hp} {α : Type} : ∀ l : List (Key × α), Dens K b H (l.map fun kv => kV kv.1) (l.map fun kv => kTr kv.1)
  | [] => .nil
  | p :: r => .cons (den_key p.1) (dens_keys r)
theorem okd_key (n : Nat) (k : Key) : Okd n (kTr k) := by
  cases k with
  | inl i => cases n <;> trivial
  | inr x => cases n <;> trivial
theorem keys_inj {α β : Type} : ∀ {l : List (Key × α)} {m : List (Key × β)}, (l.map fun kv => kTr kv.1) = (m.map fun kv => kTr kv.1) → l.map (·.1) = m.map (·.1)
  | [], [], _ => rfl
  | [], _ :: _, h => by simp at h
  | _ :: _, [], h => by simp at h
  | p :: r, q :: t, h => by
    simp only [List.map_cons, List.cons.injEq] at h ⊢
    exact ⟨kTr_inj h.1, keys_inj h.2⟩
theorem keys_same {α : Type} {l m : List (Key × α)} (h : l = m) : (l.map fun kv => kTr kv.1) = (m.map fun kv => kTr kv.1) := by rw [h]
theorem DenK.get {K : PySem.W.Frag} {b : Bool} {H : Hp} : ∀ {kvs : List (Key × V)} {es : List (Key × Tr)} {i : Nat} {k : Key} {v : V}, DenK K b H kvs es → kvs[i]? = some (k, v) → ∃ d, es[i]? = some (k, d) ∧ Den K b H v d
  | _, _, _, _, _, .nil, e => by simp at e
  | _, _, 0, _, _, .cons h _, e => by
    simp at e
    obtain ⟨rfl, rfl⟩ := e
    exact ⟨_, rfl, h⟩
  | _, _, i + 1, k, v, .cons _ t, e => by
    obtain ⟨d, h1, h2⟩ := DenK.get (i := i) (k := k) (v := v) t (by simpa using e)
    exact ⟨d, by simpa using h1, h2⟩
theorem valV_at {κ : Type} [DecidableEq κ] : ∀ {kvs : List (κ × V)} {i : Nat} {k : κ} {v : V}, (kvs.map (·.1)).Nodup → kvs[i]? = some (k, v) → valV kvs k = some v
  | [], i, k, v, _, e => by simp at e
  | p :: r, 0, k, v, _, e => by
    simp at e
    subst e
    simp [valV]
  | p :: r, i + 1, k, v, hn, e => by
    have e2 : r[i]? = some (k, v) := by simpa using e
    rw [List.map_cons, List.nodup_cons] at hn
    have hk : p.1 ≠ k := fun z => hn.1 (by
      rw [z]
      exact List.mem_map.mpr ⟨(k, v), List.mem_of_getElem? e2, rfl⟩)
    have ih := valV_at hn.2 e2
    unfold valV at ih ⊢
    rw [List.find?_cons_of_neg (by simpa using hk)]
    exact ih
theorem get_keys {κ α β : Type} {l : List (κ × α)} {m : List (κ × β)} (h : l.map (·.1) = m.map (·.1)) {i : Nat} {k : κ} {a : α} (e : l[i]? = some (k, a)) : ∃ b, m[i]? = some (k, b) := by
  have z : (l.map (·.1))[i]? = some k := by
    rw [List.getElem?_map, e]
    rfl
  rw [h, List.getElem?_map] at z
  cases q : m[i]? with
  | none =>
    rw [q] at z
    cases z
  | some p =>
    rw [q] at z
    obtain ⟨k', b⟩ := p
    have e2 : k' = k := Option.some.inj z
    rw [e2]
    exact ⟨b, rfl⟩
end DL
namespace DL
open PySem PySem.Spec PyProof.Rows L2
/-- a value's truth, as a test -/
def tTr (K : PySem.W.Frag) (ta : TE) : TT := fun σ H Q => ta σ H fun x H1 => ∃ k, TruV K x H1 k ∧ Q k H1
end DL

set_option Elab.async false
set_option linter.all false
set_option maxRecDepth 100000
set_option maxHeartbeats 4000000
namespace K89
open PySem PySem.Spec PyProof.Rows L2 DL
abbrev FnP (K : PySem.W.Frag) (x : Str) (st : Stmt) (f : Addr) (fd : FuncData) : Prop := FunD K x x (defArgs st) (defBody st) (defScope st) [] [] f fd
section
variable {P : Program} {w : World} {K : PySem.W.Frag} {mg : Str → Option Value} {base : Heap} {f : Addr} {fd : FuncData}
theorem sc_law_same : FnScope ["found", "due", "mine", "theirs", "key"] ["found", "due"] (defScope s_law_same) := ⟨rfl, rfl, rfl, by decide +kernel, rfl, by decide +kernel, by decide +kernel⟩
def spSame (K : PySem.W.Frag) : Nat → Sp
  | 0 => fun _ _ _ _ => False
  | n + 1 => fun vs H Q _ => ∃ (x y : V) (d e : Tr), vs = [x, y] ∧ Den K false H x d ∧ Den K true H y e ∧ Okd n e ∧ ∀ H', Ex H H' → Q (.bl (decide (d = e))) H'
theorem ok_same (n : Nat) (W : Wld K mg) (F : FnP K "_law_same" s_law_same f fd) (h_law_same : mg "_law_same" = some (.ref f)) (kp : PySem.W.keepIn K (.ref f) = true) (b_law_same : Binds K fd ["found", "due"] []) (G_law_same : FnOk P w K mg base CX0 n f fd ["found", "due"] (spSame K n)) : FnOk P w K mg base CX0 (n + 1) f fd ["found", "due"] (spSame K (n + 1)) := by
  refine F.ok sc_law_same (fun vs H Q E h => ?_) (fun cdv A outer s H vs Q E hr h => ?_)
  · obtain ⟨x, y, d, e, rfl, _⟩ := h
    rfl
  obtain ⟨x, y, d, e, rfl, hx, hy, hok, k⟩ := h
  have fin : ∀ (b : Bool) H', Ex H H' → (b = true ↔ d = e) → Q (.bl b) H' := fun b H' e1 hb => by
    have z : decide (d = e) = b := by
      by_cases q : d = e
      · rw [decide_eq_true q]
        exact (hb.mpr q).symm
      · rw [decide_eq_false q]
        cases b with
        | true => exact absurd (hb.mp rfl) q
        | false => rfl
    have z2 := k H' e1
    rw [z] at z2
    exact z2
  have hr_law_same := hr
  refine ⟨_, PSs.nox (pss_cons (ps_if (pt_val (pe_callB call_isiT (by rfl) W.n_isinstance (by decide +kernel) (pa_cons (pv 1) (pa_cons (pe_tup (pa_cons (pe_bltn (v := .ty "list") (by rfl) W.n_list (by decide +kernel) rfl) (pa_cons (pe_bltn (v := .ty "tuple") (by rfl) W.n_tuple (by decide +kernel) rfl) pa_nil))) pa_nil))))
    (pss_cons (ps_if (PW.pt (pw_or (pt_cmpR op_ne (pe_callB call_isi (by rfl) W.n_isinstance (by decide +kernel) (pa_cons (pv 0) (pa_cons (pe_bltn (v := .ty "list") (by rfl) W.n_list (by decide +kernel) rfl) pa_nil))) (pe_callB call_isi (by rfl) W.n_isinstance (by decide +kernel) (pa_cons (pv 1) (pa_cons (pe_bltn (v := .ty "list") (by rfl) W.n_list (by decide +kernel) rfl) pa_nil))) (nomark _)) (pw_or1 (pt_cmpR op_ne (pe_callB call_isi (by rfl) W.n_isinstance (by decide +kernel) (pa_cons (pv 0) (pa_cons (pe_bltn (v := .ty "tuple") (by rfl) W.n_tuple (by decide +kernel) rfl) pa_nil))) (pe_callB call_isi (by rfl) W.n_isinstance (by decide +kernel) (pa_cons (pv 1) (pa_cons (pe_bltn (v := .ty "tuple") (by rfl) W.n_tuple (by decide +kernel) rfl) pa_nil))) (nomark _)))))
    (pss_one (ps_ret pe_bl))
    pss_nil)
    (pss_one (ps_ret (pe_and (pe_cmpR op_eq (pe_callB call_len_seq (by rfl) W.n_len (by decide +kernel) (pa_cons (pv 0) pa_nil)) (pe_callB call_len_seq (by rfl) W.n_len (by decide +kernel) (pa_cons (pv 1) pa_nil)) (nomark _)) (pe_one (pe_callB (cr_all rfl) (by rfl) W.n_all (by decide +kernel) (pa_cons (pe_lc (own := [("mine", 2), ("theirs", 3)]) (g := gTup K 2 (gCons (gName 2) (gCons (gName 3) gNil))) (tt := tYes) rfl sc_law_same.nd (RZ.pi_zipA (by rfl) W.n_zip (pa_cons (pv 0) (pa_cons (pv 1) pa_nil))) (blkOk_by (N := ["found", "due", "mine", "theirs", "key"]) (sc := defScope s_law_same) (by decide +kernel)) (fun _ _ _ _ _ => (pg_tup rfl (pgs_cons (pg_name (i := 2) sc_law_same.nd rfl (.inl rfl)) (pgs_cons (pg_name (i := 3) sc_law_same.nd rfl (.inl rfl)) pgs_nil)))) (fun _ _ _ _ _ => pts_nil) (fun _ _ _ _ _ => (pe_call G_law_same hr_law_same rfl h_law_same kp b_law_same .nil pass0 (pa_cons (pv 2) (pa_cons (pv 3) pa_nil))))) pa_nil)))))))
    pss_nil)
    (pss_cons (ps_if (pt_val (pe_callB call_isi (by rfl) W.n_isinstance (by decide +kernel) (pa_cons (pv 1) (pa_cons (pe_bltn (v := .ty "dict") (by rfl) W.n_dict (by decide +kernel) rfl) pa_nil))))
    (pss_cons (ps_if (PW.pt (pw_or (pt_not (pt_val (pe_callB call_isi (by rfl) W.n_isinstance (by decide +kernel) (pa_cons (pv 0) (pa_cons (pe_bltn (v := .ty "dict") (by rfl) W.n_dict (by decide +kernel) rfl) pa_nil))))) (pw_or1 (pt_not (pt_val (pe_call G_law_same hr_law_same rfl h_law_same kp b_law_same .nil pass0 (pa_cons (pe_callTy (call_listD rfl) (by rfl) W.n_list (by decide +kernel) (pa_cons (pv 0) pa_nil)) (pa_cons (pe_callTy (call_listD rfl) (by rfl) W.n_list (by decide +kernel) (pa_cons (pv 1) pa_nil)) pa_nil))))))))
    (pss_one (ps_ret pe_bl))
    pss_nil)
    (pss_one (ps_ret (pe_callB (cr_all rfl) (by rfl) W.n_all (by decide +kernel) (pa_cons (pe_lock (pe_lc (own := [("key", 4)]) (g := gName 4) (tt := tYes) rfl sc_law_same.nd (pi_keys (pv 1)) (blkOk_by (N := ["found", "due", "mine", "theirs", "key"]) (sc := defScope s_law_same) (by decide +kernel)) (fun _ _ _ _ _ => pg_name (i := 4) sc_law_same.nd rfl (Or.inl rfl)) (fun _ _ _ _ _ => pts_nil) (fun _ _ _ _ _ => (pe_call G_law_same hr_law_same rfl h_law_same kp b_law_same .nil pass0 (pa_cons (pe_dget (hu_of hr) (pv 0) (pv 4) (fun _ _ => rfl)) (pa_cons (pe_dget (hu_of hr) (pv 1) (pv 4) (fun _ _ => rfl)) pa_nil)))))) pa_nil)))))
    pss_nil)
    (pss_cons (ps_if (pt_cmpR op_isN (pv 1) pe_non (nomark _))
    (pss_one (ps_ret (pe_cmpR op_isN (pv 0) pe_non (nomark _))))
    pss_nil)
    (pss_cons (ps_if (pt_val (pe_callB call_isi (by rfl) W.n_isinstance (by decide +kernel) (pa_cons (pv 1) (pa_cons (pe_bltn (v := .ty "bool") (by rfl) W.n_bool (by decide +kernel) rfl) pa_nil))))
    (pss_one (ps_ret (pe_and (pe_callB call_isi (by rfl) W.n_isinstance (by decide +kernel) (pa_cons (pv 0) (pa_cons (pe_bltn (v := .ty "bool") (by rfl) W.n_bool (by decide +kernel) rfl) pa_nil))) (pe_one (pe_cmpR op_eq (pv 0) (pv 1) (nomark _))))))
    pss_nil)
    (pss_cons (ps_if (pt_val (pe_callB call_isi (by rfl) W.n_isinstance (by decide +kernel) (pa_cons (pv 1) (pa_cons (pe_bltn (v := .ty "int") (by rfl) W.n_int (by decide +kernel) rfl) pa_nil))))
    (pss_one (ps_ret (pe_and (pe_callB call_isi (by rfl) W.n_isinstance (by decide +kernel) (pa_cons (pv 0) (pa_cons (pe_bltn (v := .ty "int") (by rfl) W.n_int (by decide +kernel) rfl) pa_nil))) (pe_and (pe_not (pe_callB call_isi (by rfl) W.n_isinstance (by decide +kernel) (pa_cons (pv 0) (pa_cons (pe_bltn (v := .ty "bool") (by rfl) W.n_bool (by decide +kernel) rfl) pa_nil)))) (pe_one (pe_cmpR op_eq (pv 0) (pv 1) (nomark _)))))))
    pss_nil)
    (pss_one (ps_ret (pe_and (pe_callB call_isi (by rfl) W.n_isinstance (by decide +kernel) (pa_cons (pv 0) (pa_cons (pe_bltn (v := .ty "str") (by rfl) W.n_str (by decide +kernel) rfl) pa_nil))) (pe_one (pe_cmpR op_eq (pv 0) (pv 1) (nomark _))))))))))), ?_⟩
  refine rd_isi2 rfl hy (kL e) (kT e) fun p hp => ⟨_, rfl, ?_⟩
  have e1 : Ex H (upd H p (.tup [.ty "list", .ty "tuple"])) := (Ex.refl H).new hp
  generalize upd H p (.tup [.ty "list", .ty "tuple"]) = H1 at e1 ⊢
  have hx1 := hx.mono e1.kp
  have hy1 := hy.mono e1.kp
  cases e with
  | non =>
    cases hy1
    refine iteF (rd_isi rfl .non (b := true) (K := K) ki_ND ⟨_, rfl, iteF ?_⟩)
    refine ⟨_, rfl, rfl, _, rfl, iteT ?_⟩
    refine ⟨_, rfl, rfl, fin _ _ e1 ?_⟩
    cases hx1 <;> simp
  | bl b =>
    cases hy1
    refine iteF (rd_isi rfl (Den.bl b) (b := true) (K := K) ki_BD ⟨_, rfl, iteF ?_⟩)
    refine ⟨_, rfl, rfl, _, rfl, iteF ?_⟩
    refine rd_isi rfl (Den.bl b) (b := true) (K := K) ki_BB ⟨_, rfl, iteT ?_⟩
    refine rd_isi rfl hx1 (kB _) ⟨_, rfl, ?_⟩
    cases hx1 with
    | bl c => exact iteT ⟨_, rfl, _, rfl, rfl, fin _ _ e1 (by simp)⟩
    | _ => exact iteF (fin _ _ e1 (by simp))
  | int m =>
    cases hy1
    refine iteF (rd_isi rfl (Den.int m) (b := true) (K := K) ki_ID ⟨_, rfl, iteF ?_⟩)
    refine ⟨_, rfl, rfl, _, rfl, iteF ?_⟩
    refine rd_isi rfl (Den.int m) (b := true) (K := K) ki_IB ⟨_, rfl, iteF ?_⟩
    refine rd_isi rfl (Den.int m) (b := true) (K := K) ki_II ⟨_, rfl, iteT ?_⟩
    refine rd_isi rfl hx1 (kI _) ⟨_, rfl, ?_⟩
    cases hx1 with
    | int c => exact iteT (rd_isi rfl (Den.int c) (b := true) (K := K) ki_IB ⟨_, rfl, _, rfl, iteT ⟨_, rfl, _, rfl, rfl, fin _ _ e1 (by simp)⟩⟩)
    | bl c => exact iteT (rd_isi rfl (Den.bl c) (b := true) (K := K) ki_BB ⟨_, rfl, _, rfl, iteF (fin _ _ e1 (by simp))⟩)
    | _ => exact iteF (fin _ _ e1 (by simp))
  | str z =>
    cases hy1
    refine iteF (rd_isi rfl (Den.str z) (b := true) (K := K) ki_SD ⟨_, rfl, iteF ?_⟩)
    refine ⟨_, rfl, rfl, _, rfl, iteF ?_⟩
    refine rd_isi rfl (Den.str z) (b := true) (K := K) ki_SB ⟨_, rfl, iteF ?_⟩
    refine rd_isi rfl (Den.str z) (b := true) (K := K) ki_SI ⟨_, rfl, iteF ?_⟩
    refine rd_isi rfl hx1 (kS _) ⟨_, rfl, ?_⟩
    cases hx1 with
    | str c => exact iteT ⟨_, rfl, _, rfl, rfl, fin _ _ e1 (by simp)⟩
    | _ => exact iteF (fin _ _ e1 (by simp))
  | lst es =>
    obtain ⟨m, rfl⟩ : ∃ m, n = m + 1 := by
      cases n with
      | zero => exact hok.elim
      | succ m => exact ⟨m, rfl⟩
    obtain ⟨hz, hok⟩ := hok
    refine iteT (rd_isi rfl hx1 (kL _) (rd_isi rfl hy1 ki_LL ⟨rfl, _, rfl, ?_⟩))
    cases hx1 with
    | lst hq hs => 
      rename_i a xs ds
      cases hy1 with
      | lst hq' hs' =>
        rename_i b ys
        refine iteNS rfl (rd_isi rfl (Den.lst hq hs) ki_LT (rd_isi rfl (Den.lst hq' hs') ki_LT ⟨rfl, _, rfl, iteNS rfl ?_⟩))
        refine ⟨_, rfl, a, xs, rfl, .inl hq, _, rfl, b, ys, rfl, .inl hq', rfl, _, rfl, ?_⟩
        have l1 := hs.length
        have l2 := hs'.length
        refine ite2 (fun hl => ?_) (fun hl => ?_)
        · have hl : xs.length = ys.length := by
            have z := of_decide_eq_true hl
            have z2 := V.int.inj z
            omega
          have hmin : ds.length = min xs.length ys.length := by omega
          refine ⟨_, rfl, _, rfl, a, b, xs, ys, rfl, .inl ⟨hq, hq', fun D hD => ?_⟩⟩
          refine lc_map (walk_zip hmin) (fun i v _ => v = .bl (decide (ds[i]? = es[i]?))) (by rw [sizeLine_eq]; omega) hD (fun H2 e2 => ⟨e2.er.l hq, e2.er.l hq'⟩) (fun _ _ _ _ q _ => q) ?_ ?_
          · rintro i z H2 H3 Q2 hi e2 ⟨T, u, v, rfl, hT, rfl, hu, hv⟩ q
            obtain ⟨di, hdi, hud⟩ := hs.get hu
            obtain ⟨ei, hei, hve⟩ := hs'.get hv
            have e3 : Ex H1 (upd H2 T (.tup [u, v])) := e2.new hT
            refine ⟨T, [u, v], rfl, SqT.of upd_same, rfl, u, [v], rfl, v, [], rfl, rfl, rfl, ?_⟩
            refine ⟨_, rfl, _, rfl, u, v, di, ei, rfl, hud.mono e3.kp, hve.mono e3.kp, hok ei (List.mem_of_getElem? hei), fun H4 e4 => q _ _ (((Ex.refl H2).new hT).trans e4) ?_⟩
            rw [hdi, hei]
            simp
          · intro H2 l hD2 hl2 e2 hr2
            have el := bls_of hl2 hr2
            refine ⟨D, _, rfl, SqL.of (by rw [hD2, el]), fin _ _ (e1.trans e2) ?_⟩
            rw [all_same (by omega)]
            simp
        · refine fin _ _ e1 ⟨(fun z => nomatch z), fun z => absurd ?_ hl⟩
          have z2 : ds = es := by simpa using z
          refine decide_eq_true ?_
          rw [l1, l2, z2]
    | _ => exact iteT (fin _ _ e1 (by simp))
  | tup es =>
    obtain ⟨m, rfl⟩ : ∃ m, n = m + 1 := by
      cases n with
      | zero => exact hok.elim
      | succ m => exact ⟨m, rfl⟩
    obtain ⟨hz, hok⟩ := hok
    refine iteT (rd_isi rfl hx1 (kL _) (rd_isi rfl hy1 ki_TL ⟨rfl, _, rfl, ?_⟩))
    have hx2 := hx1
    cases hx1 with
    | tup hq hs => 
      rename_i a xs ds
      cases hy1 with
      | tup hq' hs' =>
        rename_i b ys
        refine iteNS rfl (rd_isi rfl (Den.tup hq hs) ki_TT (rd_isi rfl (Den.tup hq' hs') ki_TT ⟨rfl, _, rfl, iteNS rfl ?_⟩))
        refine ⟨_, rfl, a, xs, rfl, .inr hq, _, rfl, b, ys, rfl, .inr hq', rfl, _, rfl, ?_⟩
        have l1 := hs.length
        have l2 := hs'.length
        refine ite2 (fun hl => ?_) (fun hl => ?_)
        · have hl : xs.length = ys.length := by
            have z := of_decide_eq_true hl
            have z2 := V.int.inj z
            omega
          have hmin : ds.length = min xs.length ys.length := by omega
          refine ⟨_, rfl, _, rfl, a, b, xs, ys, rfl, .inr ⟨hq, hq', fun D hD => ?_⟩⟩
          refine lc_map (DL.walk_zipT hmin) (fun i v _ => v = .bl (decide (ds[i]? = es[i]?))) (by rw [sizeLine_eq]; omega) hD (fun H2 e2 => ⟨e2.er.t hq, e2.er.t hq'⟩) (fun _ _ _ _ q _ => q) ?_ ?_
          · rintro i z H2 H3 Q2 hi e2 ⟨T, u, v, rfl, hT, rfl, hu, hv⟩ q
            obtain ⟨di, hdi, hud⟩ := hs.get hu
            obtain ⟨ei, hei, hve⟩ := hs'.get hv
            have e3 : Ex H1 (upd H2 T (.tup [u, v])) := e2.new hT
            refine ⟨T, [u, v], rfl, SqT.of upd_same, rfl, u, [v], rfl, v, [], rfl, rfl, rfl, ?_⟩
            refine ⟨_, rfl, _, rfl, u, v, di, ei, rfl, hud.mono e3.kp, hve.mono e3.kp, hok ei (List.mem_of_getElem? hei), fun H4 e4 => q _ _ (((Ex.refl H2).new hT).trans e4) ?_⟩
            rw [hdi, hei]
            simp
          · intro H2 l hD2 hl2 e2 hr2
            have el := bls_of hl2 hr2
            refine ⟨D, _, rfl, SqL.of (by rw [hD2, el]), fin _ _ (e1.trans e2) ?_⟩
            rw [all_same (by omega)]
            simp
        · refine fin _ _ e1 ⟨(fun z => nomatch z), fun z => absurd ?_ hl⟩
          have z2 : ds = es := by simpa using z
          refine decide_eq_true ?_
          rw [l1, l2, z2]
    | lst _ _ => exact iteT (fin _ _ e1 (by simp))
    | _ => exact iteNS rfl (rd_isi rfl hx2 (kT _) (rd_isi rfl hy1 ki_TT ⟨rfl, _, rfl, iteT (fin _ _ e1 (by simp))⟩))
  | dic es =>
    obtain ⟨m, rfl⟩ : ∃ m, n = m + 2 := by
      cases n with
      | zero => exact hok.elim
      | succ m =>
        cases m with
        | zero => exact hok.elim
        | succ m => exact ⟨m, rfl⟩
    obtain ⟨hz, hnd, hok⟩ := hok
    cases hy1 with
    | dic hq' hs' =>
      rename_i b ys
      have hqb : H1 b = some (.dK ys) := hq'
      refine iteF (rd_isi rfl (Den.dic (b := true) hq' hs') ki_DD ⟨_, rfl, iteT ?_⟩)
      refine rd_isi rfl hx1 (kD _) ⟨_, rfl, ?_⟩
      cases hx1 with
      | dic hq hs =>
        rename_i a xs gs
        have l1 := hs.length
        have l2 := hs'.length
        refine iteF ?_
        refine ⟨_, rfl, a, xs, rfl, hq.rd, fun p1 hp1 => ?_⟩
        have e2 : Ex H1 (upd H1 p1 (.lst (xs.map fun kv => kV kv.1))) := (Ex.refl H1).new hp1
        refine ⟨_, rfl, b, ys, rfl, (e2.er _ _ (.inl hqb)), fun p2 hp2 => ?_⟩
        have e3 : Ex H1 (upd (upd H1 p1 (.lst (xs.map fun kv => kV kv.1))) p2 (.lst (ys.map fun kv => kV kv.1))) := e2.new hp2
        have n12 : p1 ≠ p2 := ne_of_none upd_same hp2
        refine ⟨.ref p1, .ref p2, .lst (xs.map fun kv => kTr kv.1), .lst (ys.map fun kv => kTr kv.1), rfl, .lst (SqL.of (by rw [upd_ne n12]; exact upd_same)) (dens_keys xs), .lst (SqL.of upd_same) (dens_keys ys), ⟨by simp; omega, fun z hz => ?_⟩, fun H4 e4 => ⟨_, rfl, ?_⟩⟩
        · obtain ⟨p, _, rfl⟩ := List.mem_map.mp hz
          exact okd_key _ _
        have e5 := e3.trans e4
        by_cases hk : (Tr.lst (xs.map fun kv => kTr kv.1)) = .lst (ys.map fun kv => kTr kv.1)
        · have hk2 : xs.map (·.1) = ys.map (·.1) := keys_inj (by simpa using hk)
          have hnd2 : (ys.map (·.1)).Nodup := by
            rw [hs'.keys]
            exact hnd
          have hnd1 : (xs.map (·.1)).Nodup := by
            rw [hk2]
            exact hnd2
          rw [decide_eq_true hk]
          refine iteF ?_
          have hb4 : H4 b = some (.dK ys) := e5 b _ hqb
          refine ⟨b, _, hb4, trivial, fun od => ?_⟩
          have er4 : Er H1 (upd H4 b (.frz od (.dK ys))) := e5.er.trans (er_lock hb4 trivial)
          refine ⟨_, rfl, b, od, rfl, .inl ⟨ys, upd_same, fun D hD => ?_⟩⟩
          refine lc_map walk_keys (fun i v _ => v = V.bl (decide (gs[i]? = es[i]?))) (by rw [sizeLine_eq]; omega) hD (fun H2 e2 => e2 _ _ upd_same) (fun _ _ _ _ q _ => q) ?_ ?_
          · rintro i z H2 H3 Q2 hi e6 ⟨eh, ky, vy, hky, rfl⟩ q
            obtain rfl : H2 = H3 := eh.symm
            obtain ⟨ei, hei, hve⟩ := hs'.get hky
            obtain ⟨vx, hkx⟩ := get_keys hk2.symm hky
            obtain ⟨di, hdi, hud⟩ := hs.get hkx
            have er6 : Er H1 H2 := er4.trans e6.er
            have ok2 := hok _ (List.mem_of_getElem? hei)
            refine ⟨rfl, _, rfl, _, rfl, a, vx, rfl, .inl ⟨xs, ky, er6 _ _ hq.rd, rfl, (valV_at hnd1 hkx).symm⟩, ?_⟩
            refine ⟨_, rfl, _, rfl, b, vy, rfl, .inl ⟨ys, ky, er6 _ _ (.inl hqb), rfl, (valV_at hnd2 hky).symm⟩, ?_⟩
            refine ⟨vx, vy, di, ei, rfl, hud.mono er6.kp, (hve.weak.mono er6.kp).flat ok2.2, ok2.1, fun H4 e4 => q _ _ e4 ?_⟩
            rw [hdi, hei]
            simp
          · intro H2 l hD2 hl2 e6 hr2
            have el := bls_of hl2 hr2
            have hb2 : H2 b = some (.frz od (.dK ys)) := e6 _ _ upd_same
            have nDb : D ≠ b := fun z => by
              rw [z, upd_same] at hD
              cases hD
            refine ⟨hb2, D, _, rfl, SqL.of (by rw [upd_ne nDb, hD2, el]), fin _ _ (e1.trans (e5.trans (ex_unlock hb4 e6))) ?_⟩
            have lg : ys.length = gs.length := by
              have z := congrArg List.length hk2
              simp at z
              omega
            rw [lg, all_same (by omega)]
            simp
        · rw [decide_eq_false hk]
          refine iteT (fin _ _ (e1.trans e5) ⟨(fun z => nomatch z), fun z => absurd ?_ hk⟩)
          have z2 : gs = es := by simpa using z
          have z3 : xs.map (·.1) = ys.map (·.1) := by rw [hs.keys, hs'.keys, z2]
          have z4 := congrArg (List.map kTr) z3
          simp only [List.map_map] at z4
          exact congrArg Tr.lst z4
      | _ => exact iteT (fin _ _ e1 (by simp))
end
end K89

set_option Elab.async false
set_option linter.all false
set_option maxRecDepth 100000
set_option maxHeartbeats 4000000
namespace XL
open PySem PySem.Spec PyProof.Rows L2 DL
/-! lists of exceptions made, asked -/
/-- at e: an exception of the class at C that keeps v as f -/
def Mde (H : Hp) (e C : Addr) (f : Str) (v : V) : Prop := ∃ d, H e = some (exo e C (some d)) ∧ H d = some (.xd [(f, v)])
theorem Mde.exd {H : Hp} {e C : Addr} {f : Str} {v : V} (h : Mde H e C f v) : Exd H e C := by
  obtain ⟨d, h1, h2⟩ := h
  exact ⟨some d, h1, fun dx q => by
    cases q
    exact ⟨_, h2⟩⟩
theorem Mde.mono {H H' : Hp} {e C : Addr} {f : Str} {v : V} (x : Ex H H') (h : Mde H e C f v) : Mde H' e C f v := by
  obtain ⟨d, h1, h2⟩ := h
  exact ⟨d, x _ _ h1, x _ _ h2⟩
theorem exd_mono {H H' : Hp} {e C : Addr} (x : Ex H H') (h : Exd H e C) : Exd H' e C := by
  obtain ⟨d, h1, h2⟩ := h
  refine ⟨d, x _ _ h1, fun dx q => ?_⟩
  obtain ⟨fs, h3⟩ := h2 dx q
  exact ⟨fs, x _ _ h3⟩
def xvs (i : Nat) : List (Addr × Str) → TA
  | [] => tNil
  | p :: r => tCons (tXv p.1 p.2 (tCons (tVar i) tNil)) (xvs i r)
/-- isinstance(e, D) for each of some classes -/
def iss (K : PySem.W.Frag) (i : Nat) : List Addr → TA
  | [] => tNil
  | D :: r => tCons (tCB (rIsX K) (tCons (tVar i) (tCons (tC (.ref D)) tNil))) (iss K i r)
/-- some classes, as values -/
def cls : List Addr → TA
  | [] => tNil
  | D :: r => tCons (tC (.ref D)) (cls r)
section
variable {K : PySem.W.Frag} {σ : L2.St} {i : Nat} {x : V}
theorem ex_two {H : Hp} {e d : Addr} {o u : HO} (he : H e = none) (hd : H d = none) : Ex H (upd (upd H d o) e u) := fun b z q => by
  rw [upd_ne (ne_of_none q he), upd_ne (ne_of_none q hd)]
  exact q
theorem mde_new {H : Hp} {e d C : Addr} {f : Str} {v : V} (n : d ≠ e) : Mde (upd (upd H d (.xd [(f, v)])) e (exo e C (some d))) e C f v := ⟨d, upd_same, by rw [upd_ne n, upd_same]⟩
theorem rd_xvs (hs : σ[i]? = some (some x)) : ∀ (l : List (Addr × Str)) (H : Hp) (Q : List V → Hp → Prop), (∀ (es : List Addr) H', Ex H H' → Paired (fun e p => Mde H' e p.1 p.2 x) es l → Q (es.map V.ref) H') → xvs i l σ H Q
  | [], H, Q, q => q [] H (Ex.refl H) .nil
  | p :: r, H, Q, q => by
    refine ⟨x, hs, x, rfl, fun e d he hd n => ?_⟩
    refine rd_xvs hs r _ _ fun es H' h1 h2 => ?_
    exact q (e :: es) H' ((ex_two he hd).trans h1) (.cons ((mde_new n).mono h1) h2)
theorem rd_iss {e C P : Addr} (hs : σ[i]? = some (some (.ref e))) (c : ExcC K C) (l : XH.Ln K C P) : ∀ (Ds : List Addr) (H : Hp) (Q : List V → Hp → Prop), Exd H e C → (∀ D ∈ Ds, XH.Ln K D P) → Q (Ds.map fun D => V.bl (decide (D = C) || decide (D = P))) H → iss K i Ds σ H Q
  | [], H, Q, _, _, q => q
  | D :: r, H, Q, hx, hD, q => by
    refine ⟨.ref e, hs, ⟨e, C, .ref D, .ref D, _, rfl, hx, c, .own D, XH.kit_own l (hD D List.mem_cons_self), ?_⟩⟩
    exact rd_iss hs c l r H _ hx (fun E hE => hD E (List.mem_cons_of_mem _ hE)) q
theorem rd_cls : ∀ (Ds : List Addr) (H : Hp) (Q : List V → Hp → Prop), Q (Ds.map V.ref) H → cls Ds σ H Q
  | [], H, Q, q => q
  | D :: r, H, Q, q => rd_cls r H (fun vs H' => Q (.ref D :: vs) H') q
theorem clsV_all : ∀ Ds : List Addr, Paired ClsV (Ds.map V.ref) (Ds.map Value.ref)
  | [] => .nil
  | D :: r => .cons (.own D) (clsV_all r)
/-- isinstance(e, (C1, ..)) -/
theorem rd_isXT {e C P : Addr} {H : Hp} {Q : VK} (hs : σ[i]? = some (some (.ref e))) (c : ExcC K C) (l : XH.Ln K C P) (Ds : List Addr) (hl : Ds.length ≤ sizeLine) (hx : Exd H e C) (hD : ∀ D ∈ Ds, XH.Ln K D P)
    (q : ∀ H', Ex H H' → Q (.bl (Ds.any fun D => decide (D = C) || decide (D = P))) H') : tCB (rIsXT K) (tCons (tVar i) (tCons (tTup (cls Ds)) tNil)) σ H Q := by
  refine ⟨.ref e, hs, rd_cls Ds H _ ⟨(by rw [List.length_map]; exact hl), fun p hp => ?_⟩⟩
  exact ⟨e, C, p, Ds.map V.ref, Ds.map Value.ref, _, rfl, exd_mono ((Ex.refl H).new hp) hx, c, upd_same, clsV_all Ds, XH.kit_any l Ds hD, q _ ((Ex.refl H).new hp)⟩
end
end XL
namespace XL
open PySem PySem.Spec PyProof.Rows L2 DL
/-! peeling readings -/
section
variable {K : PySem.W.Frag} {t : TA} {i : Nat} {u : TS} {D : Ends} {σ : L2.St} {H : Hp}
/-- x = [..]; .. -/
theorem p_lst (h : t σ H fun xs H1 => xs.length ≤ sizeLine ∧ ∀ p, H1 p = none → u D (σ.set i (some (.ref p))) (upd H1 p (.lst xs))) : tSeq (tAsg (tLst t) (gName i)) u D σ H := h
/-- x.extend([..]); .. (x's list known) -/
theorem p_ext {p : Addr} {ys : List V} (hs : σ[i]? = some (some (.ref p))) (hp : H p = some (.lst ys))
    (h : t σ H fun xs H1 => xs.length ≤ sizeLine ∧ H1 p = some (.lst ys) ∧ ys.length + xs.length ≤ sizeLine ∧ ∀ q, H1 q = none → u D σ (upd (upd H1 q (.lst xs)) p (.lst (ys ++ xs))))
    (mono : ∀ (Q Q' : List V → Hp → Prop), (∀ xs H1, Q xs H1 → Q' xs H1) → t σ H Q → t σ H Q') :
    tSeq (tDrop (tBM K "list" rExtend (tVar i) (tCons (tLst t) tNil))) u D σ H := by
  refine ⟨_, hs, .inl ⟨rfl, _, SqL.of hp⟩, ?_⟩
  refine mono _ _ (fun xs H1 q => ⟨q.1, fun q2 hq => ?_⟩) h
  have n : p ≠ q2 := ne_of_none q.2.1 hq
  exact ⟨p, q2, ys, xs, rfl, rfl, by rw [upd_ne n]; exact q.2.1, upd_same, q.2.2.1, q.2.2.2 q2 hq⟩
theorem iss_mono {σ : L2.St} {i : Nat} : ∀ (Ds : List Addr) (H : Hp) (Q Q' : List V → Hp → Prop), (∀ xs H1, Q xs H1 → Q' xs H1) → iss K i Ds σ H Q → iss K i Ds σ H Q'
  | [], H, Q, Q', h, q => h _ _ q
  | D :: r, H, Q, Q', h, q => by
    obtain ⟨x, hx, a, C, c, cv, b, e1, e2, e3, e4, e5, q⟩ := q
    exact ⟨x, hx, a, C, c, cv, b, e1, e2, e3, e4, e5, iss_mono r H _ _ (fun xs H1 z => h _ _ z) q⟩
theorem xvs_mono {σ : L2.St} {i : Nat} : ∀ (l : List (Addr × Str)) (H : Hp) (Q Q' : List V → Hp → Prop), (∀ xs H1, Q xs H1 → Q' xs H1) → xvs i l σ H Q → xvs i l σ H Q'
  | [], H, Q, Q', h, q => h _ _ q
  | p :: r, H, Q, Q', h, q => by
    obtain ⟨x, hx, v, e1, q⟩ := q
    exact ⟨x, hx, v, e1, fun e d h1 h2 h3 => xvs_mono r _ _ _ (fun xs H1 z => h _ _ z) (q e d h1 h2 h3)⟩
/-- told = [isinstance ..]; .. -/
theorem p_iss {e C P : Addr} {j : Nat} {Ds : List Addr} (hs : σ[j]? = some (some (.ref e))) (c : ExcC K C) (l : XH.Ln K C P) (he : Exd H e C) (hD : ∀ D ∈ Ds, XH.Ln K D P) (hl : Ds.length ≤ 100)
    (h : ∀ p, H p = none → u D (σ.set i (some (.ref p))) (upd H p (.lst (Ds.map fun D => V.bl (decide (D = C) || decide (D = P)))))) : tSeq (tAsg (tLst (iss K j Ds)) (gName i)) u D σ H :=
  p_lst (rd_iss hs c l Ds H _ he hD ⟨by rw [List.length_map, sizeLine_eq]; omega, h⟩)
/-- told.extend([isinstance ..]); .. -/
theorem p_issE {e C P p : Addr} {j : Nat} {Ds : List Addr} {ys : List V} (hp : H p = some (.lst ys)) (hi : σ[i]? = some (some (.ref p))) (hs : σ[j]? = some (some (.ref e))) (c : ExcC K C) (l : XH.Ln K C P) (he : Exd H e C) (hD : ∀ D ∈ Ds, XH.Ln K D P)
    (hl : Ds.length ≤ 100) (hy : ys.length ≤ 1000) (h : ∀ H', (∀ b o, b ≠ p → H b = some o → H' b = some o) → H' p = some (.lst (ys ++ Ds.map fun D => V.bl (decide (D = C) || decide (D = P)))) → u D σ H') :
    tSeq (tDrop (tBM K "list" rExtend (tVar i) (tCons (tLst (iss K j Ds)) tNil))) u D σ H :=
  p_ext hi hp (rd_iss hs c l Ds H _ he hD ⟨by rw [List.length_map, sizeLine_eq]; omega, hp, by rw [List.length_map, sizeLine_eq]; omega, fun q hq => h _ (fun b o e z => by
    rw [upd_ne e, upd_ne (ne_of_none z hq)]
    exact z) upd_same⟩) fun Q Q' => iss_mono Ds H Q Q'
end
end XL
namespace XL
open PySem PySem.Spec PyProof.Rows L2 DL
/-- the list at p holds new errors of these classes, one each, that keep x -/
def ToldX (K : PySem.W.Frag) (H : Hp) (p : Addr) (l : List (Str × Str)) (x : V) : Prop := ∃ es : List Addr, H p = some (.lst (es.map V.ref)) ∧ Paired (fun e (q : Str × Str) => Mde H e (He.ga K q.1) q.2 x) es l
theorem Mde.upd {H : Hp} {e C p : Addr} {f : Str} {v : V} {ys zs : List V} (h : Mde H e C f v) (hp : H p = some (.lst ys)) : Mde (upd H p (.lst zs)) e C f v := by
  obtain ⟨d, h1, h2⟩ := h
  have n1 : e ≠ p := ne_of h1 hp (by intro z; cases z)
  have n2 : d ≠ p := ne_of h2 hp (by intro z; cases z)
  exact ⟨d, by rw [upd_ne n1]; exact h1, by rw [upd_ne n2]; exact h2⟩
theorem paired_app {α β : Type} {F : α → β → Prop} : ∀ {l1 l2 : List α} {m1 m2 : List β}, Paired F l1 m1 → Paired F l2 m2 → Paired F (l1 ++ l2) (m1 ++ m2)
  | _, _, _, _, .nil, h => h
  | _, _, _, _, .cons a r, h => .cons a (paired_app r h)
theorem paired_map {α β γ : Type} {F : α → γ → Prop} {g : β → γ} : ∀ {l : List α} {m : List β}, Paired F l (m.map g) → Paired (fun a b => F a (g b)) l m
  | _, [], .nil => .nil
  | _, _ :: _, .cons a r => .cons a (paired_map r)
section
variable {K : PySem.W.Frag} {i j : Nat} {u : TS} {D : Ends} {σ : L2.St} {H : Hp} {x : V}
theorem p_xvs {l : List (Str × Str)} (hs : σ[j]? = some (some x)) (hl : l.length ≤ 100) (h : ∀ p H', Ex H H' → H p = none → ToldX K H' p l x → u D (σ.set i (some (.ref p))) H') :
    tSeq (tAsg (tLst (xvs j (l.map fun q => (He.ga K q.1, q.2)))) (gName i)) u D σ H :=
  p_lst (rd_xvs hs _ H _ fun es H1 e1 hm => by
    have hlen := Paired.length hm
    rw [List.length_map] at hlen
    exact ⟨by rw [List.length_map, sizeLine_eq]; omega, fun p hp => h p _ (e1.new hp) (e1.free hp) ⟨es, upd_same, L2.Paired.mapP (paired_map hm) fun a b q => q.mono ((Ex.refl H1).new hp)⟩⟩)
theorem p_xvsE {p : Addr} {l0 l : List (Str × Str)} (ht : ToldX K H p l0 x) (hi : σ[i]? = some (some (.ref p))) (hs : σ[j]? = some (some x)) (hl : l.length ≤ 100) (hl0 : l0.length ≤ 1000)
    (h : ∀ H', (∀ b o, b ≠ p → H b = some o → H' b = some o) → ToldX K H' p (l0 ++ l) x → u D σ H') : tSeq (tDrop (tBM K "list" rExtend (tVar i) (tCons (tLst (xvs j (l.map fun q => (He.ga K q.1, q.2)))) tNil))) u D σ H := by
  obtain ⟨es0, hp, hm0⟩ := ht
  have len0 := Paired.length hm0
  refine p_ext hi hp (rd_xvs hs _ H _ fun es H1 e1 hm => ?_) fun Q Q' => xvs_mono _ H Q Q'
  have hlen := Paired.length hm
  rw [List.length_map] at hlen
  refine ⟨by rw [List.length_map, sizeLine_eq]; omega, e1 _ _ hp, by rw [List.length_map, List.length_map, sizeLine_eq]; omega, fun q hq => h _ (fun b o nb hb => ?_) ⟨es0 ++ es, ?_, ?_⟩⟩
  · rw [upd_ne nb, upd_ne (ne_of_none (e1 _ _ hb) hq)]
    exact e1 _ _ hb
  · rw [upd_same, List.map_append]
  · have e2 : Ex H1 (L2.upd H1 q (.lst (es.map V.ref))) := (Ex.refl H1).new hq
    have hp2 := e2 _ _ (e1 _ _ hp)
    exact paired_app (L2.Paired.mapP hm0 fun a b z => (z.mono (e1.trans e2)).upd hp2) (L2.Paired.mapP (paired_map hm) fun a b z => (z.mono e2).upd hp2)
end
end XL

set_option Elab.async false
set_option linter.all false
set_option maxRecDepth 100000
set_option maxHeartbeats 4000000
namespace K89
open PySem PySem.Spec PyProof.Rows L2 DL
/-! ### calls -/
/-- a def that keeps a promise, as a caller sees it -/
structure Cal (P : Program) (w : World) (K : PySem.W.Frag) (mg : Str → Option Value) (base : Heap) (k : Nat) (x : Str) (ps : List Str) (sp : Sp) : Prop where
  ex : ∃ fd, FnOk P w K mg base CX0 k (He.ga K x) fd ps sp ∧ Binds K fd ps []
  gl : mg x = some (.ref (He.ga K x))
  kp : PySem.W.keepIn K (.ref (He.ga K x)) = true
theorem pe_c {X : Cx} {k : Nat} {x : Str} {ps : List Str} {sp : Sp} {p pos : Pos} {e : Expr} {es : List Expr} {t : TA} (C : Cal X.prog X.w X.K X.mg X.base k x ps sp) (hr : Room k X.A) (ha : PA X (e :: es) t) (hg : Gl X x := by rfl)
    (hdb : (x == ("__debug__" : Str)) = false := by decide) (he : starEach (e :: es) X.env = (false, eval e X.env) :: starEach es X.env := by rfl) (hpl : (backTo pos (starEach es X.env)).any (·.1) = false := by rfl) :
    PE X (.Call (.Name x p) (e :: es) [] pos) (tCall sp [] E0 t) := by
  obtain ⟨fd, F, b⟩ := C.ex
  exact pe_call F hr hg C.gl C.kp b .nil pass0 ha hdb he hpl
/-! ### the drawn numbers -/
/-- the state of the draws at a, its cells at c -/
def StAt (H : Hp) (a c : Addr) (N : Nat) : Prop := ∃ (ns : List Int) (cur cnt mix : Int), H a = some (.lst [.ref c, .int cur, .int cnt, .int mix]) ∧ H c = some (.lst (ns.map V.int)) ∧ ns.length ≤ 63 ∧ 0 ≤ cur ∧ 0 ≤ cnt ∧ cnt ≤ N ∧ 0 ≤ mix ∧ mix < 2147483647
/-- all but the draws as it was -/
def Bar (a c : Addr) (H H' : Hp) : Prop := ∀ b o, b ≠ a → b ≠ c → H b = some o → H' b = some o
theorem Bar.refl {a c : Addr} {H : Hp} : Bar a c H H := fun _ _ _ _ h => h
theorem Bar.trans {a c : Addr} {H H1 H2 : Hp} (x : Bar a c H H1) (y : Bar a c H1 H2) : Bar a c H H2 := fun b o h1 h2 h => y b o h1 h2 (x b o h1 h2 h)
theorem Bar.new {a c p : Addr} {H H' : Hp} {o : HO} (x : Bar a c H H') (h : H' p = none) : Bar a c H (upd H' p o) := fun b u h1 h2 e => by
  rw [upd_ne (ne_of_none (x b u h1 h2 e) h)]
  exact x b u h1 h2 e
theorem Bar.atA {a c : Addr} {H H' : Hp} {o : HO} (x : Bar a c H H') : Bar a c H (upd H' a o) := fun b u h1 h2 e => by
  rw [upd_ne h1]
  exact x b u h1 h2 e
theorem Bar.atC {a c : Addr} {H H' : Hp} {o : HO} (x : Bar a c H H') : Bar a c H (upd H' c o) := fun b u h1 h2 e => by
  rw [upd_ne h2]
  exact x b u h1 h2 e
def spPick : Sp := fun vs H Q _ => ∃ (a c : Addr) (N : Nat) (many : Int), vs = [.ref a, .int many] ∧ StAt H a c N ∧ N < 1099511627776 ∧ 0 < many ∧ many < 1073741824 ∧
  ∀ (r : Int) H', 0 ≤ r → r < many → StAt H' a c (N + 1) → Bar a c H H' → Q (.int r) H'
theorem sc_law_pick : FnScope ["state", "many", "cell", "digit", "mixed"] ["state", "many"] (defScope s_law_pick) := ⟨rfl, rfl, rfl, by decide +kernel, rfl, by decide +kernel, by decide +kernel⟩
theorem ne_ac {H : Hp} {a c : Addr} {cur cnt mix : Int} {ns : List Int} (h1 : H a = some (.lst [.ref c, .int cur, .int cnt, .int mix])) (h2 : H c = some (.lst (ns.map V.int))) : a ≠ c := by
  refine ne_of h1 h2 fun z => ?_
  have e := HO.lst.inj z
  cases ns with
  | nil => cases e
  | cons n r =>
    have e1 := (List.cons.inj e).1
    cases e1
section
variable {P : Program} {w : World} {K : PySem.W.Frag} {mg : Str → Option Value} {base : Heap} {f : Addr} {fd : FuncData}
theorem dp_ints {K : PySem.W.Frag} {H : Hp} : ∀ ns : List Int, DpAll K H (ns.map V.int) (ns.map PyData.int)
  | [] => .nil
  | n :: r => .cons (.int n) (dp_ints r)
/-- one continuation for several ways -/
theorem with_key {T F : Hp → Prop} {G : Prop} (key : ∀ H, F H → T H) (main : (∀ H, F H → T H) → G) : G := main key
/-- between two cells -/
def PickW (a c : Addr) (many cnt : Int) (H : Hp) : Nat → L2.St → Hp → Prop := fun m σ H' => ∃ (ns : List Int) (cur mix : Int) (oc : Option V), ns.length = m ∧ σ = [some (.ref a), some (.int many), oc, none, none] ∧
  H' a = some (.lst [.ref c, .int cur, .int (cnt + 1), .int mix]) ∧ H' c = some (.lst (ns.map V.int)) ∧ ns.length ≤ 63 ∧ 0 ≤ cur ∧ 0 ≤ mix ∧ mix < 2147483647 ∧ Bar a c H H'
theorem ok_pick (W : Wld K mg) (F : FnP K "_law_pick" s_law_pick f fd) : FnOk P w K mg base CX0 2 f fd ["state", "many"] spPick := by
  refine F.ok sc_law_pick (fun vs H Q E h => ?_) (fun cdv A outer s H vs Q E hr h => ?_)
  · obtain ⟨a, c, N, many, rfl, _⟩ := h
    rfl
  refine ⟨_, PSs.nox (pss_cons (ps_asg (pe_op op_add (pe_ix ix_list (pv 0) pe_int (fun _ _ => rfl)) pe_int) (pg_sub (pv 0) pe_int set_list))
    (pss_cons (ps_while PassesOwn.never (PW.pt (pw_and (pt_cmpR op_eq (pe_ix ix_list (pv 0) pe_int (fun _ _ => rfl)) pe_int (nomark _)) (pw_and1 (pt_cmpR (op_neD hr.units) (pe_ix ix_list (pv 0) pe_int (fun _ _ => rfl)) (pe_lst pa_nil) (nomark _)))))
      (pss_cons (ps_set (i := 2) sc_law_pick.nd rfl (.inl rfl) (pe_callB call_abs (by rfl) W.n_abs (by decide +kernel) (pa_cons (pe_bm PySem.F.plainAttrs_list PySem.F.slot_list_pop PySem.F.type_list_pop mt_popAt (pe_ix ix_list (pv 0) pe_int (fun _ _ => rfl)) (pa_cons pe_int pa_nil)) pa_nil)))
      (pss_cons (ps_asg (pe_op op_mod (pe_callTy call_int1 (by rfl) W.n_int (by decide +kernel) (pa_cons (pe_op op_add (pe_op op_add (pe_op op_mul (pe_ix ix_list (pv 0) pe_int (fun _ _ => rfl)) pe_int) (pv 2)) pe_int) pa_nil)) pe_int) (pg_sub (pv 0) pe_int set_list))
      (pss_one (ps_asg (pe_ifExp (pt_cmpR op_ge (pv 2) (pe_op op_pow pe_int pe_int) (nomark _)) (pv 2) pe_int) (pg_sub (pv 0) pe_int set_list))))))
    (pss_cons (ps_if (pt_cmpR op_gt (pe_ix ix_list (pv 0) pe_int (fun _ _ => rfl)) pe_int (nomark _))
      (pss_cons (ps_set (i := 3) sc_law_pick.nd rfl (.inl rfl) (pe_op op_mod (pe_callTy call_int1 (by rfl) W.n_int (by decide +kernel) (pa_cons (pe_ix ix_list (pv 0) pe_int (fun _ _ => rfl)) pa_nil)) (pv 1)))
      (pss_cons (ps_asg (pe_op op_fdiv (pe_ix ix_list (pv 0) pe_int (fun _ _ => rfl)) (pv 1)) (pg_sub (pv 0) pe_int set_list))
      (pss_one (ps_ret (pv 3))))) pss_nil)
    (pss_cons (ps_set (i := 4) sc_law_pick.nd rfl (.inl rfl) (pe_op op_mod (pe_callTy call_int1 (by rfl) W.n_int (by decide +kernel) (pa_cons (pe_op op_pow (pe_op op_add (pe_op op_add (pe_ix ix_list (pv 0) pe_int (fun _ _ => rfl)) (pe_op op_mul pe_int (pe_ix ix_list (pv 0) pe_int (fun _ _ => rfl)))) pe_int) pe_int) pa_nil)) pe_int))
    (pss_one (ps_ret (pe_op op_mod (pe_op op_mod (pe_callTy call_int1 (by rfl) W.n_int (by decide +kernel) (pa_cons (pe_op op_pow (pe_op op_add (pe_op op_add (pe_op op_mul (pv 4) pe_int) (pe_op op_mul pe_int (pe_ix ix_list (pv 0) pe_int (fun _ _ => rfl)))) pe_int) pe_int) pa_nil)) pe_int) (pv 1)))))))), ?_⟩
  obtain ⟨a, c, N, many, rfl, ⟨ns, cur, cnt, mix, ha, hc, hl, h1, h2, h3, h4, h5⟩, hN, m1, m2, k⟩ := h
  have nac : a ≠ c := ne_ac ha hc
  refine ⟨_, rfl, a, _, _, _, rfl, rfl, SqL.of ha, rfl, _, _, rfl, rfl, _, rfl, a, _, _, _, rfl, rfl, ha, rfl, ?_⟩
  -- the cells are taken one by one
  refine ⟨PickW a c many cnt H, ⟨ns.length, ns, cur, mix, none, rfl, rfl, upd_same, by rw [upd_ne nac.symm]; exact hc, hl, h1, h4, h5, Bar.refl.atA⟩, ?_⟩
  rintro m σ H' ⟨ns, cur, mix, oc, rfl, rfl, ha, hc, hl, h1, h4, h5, fr⟩
  refine' with_key (F := fun H2 => H2 a = some (.lst [.ref c, .int cur, .int (cnt + 1), .int mix]) ∧ H2 c = some (.lst (ns.map V.int)) ∧ Bar a c H H2) ?tail (fun key => ?main)
  case main =>
   refine ⟨_, rfl, a, _, _, _, rfl, rfl, SqL.of ha, rfl, rfl, _, rfl, ?_⟩
   refine ite2 (fun e0 => ?more) (fun e0 => iteF (key _ ⟨ha, hc, fr⟩))
   case more =>
     refine ⟨_, rfl, a, _, _, _, rfl, rfl, SqL.of ha, rfl, Nat.zero_le _, fun l hl0 => ?_⟩
     have nal : a ≠ l := ne_of_none ha hl0
     have ncl : c ≠ l := ne_of_none hc hl0
     have ha' : upd H' l (.lst []) a = some (.lst [.ref c, .int cur, .int (cnt + 1), .int mix]) := by
       rw [upd_ne nal]
       exact ha
     have hc' : upd H' l (.lst []) c = some (.lst (ns.map V.int)) := by
       rw [upd_ne ncl]
       exact hc
     refine ⟨.list (ns.map PyData.int), .list [], .lst (SqL.of hc') (dp_ints ns), .lst (SqL.of upd_same) .nil, PySem.W.ke_shaped_ints ns, by decide, _, rfl, ?_⟩
     refine ite2 (fun e1 => ?body) (fun e1 => ?oo)
     case oo =>
       exact key _ ⟨ha', hc', fr.new hl0⟩
     case body =>
       cases ns with
       | nil => exact absurd e1 (by decide)
       | cons n r =>
         have hr2 : r.length ≤ 63 := Nat.le_of_succ_le hl
         refine ⟨PickW a c many cnt H r.length, fun _ _ h => ⟨r.length, Nat.lt_succ_self _, h⟩, ?_⟩
         refine ⟨_, rfl, a, _, _, _, rfl, rfl, SqL.of ha', rfl, .inl ⟨rfl, _, SqL.of hc'⟩, c, _, _, 0, _, rfl, rfl, hc', by decide, by decide, (by simp [seqIndex?]), rfl, _, rfl, ?_⟩
         have ha2 : upd (upd H' l (.lst [])) c (.lst (r.map V.int)) a = some (.lst [.ref c, .int cur, .int (cnt + 1), .int mix]) := by
           rw [upd_ne nac]
           exact ha'
         have q1 : 0 ≤ (if n < 0 then -n else n) := by
           split <;> omega
         refine ⟨_, rfl, a, _, _, _, rfl, rfl, SqL.of ha2, rfl, _, _, rfl, rfl, .inl ⟨by omega, by omega⟩, _, rfl, _, _, rfl, rfl, _, _, rfl, rfl, .inl ⟨_, rfl, _, _, rfl, rfl, (by show (0 : Int) < 2147483647; decide), _, rfl, a, _, _, _, rfl, rfl, ha2, rfl, ?_⟩⟩
         have b1 : 0 ≤ (mix * 6151 + (if n < 0 then -n else n) + 5) % 2147483647 := Int.emod_nonneg _ (by decide)
         have b2 : (mix * 6151 + (if n < 0 then -n else n) + 5) % 2147483647 < 2147483647 := Int.emod_lt_of_pos _ (by decide)
         have fin : ∀ z : Int, 0 ≤ z → PickW a c many cnt H r.length [some (.ref a), some (.int many), some (.int (if n < 0 then -n else n)), none, none]
             (upd (upd (upd (upd H' l (.lst [])) c (.lst (r.map V.int))) a (.lst [.ref c, .int cur, .int (cnt + 1), .int ((mix * 6151 + (if n < 0 then -n else n) + 5) % 2147483647)])) a
               (.lst [.ref c, .int z, .int (cnt + 1), .int ((mix * 6151 + (if n < 0 then -n else n) + 5) % 2147483647)])) := fun z hz =>
           ⟨r, z, _, _, rfl, rfl, upd_same, by rw [upd_ne nac.symm, upd_ne nac.symm, upd_same], hr2, hz, b1, b2, ((fr.new hl0).atC.atA).atA⟩
         refine ⟨_, rfl, _, _, rfl, rfl, ⟨by decide, by decide, by decide⟩, _, _, rfl, rfl, _, rfl, ?_⟩
         refine ite2 (fun _ => ?_) (fun _ => ?_)
         · refine ⟨_, rfl, _, rfl, a, _, _, _, rfl, rfl, upd_same, rfl, ?_⟩
           exact fin _ q1
         · refine ⟨_, rfl, a, _, _, _, rfl, rfl, upd_same, rfl, ?_⟩
           exact fin _ (by decide)
  case tail =>
    rintro H2 ⟨ha, hc, fr⟩
    have c3 : cnt + 1 ≤ ((N + 1 : Nat) : Int) := by omega
    refine ⟨_, rfl, a, _, _, _, rfl, rfl, SqL.of ha, rfl, _, _, rfl, rfl, _, rfl, ?_⟩
    refine ite2 (fun e0 => ?_) (fun e0 => ?_)
    · have e1 : 0 < cur := of_decide_eq_true e0
      refine ⟨_, rfl, a, _, _, _, rfl, rfl, SqL.of ha, rfl, .inl ⟨_, rfl, _, rfl, _, _, rfl, rfl, m1, ?_⟩⟩
      refine ⟨_, rfl, a, _, _, _, rfl, rfl, SqL.of ha, rfl, _, rfl, _, _, rfl, rfl, ⟨m1, m2⟩, _, rfl, a, _, _, _, rfl, rfl, ha, rfl, ?_⟩
      refine ⟨_, rfl, ?_⟩
      exact k _ _ (Int.emod_nonneg _ (by omega)) (Int.emod_lt_of_pos _ m1) ⟨ns, cur / many, cnt + 1, mix, upd_same, by rw [upd_ne nac.symm]; exact hc, hl, Int.ediv_nonneg h1 (by omega), by omega, c3, h4, h5⟩ fr.atA
    · refine ⟨_, rfl, a, _, _, _, rfl, rfl, SqL.of ha, rfl, _, rfl, a, _, _, _, rfl, rfl, SqL.of ha, rfl, _, _, rfl, rfl, .inl ⟨by decide, by decide⟩, _, _, rfl, rfl, _, _, rfl, rfl, _, _, rfl, rfl, ⟨by decide, by decide, by omega⟩, .inl ⟨_, rfl, _, _, rfl, rfl, (by show (0 : Int) < 2147483629; decide), ?_⟩⟩
      have b1 : 0 ≤ ((mix + 7907 * (cnt + 1) + 104723) ^ (5 : Int).toNat) % 2147483629 := Int.emod_nonneg _ (by decide)
      have b2 : ((mix + 7907 * (cnt + 1) + 104723) ^ (5 : Int).toNat) % 2147483629 < 2147483629 := Int.emod_lt_of_pos _ (by decide)
      refine ⟨_, rfl, _, _, rfl, rfl, .inr ⟨by decide, by decide⟩, _, rfl, a, _, _, _, rfl, rfl, SqL.of ha, rfl, _, _, rfl, rfl, .inl ⟨by decide, by decide⟩, _, _, rfl, rfl, _, _, rfl, rfl, _, _, rfl, rfl, ⟨by decide, by decide, by omega⟩, .inl ⟨_, rfl, _, _, rfl, rfl, (by show (0 : Int) < 1000000007; decide), _, rfl, _, _, rfl, rfl, m1, ?_⟩⟩
      exact k _ _ (Int.emod_nonneg _ (by omega)) (Int.emod_lt_of_pos _ m1) ⟨ns, cur, cnt + 1, mix, ha, hc, hl, h1, by omega, c3, h4, h5⟩ fr
theorem c_law_pick (W : Wld K mg) : Cal P w K mg base 2 "_law_pick" ["state", "many"] spPick := by
  obtain ⟨fd, F⟩ := W.c.def_ 1 rfl
  exact ⟨⟨fd, ok_pick W F, F.bindsN fun _ _ _ _ _ _ us hl => match us, hl with | [_, _], _ => rfl⟩, W.g_law_pick, F.kp⟩
end
end K89

set_option Elab.async false
set_option linter.all false
set_option maxRecDepth 100000
set_option maxHeartbeats 4000000
namespace K89
open PySem PySem.Spec PyProof.Rows L2 DL
section
variable {P : Program} {w : World} {K : PySem.W.Frag} {mg : Str → Option Value} {base : Heap} {f : Addr} {fd : FuncData}
/-! ### between -/
def spBetween : Sp := fun vs H Q _ => ∃ (a c : Addr) (N : Nat) (lo hi : Int), vs = [.ref a, .int lo, .int hi] ∧ StAt H a c N ∧ N < 1099511627776 ∧ lo ≤ hi ∧ hi - lo < 1073741823 ∧
  ∀ (r : Int) H', lo ≤ r → r ≤ hi → StAt H' a c (N + 1) → Bar a c H H' → Q (.int r) H'
theorem sc_law_between : FnScope ["state", "low", "high"] ["state", "low", "high"] (defScope s_law_between) := ⟨rfl, rfl, rfl, by decide +kernel, rfl, by decide +kernel, by decide +kernel⟩
theorem ok_between (W : Wld K mg) (F : FnP K "_law_between" s_law_between f fd) : FnOk P w K mg base CX0 3 f fd ["state", "low", "high"] spBetween := by
  have C_law_pick : Cal P w K mg base 2 "_law_pick" ["state", "many"] spPick := c_law_pick W
  refine F.ok sc_law_between (fun vs H Q E h => ?_) (fun cdv A outer s H vs Q E hr h => ?_)
  · obtain ⟨a, c, N, lo, hi, rfl, _⟩ := h
    rfl
  obtain ⟨a, c, N, lo, hi, rfl, hS, hN, h1, h2, k⟩ := h
  refine ⟨_, PSs.nox (pss_one (ps_ret (pe_op op_add (pv 1) (pe_c C_law_pick (hr.mono (by decide)) (pa_cons (pv 0) (pa_cons (pe_op op_add (pe_callB (call_max2 rfl) (by rfl) W.n_max (by decide +kernel) (pa_cons (pe_op op_sub (pv 2) (pv 1)) (pa_cons pe_int pa_nil))) pe_int) pa_nil)))))), ?_⟩
  refine ⟨_, rfl, _, rfl, _, rfl, _, rfl, _, _, rfl, rfl, _, _, rfl, _, _, rfl, rfl, a, c, N, _, rfl, hS, hN, ?_, ?_, fun r H' r1 r2 S' B' => ⟨_, _, rfl, rfl, k _ _ ?_ ?_ S' B'⟩⟩
  · split <;> omega
  · split <;> omega
  · omega
  · split at r2 <;> omega
theorem c_law_between (W : Wld K mg) : Cal P w K mg base 3 "_law_between" ["state", "low", "high"] spBetween := by
  obtain ⟨fd, F⟩ := W.c.def_ 2 rfl
  exact ⟨⟨fd, ok_between W F, F.bindsN fun _ _ _ _ _ _ us hl => match us, hl with | [_, _, _], _ => rfl⟩, W.g_law_between, F.kp⟩
/-! ### start -/
def spStart (K : PySem.W.Frag) : Sp := fun vs H Q _ => ∃ (s : Addr) (ns : List Int), vs = [.ref s] ∧ SqL K H s (ns.map V.int) ∧ ns.length ≤ 63 ∧ ∀ a c H', StAt H' a c 0 → Ex H H' → H a = none → H c = none → Q (.ref a) H'
theorem sc_law_start : FnScope ["script"] ["script"] (defScope s_law_start) := ⟨rfl, rfl, rfl, by decide +kernel, rfl, by decide +kernel, by decide +kernel⟩
theorem ok_start (W : Wld K mg) (F : FnP K "_law_start" s_law_start f fd) : FnOk P w K mg base CX0 1 f fd ["script"] (spStart K) := by
  refine F.ok sc_law_start (fun vs H Q E h => ?_) (fun cdv A outer s H vs Q E hr h => ?_)
  · obtain ⟨a, ns, rfl, _⟩ := h
    rfl
  obtain ⟨a, ns, rfl, hS, hl, k⟩ := h
  refine ⟨_, PSs.nox (pss_one (ps_ret (pe_lst (pa_cons (pe_callTy call_list_of (by rfl) W.n_list (by decide +kernel) (pa_cons (pv 0) pa_nil)) (pa_cons pe_int (pa_cons pe_int (pa_cons pe_int pa_nil))))))), ?_⟩
  refine ⟨_, rfl, a, _, rfl, .inl hS, fun c hc => ⟨(by show 4 ≤ sizeLine; decide), fun b hb => ?_⟩⟩
  have nbc : b ≠ c := fun z => by
    rw [z, upd_same] at hb
    cases hb
  refine k b c _ ⟨ns, 0, 0, 29, upd_same, by rw [upd_ne nbc.symm, upd_same], hl, by decide, by decide, by decide, by decide, by decide⟩ (((Ex.refl H).new hc).new hb) ?_ hc
  rw [upd_ne nbc] at hb
  exact hb
theorem c_law_start (W : Wld K mg) : Cal P w K mg base 1 "_law_start" ["script"] (spStart K) := by
  obtain ⟨fd, F⟩ := W.c.def_ 0 rfl
  exact ⟨⟨fd, ok_start W F, F.bindsN fun _ _ _ _ _ _ us hl => match us, hl with | [_], _ => rfl⟩, W.g_law_start, F.kp⟩
end
end K89

set_option Elab.async false
set_option linter.all false
set_option maxRecDepth 100000
set_option maxHeartbeats 4000000
namespace K89
open PySem PySem.Spec PyProof.Rows L2 DL
/-! ### what is drawn -/
/-- a drawn object; m: how often it has been changed at most -/
inductive Thing (H : Hp) (m : Nat) : V → Prop where
  | int (i : Int) : Thing H m (.int i)
  | str (x : Str) : Thing H m (.str x)
  | non : Thing H m .non
  | bl (b : Bool) : Thing H m (.bl b)
  | tup {p : Addr} {k : Int} (h : H p = some (.tup [.int 1, .int k])) : Thing H m (.ref p)
  | lst {p q : Addr} {n : Int} {j : Nat} (h : H p = some (.lst (.int n :: .ref q :: List.replicate j (.str "more")))) (h2 : H q = some (.lst [.int 1])) (hj : j ≤ m) : Thing H m (.ref p)
  | dic {p : Addr} {n : Int} {kvs : List (Key × V)} (h : H p = some (.dK kvs)) (hk : kvs = [(Sum.inr ("a" : Str), V.int n)] ∨ kvs = [(Sum.inr ("a" : Str), V.int n), (Sum.inr ("more" : Str), V.int 1)]) : Thing H m (.ref p)
theorem StAt.more {H : Hp} {a c : Addr} {N M : Nat} (h : StAt H a c N) (hm : N ≤ M) : StAt H a c M := by
  obtain ⟨ns, cur, cnt, mix, h1, h2, h3, h4, h5, h6, h7, h8⟩ := h
  exact ⟨ns, cur, cnt, mix, h1, h2, h3, h4, h5, by omega, h7, h8⟩
theorem StAt.keep {H H' : Hp} {a c : Addr} {N : Nat} (h : StAt H a c N) (e : ∀ b o, H b = some o → (b = a ∨ b = c) → H' b = some o) : StAt H' a c N := by
  obtain ⟨ns, cur, cnt, mix, h1, h2, h3⟩ := h
  exact ⟨ns, cur, cnt, mix, e _ _ h1 (.inl rfl), e _ _ h2 (.inr rfl), h3⟩
theorem Thing.mono {H H' : Hp} {m : Nat} {v : V} (h : Thing H m v) (e : Ex H H') : Thing H' m v := by
  cases h with
  | int i => exact .int i
  | str x => exact .str x
  | non => exact .non
  | bl b => exact .bl b
  | tup h => exact .tup (e _ _ h)
  | lst h h2 hj => exact .lst (e _ _ h) (e _ _ h2) hj
  | dic h hk => exact .dic (e _ _ h) hk
theorem len99 : ∀ n : Nat, n < 99 → (Str.length ("w" : Str)) + (Str.length (Str.ofString (toString ((n : Nat) : Int)))) ≤ sizeLine := by
  rw [sizeLine_eq]
  decide +kernel
section
variable {P : Program} {w : World} {K : PySem.W.Frag} {mg : Str → Option Value} {base : Heap} {f : Addr} {fd : FuncData}
def spObject : Sp := fun vs H Q _ => ∃ (a c : Addr) (N : Nat), vs = [.ref a] ∧ StAt H a c N ∧ N < 549755813888 ∧
  ∀ v H', Thing H' 0 v → StAt H' a c (N + 9) → Bar a c H H' → Q v H'
theorem sc_law_object : FnScope ["state", "some", "kind"] ["state"] (defScope s_law_object) := ⟨rfl, rfl, rfl, by decide +kernel, rfl, by decide +kernel, by decide +kernel⟩
theorem ok_object (W : Wld K mg) (F : FnP K "_law_object" s_law_object f fd) : FnOk P w K mg base CX0 4 f fd ["state"] spObject := by
  have C_law_pick : Cal P w K mg base 2 "_law_pick" ["state", "many"] spPick := c_law_pick W
  have C_law_between : Cal P w K mg base 3 "_law_between" ["state", "low", "high"] spBetween := c_law_between W
  refine F.ok sc_law_object (fun vs H Q E h => ?_) (fun cdv A outer s H vs Q E hr h => ?_)
  · obtain ⟨a, c, N, rfl, _⟩ := h
    rfl
  obtain ⟨a, c, N, rfl, hS, hN, k⟩ := h
  refine ⟨_, PSs.nox (pss_cons (ps_set (i := 1) sc_law_object.nd rfl (.inl rfl) (pe_lst (pa_cons (pe_c C_law_between (hr.mono (by decide)) (pa_cons (pv 0) (pa_cons (pe_un un_neg pe_int) (pa_cons pe_int pa_nil)))) (pa_cons (pe_op op_add_str pe_str (pe_callTy call_str_int (by rfl) W.n_str (by decide +kernel) (pa_cons (pe_c C_law_pick (hr.mono (by decide)) (pa_cons (pv 0) (pa_cons pe_int pa_nil))) pa_nil))) (pa_cons pe_non (pa_cons (pe_cmpR op_eq (pe_c C_law_pick (hr.mono (by decide)) (pa_cons (pv 0) (pa_cons pe_int pa_nil))) pe_int (nomark _)) (pa_cons (pe_tup (pa_cons pe_int (pa_cons (pe_c C_law_pick (hr.mono (by decide)) (pa_cons (pv 0) (pa_cons pe_int pa_nil))) pa_nil))) pa_nil)))))))
    (pss_cons (ps_set (i := 2) sc_law_object.nd rfl (.inl rfl) (pe_c C_law_pick (hr.mono (by decide)) (pa_cons (pv 0) (pa_cons pe_int pa_nil))))
    (pss_cons (ps_if (pt_cmpR op_lt (pv 2) pe_int (nomark _))
    (pss_one (ps_ret (pe_ix ix_list (pv 1) (pv 2) (fun _ _ => rfl))))
    pss_nil)
    (pss_one (ps_ret (pe_ifExp (pt_cmpR op_eq (pv 2) pe_int (nomark _)) (pe_lst (pa_cons (pe_c C_law_pick (hr.mono (by decide)) (pa_cons (pv 0) (pa_cons pe_int pa_nil))) (pa_cons (pe_lst (pa_cons pe_int pa_nil)) pa_nil))) (pe_disp (pps_cons pe_str (pe_c C_law_pick (hr.mono (by decide)) (pa_cons (pv 0) (pa_cons pe_int pa_nil))) pps_nil) (by rfl) (by rfl) (fun z => by cases z) (by decide)))))))), ?_⟩
  have st_new : ∀ {H' : Hp} {M : Nat} {p : Addr} {o : HO}, StAt H' a c M → H' p = none → StAt (upd H' p o) a c M := fun {H' M p o} h hp => h.keep fun b u q _ => by
    rw [upd_ne (ne_of_none q hp)]
    exact q
  refine ⟨_, rfl, _, rfl, a, c, N, -9, 9, rfl, hS, by omega, by decide, by decide, fun r1 H1 _ _ S1 B1 => ?_⟩
  refine ⟨_, rfl, a, c, N + 1, 99, rfl, S1, by omega, by decide, by decide, fun r2 H2 p1 p2 S2 B2 => ⟨r2, rfl, ?_, _, _, rfl, rfl, ?_, ?_⟩⟩
  · have h : r2.natAbs < 2 ^ 1000 := by
      have : r2.natAbs < 99 := by omega
      exact Nat.lt_trans this (by decide)
    by_cases z : r2.natAbs = 0
    · rw [z]
      decide
    · have := (Nat.log2_lt z).mpr h
      omega
  · obtain ⟨n, rfl⟩ := Int.eq_ofNat_of_zero_le p1
    exact len99 n (by omega)
  refine ⟨_, rfl, a, c, N + 2, 2, rfl, S2, by omega, by decide, by decide, fun r3 H3 _ _ S3 B3 => ⟨rfl, ?_⟩⟩
  refine ⟨_, rfl, a, c, N + 3, 9, rfl, S3, by omega, by decide, by decide, fun r4 H4 _ _ S4 B4 => ⟨(by show 2 ≤ sizeLine; decide), fun p hp => ⟨(by show 5 ≤ sizeLine; decide), fun l hl => ?_⟩⟩⟩
  have npl : p ≠ l := fun z => by
    rw [← z, upd_same] at hl
    cases hl
  have S5 := st_new (o := .tup [.int 1, .int r4]) S4 hp
  have S6 := st_new (o := .lst [.int r1, .str ("w" ++ (toString r2 : Str)), .non, .bl (decide (V.int r3 = V.int 0)), .ref p]) S5 hl
  have B6 := ((B1.trans B2).trans (B3.trans B4))
  have B7 := (B6.new (o := .tup [.int 1, .int r4]) hp).new (o := .lst [.int r1, .str ("w" ++ (toString r2 : Str)), .non, .bl (decide (V.int r3 = V.int 0)), .ref p]) hl
  have hp6 : upd (upd H4 p (.tup [.int 1, .int r4])) l (.lst [.int r1, .str ("w" ++ (toString r2 : Str)), .non, .bl (decide (V.int r3 = V.int 0)), .ref p]) p = some (.tup [.int 1, .int r4]) := by
    rw [upd_ne npl, upd_same]
  have hl6 : upd (upd H4 p (.tup [.int 1, .int r4])) l (.lst [.int r1, .str ("w" ++ (toString r2 : Str)), .non, .bl (decide (V.int r3 = V.int 0)), .ref p]) l = some (.lst [.int r1, .str ("w" ++ (toString r2 : Str)), .non, .bl (decide (V.int r3 = V.int 0)), .ref p]) := upd_same
  refine ⟨_, rfl, a, c, N + 4, 7, rfl, S6, by omega, by decide, by decide, fun r5 H5 q1 q2 S7 B8 => ?_⟩
  have np : p ≠ a ∧ p ≠ c := by
    obtain ⟨ns, cur, cnt, mix, h1, h2, _⟩ := S6
    exact ⟨ne_of hp6 h1 (by intro z; cases z), ne_of hp6 h2 (by intro z; cases z)⟩
  have nl : l ≠ a ∧ l ≠ c := by
    obtain ⟨ns, cur, cnt, mix, h1, h2, _⟩ := S6
    refine ⟨ne_of hl6 h1 (by intro z; cases z), ne_of hl6 h2 fun z => ?_⟩
    have z2 := HO.lst.inj z
    match ns, z2 with
    | [_, _, _, _, _], z2 => cases z2
  have hp7 := B8 p _ np.1 np.2 hp6
  have hl7 := B8 l _ nl.1 nl.2 hl6
  have B9 := B7.trans B8
  refine ⟨_, rfl, _, _, rfl, rfl, _, rfl, ?_⟩
  refine ite2 (fun e => ?_) (fun e => ?_)
  · have e5 : r5 < 5 := of_decide_eq_true e
    have S8 := S7.more (M := N + 9) (by omega)
    have hv : ∀ v, atI [V.int r1, .str ("w" ++ (toString r2 : Str)), .non, .bl (decide (V.int r3 = V.int 0)), .ref p] r5 = some v → Q v H5 → tRet (tOp (rIxL K) (tVar 1) (tVar 2)) { nx := fun _ H' => Q .non H', rt := Q } [some (.ref a), some (.ref l), some (.int r5)] H5 := fun v ha q =>
      ⟨_, rfl, _, rfl, l, _, r5, v, rfl, rfl, SqL.of hl7, ha, q⟩
    have cs : r5 = 0 ∨ r5 = 1 ∨ r5 = 2 ∨ r5 = 3 ∨ r5 = 4 := by omega
    rcases cs with rfl | rfl | rfl | rfl | rfl
    · exact hv _ rfl (k _ _ (.int _) S8 B9)
    · exact hv _ rfl (k _ _ (.str _) S8 B9)
    · exact hv _ rfl (k _ _ .non S8 B9)
    · exact hv _ rfl (k _ _ (.bl _) S8 B9)
    · exact hv _ rfl (k _ _ (.tup hp7) S8 B9)
  · refine ⟨_, rfl, rfl, _, rfl, ?_⟩
    refine ite2 (fun e2 => ?_) (fun e2 => ?_)
    · refine ⟨_, rfl, a, c, N + 5, 9, rfl, S7, by omega, by decide, by decide, fun r6 H6 _ _ S8 B10 => ⟨(by show 1 ≤ sizeLine; decide), fun u hu => ⟨(by show 2 ≤ sizeLine; decide), fun v hv => ?_⟩⟩⟩
      have nuv : u ≠ v := fun z => by
        rw [← z, upd_same] at hv
        cases hv
      refine k _ _ (.lst (n := r6) (q := u) (j := 0) upd_same ?_ (Nat.le_refl 0)) ((st_new (st_new S8 hu) hv).more (by omega)) (((B9.trans B10).new hu).new hv)
      rw [upd_ne nuv, upd_same]
    · intro u hu
      have nu := S7
      refine ⟨_, rfl, a, c, N + 5, 9, rfl, st_new S7 hu, by omega, by decide, by decide, fun r6 H6 _ _ S8 B10 => ?_⟩
      have nua : u ≠ a ∧ u ≠ c := by
        obtain ⟨ns, cur, cnt, mix, h1, h2, _⟩ := S7
        exact ⟨(ne_of_none h1 hu).symm, (ne_of_none h2 hu).symm⟩
      have hu6 : H6 u = some (.dK []) := B10 u _ nua.1 nua.2 upd_same
      refine ⟨hu6, [(Sum.inr ("a" : Str), V.int r6)], rfl, (by show 1 ≤ 15; decide), ?_⟩
      refine k _ _ (.dic (n := r6) upd_same (.inl rfl)) ((S8.keep fun b o q z => ?_).more (by omega)) ?_
      · have : b ≠ u := by
          rcases z with z | z
          · rw [z]
            exact nua.1.symm
          · rw [z]
            exact nua.2.symm
        rw [upd_ne this]
        exact q
      · intro b o h1 h2 q
        have q5 := B9 b o h1 h2 q
        have nb : b ≠ u := ne_of_none q5 hu
        rw [upd_ne nb]
        exact B10 b o h1 h2 (by rw [upd_ne nb]; exact q5)
theorem c_law_object (W : Wld K mg) : Cal P w K mg base 4 "_law_object" ["state"] spObject := by
  obtain ⟨fd, F⟩ := W.c.def_ 11 rfl
  exact ⟨⟨fd, ok_object W F, F.bindsN fun _ _ _ _ _ _ us hl => match us, hl with | [_], _ => rfl⟩, W.g_law_object, F.kp⟩
end
end K89

set_option Elab.async false
set_option linter.all false
set_option maxRecDepth 100000
set_option maxHeartbeats 400000
namespace K89
open PySem PySem.Spec PyProof.Rows L2 DL
/-! ### classes by their names -/
def allN : List Str := (xs.map (·.1)) ++ ns
def mainsN : List Str := ["BadAnswer", "BadAnswerText", "BadAt", "BadBound", "BadChain", "BadGate", "BadGroup", "BadNet", "BadNetText", "BadOrder", "BadPlace", "BadRun", "BadWholeText", "BadWire", "DarkPanel"]
theorem mains_all : ∀ x ∈ mainsN, x ∈ allN := by decide +kernel
section
variable {K : PySem.W.Frag} {mg : Str → Option Value}
theorem Wld.ln (W : Wld K mg) {x : Str} (h : x ∈ allN) : XH.Ln K (He.ga K x) (He.ga K "PanelError") ∧ ExcC K (He.ga K x) := by
  obtain ⟨b1, b2⟩ := He.ba W.b
  obtain ⟨b3, _⟩ := He.ba b2
  rcases List.mem_append.mp h with h | h
  · obtain ⟨p, hp, rfl⟩ := List.mem_map.mp h
    obtain ⟨_, z⟩ := He.ba (List.all_eq_true.mp b1 p hp)
    obtain ⟨z2, z⟩ := He.ba z
    obtain ⟨_, z4⟩ := He.ba z
    exact ⟨XH.lnB_ok z4, XH.exB_ok z2⟩
  · obtain ⟨_, z⟩ := He.ba (List.all_eq_true.mp b3 x h)
    obtain ⟨z2, z⟩ := He.ba z
    obtain ⟨_, z4⟩ := He.ba z
    exact ⟨XH.lnB_ok z4, XH.exB_ok z2⟩
theorem nodup_inj {α β : Type} {g : α → β} : ∀ {l : List α}, (l.map g).Nodup → ∀ x ∈ l, ∀ y ∈ l, g x = g y → x = y
  | [], _, x, hx, _, _, _ => by cases hx
  | a :: r, h, x, hx, y, hy, e => by
    rw [List.map_cons, List.nodup_cons] at h
    rcases List.mem_cons.mp hx with rfl | hx2
    · rcases List.mem_cons.mp hy with rfl | hy2
      · rfl
      · exact absurd (List.mem_map.mpr ⟨y, hy2, e.symm⟩) h.1
    · rcases List.mem_cons.mp hy with rfl | hy2
      · exact absurd (List.mem_map.mpr ⟨x, hx2, e⟩) h.1
      · exact nodup_inj h.2 x hx2 y hy2 e
theorem Wld.inj (W : Wld K mg) {x y : Str} (hx : x ∈ allN) (hy : y ∈ allN) (e : He.ga K x = He.ga K y) : x = y := by
  have z := W.nd
  have e2 : (xs.map fun p => He.ga K p.1) ++ ns.map (fun x => He.ga K x) = allN.map fun x => He.ga K x := by
    rw [allN, List.map_append, List.map_map]
    rfl
  rw [e2] at z
  exact nodup_inj z x hx y hy e
/-- isinstance: the class asked for is the error's own, or the base of all -/
theorem Wld.dec (W : Wld K mg) {x y : Str} (hx : x ∈ allN) (hy : y ∈ allN) (hP : y ≠ "PanelError") : (decide (He.ga K y = He.ga K x) || decide (He.ga K y = He.ga K "PanelError")) = decide (y = x) := by
  have hp : ("PanelError" : Str) ∈ allN := by decide +kernel
  have e1 : decide (He.ga K y = He.ga K "PanelError") = false := decide_eq_false fun z => hP (W.inj hy hp z)
  rw [e1, Bool.or_false]
  by_cases h : y = x
  · rw [h]
    simp
  · rw [decide_eq_false h, decide_eq_false fun z => h (W.inj hy hx z)]
end
/-- which of the fifteen an error of the class x is -/
def kindsOf (x : Str) (n : Nat) : List Nat := (List.range n).filter fun k => decide (mainsN[k]? = some x)
section
variable {P : Program} {w : World} {K : PySem.W.Frag} {mg : Str → Option Value} {base : Heap} {f : Addr} {fd : FuncData}
def spKinds (K : PySem.W.Frag) : Sp := fun vs H Q _ => ∃ (e : Addr) (x : Str), vs = [.ref e] ∧ x ∈ allN ∧ Exd H e (He.ga K x) ∧ ∀ p H', Ex H H' → H p = none → H' p = some (.lst ((kindsOf x 15).map fun k => V.int ((k : Nat) : Int))) → Q (.ref p) H'
theorem sc_law_kinds_of : FnScope ["e", "told", "k"] ["e"] (defScope s_law_kinds_of) := ⟨rfl, rfl, rfl, by decide +kernel, rfl, by decide +kernel, by decide +kernel⟩
theorem ok_kinds (W : Wld K mg) (F : FnP K "_law_kinds_of" s_law_kinds_of f fd) : FnOk P w K mg base CX0 1 f fd ["e"] (spKinds K) := by
  refine F.ok sc_law_kinds_of (fun vs H Q E h => ?_) (fun cdv A outer s H vs Q E hr h => ?_)
  · obtain ⟨e, x, rfl, _⟩ := h
    rfl
  obtain ⟨e, x, rfl, hx, he, k⟩ := h
  obtain ⟨hl, hc⟩ := W.ln hx
  have hD : ∀ D ∈ mainsN.map fun y => He.ga K y, XH.Ln K D (He.ga K "PanelError") := fun D h => by
    obtain ⟨y, hy, rfl⟩ := List.mem_map.mp h
    exact (W.ln (mains_all y hy)).1
  refine ⟨_, PSs.nox (pss_cons (ps_set (i := 1) sc_law_kinds_of.nd rfl (.inr rfl) (pe_lst (show PA _ _ (XL.iss K 0 [He.ga K "BadAnswer", He.ga K "BadAnswerText", He.ga K "BadAt", He.ga K "BadBound", He.ga K "BadChain"]) from (pa_cons (pe_callB call_isX (by rfl) W.n_isinstance (by decide +kernel) (pa_cons (pv 0) (pa_cons (pe_glob (v := .ref (He.ga K "BadAnswer")) (by rfl) W.g_BadAnswer rfl) pa_nil))) (pa_cons (pe_callB call_isX (by rfl) W.n_isinstance (by decide +kernel) (pa_cons (pv 0) (pa_cons (pe_glob (v := .ref (He.ga K "BadAnswerText")) (by rfl) W.g_BadAnswerText rfl) pa_nil))) (pa_cons (pe_callB call_isX (by rfl) W.n_isinstance (by decide +kernel) (pa_cons (pv 0) (pa_cons (pe_glob (v := .ref (He.ga K "BadAt")) (by rfl) W.g_BadAt rfl) pa_nil))) (pa_cons (pe_callB call_isX (by rfl) W.n_isinstance (by decide +kernel) (pa_cons (pv 0) (pa_cons (pe_glob (v := .ref (He.ga K "BadBound")) (by rfl) W.g_BadBound rfl) pa_nil))) (pa_cons (pe_callB call_isX (by rfl) W.n_isinstance (by decide +kernel) (pa_cons (pv 0) (pa_cons (pe_glob (v := .ref (He.ga K "BadChain")) (by rfl) W.g_BadChain rfl) pa_nil))) pa_nil))))))))
    (pss_cons (ps_expr (pe_bm PySem.F.plainAttrs_list PySem.F.slot_list_extend PySem.F.type_list_extend mt_extend (pv 1) (pa_cons (pe_lst (show PA _ _ (XL.iss K 0 [He.ga K "BadGate", He.ga K "BadGroup", He.ga K "BadNet", He.ga K "BadNetText", He.ga K "BadOrder"]) from (pa_cons (pe_callB call_isX (by rfl) W.n_isinstance (by decide +kernel) (pa_cons (pv 0) (pa_cons (pe_glob (v := .ref (He.ga K "BadGate")) (by rfl) W.g_BadGate rfl) pa_nil))) (pa_cons (pe_callB call_isX (by rfl) W.n_isinstance (by decide +kernel) (pa_cons (pv 0) (pa_cons (pe_glob (v := .ref (He.ga K "BadGroup")) (by rfl) W.g_BadGroup rfl) pa_nil))) (pa_cons (pe_callB call_isX (by rfl) W.n_isinstance (by decide +kernel) (pa_cons (pv 0) (pa_cons (pe_glob (v := .ref (He.ga K "BadNet")) (by rfl) W.g_BadNet rfl) pa_nil))) (pa_cons (pe_callB call_isX (by rfl) W.n_isinstance (by decide +kernel) (pa_cons (pv 0) (pa_cons (pe_glob (v := .ref (He.ga K "BadNetText")) (by rfl) W.g_BadNetText rfl) pa_nil))) (pa_cons (pe_callB call_isX (by rfl) W.n_isinstance (by decide +kernel) (pa_cons (pv 0) (pa_cons (pe_glob (v := .ref (He.ga K "BadOrder")) (by rfl) W.g_BadOrder rfl) pa_nil))) pa_nil))))))) pa_nil)))
    (pss_cons (ps_expr (pe_bm PySem.F.plainAttrs_list PySem.F.slot_list_extend PySem.F.type_list_extend mt_extend (pv 1) (pa_cons (pe_lst (show PA _ _ (XL.iss K 0 [He.ga K "BadPlace", He.ga K "BadRun", He.ga K "BadWholeText", He.ga K "BadWire", He.ga K "DarkPanel"]) from (pa_cons (pe_callB call_isX (by rfl) W.n_isinstance (by decide +kernel) (pa_cons (pv 0) (pa_cons (pe_glob (v := .ref (He.ga K "BadPlace")) (by rfl) W.g_BadPlace rfl) pa_nil))) (pa_cons (pe_callB call_isX (by rfl) W.n_isinstance (by decide +kernel) (pa_cons (pv 0) (pa_cons (pe_glob (v := .ref (He.ga K "BadRun")) (by rfl) W.g_BadRun rfl) pa_nil))) (pa_cons (pe_callB call_isX (by rfl) W.n_isinstance (by decide +kernel) (pa_cons (pv 0) (pa_cons (pe_glob (v := .ref (He.ga K "BadWholeText")) (by rfl) W.g_BadWholeText rfl) pa_nil))) (pa_cons (pe_callB call_isX (by rfl) W.n_isinstance (by decide +kernel) (pa_cons (pv 0) (pa_cons (pe_glob (v := .ref (He.ga K "BadWire")) (by rfl) W.g_BadWire rfl) pa_nil))) (pa_cons (pe_callB call_isX (by rfl) W.n_isinstance (by decide +kernel) (pa_cons (pv 0) (pa_cons (pe_glob (v := .ref (He.ga K "DarkPanel")) (by rfl) W.g_DarkPanel rfl) pa_nil))) pa_nil))))))) pa_nil)))
    (pss_one (ps_ret (pe_lc (own := [("k", 2)]) (g := gName 2) (tt := (DL.tTr K (tOp (rIxL K) (tVar 1) (tVar 2)))) (te := (tVar 2)) rfl sc_law_kinds_of.nd (pi_range1 (by rfl) W.n_range (pa_cons pe_int pa_nil)) (blkOk_by (N := ["e", "told", "k"]) (sc := defScope s_law_kinds_of) (by decide +kernel)) (fun _ _ _ _ _ => pg_name (i := 2) sc_law_kinds_of.nd rfl (Or.inl rfl)) (fun _ _ _ _ _ => pts_one (pt_truth (pe_ix ix_list (pv 1) (pv 2) (fun _ _ => rfl)) (by intro _; rfl))) (fun _ _ _ _ _ => (pv 2)))))))), ?_⟩
  have hg : ∀ l : List Str, (∀ y ∈ l, y ∈ mainsN) → ∀ D ∈ l.map (fun y => He.ga K y), XH.Ln K D (He.ga K "PanelError") := fun l h D hd => by
    obtain ⟨y, hy, rfl⟩ := List.mem_map.mp hd
    exact hD _ (List.mem_map.mpr ⟨y, h y hy, rfl⟩)
  refine XL.p_iss rfl hc hl he (hg (mainsN.take 5) (by decide +kernel)) (by show 5 ≤ 100; decide) fun p hp => ?_
  have he1 := XL.exd_mono ((Ex.refl H).new (o := .lst (((mainsN.take 5).map fun y => He.ga K y).map fun D => V.bl (decide (D = He.ga K x) || decide (D = He.ga K "PanelError")))) hp) he
  have ex1 : Ex H (upd H p (.lst (((mainsN.take 5).map fun y => He.ga K y).map fun D => V.bl (decide (D = He.ga K x) || decide (D = He.ga K "PanelError"))))) := (Ex.refl H).new hp
  refine XL.p_issE upd_same rfl rfl hc hl he1 (hg ((mainsN.drop 5).take 5) (by decide +kernel)) (by show 5 ≤ 100; decide) (by show 5 ≤ 1000; decide) fun H2 k2 h2 => ?_
  have ex2 : Ex H H2 := fun b o q => k2 b o (ne_of_none q hp) (ex1 b o q)
  refine XL.p_issE h2 rfl rfl hc hl (XL.exd_mono ex2 he) (hg (mainsN.drop 10) (by decide +kernel)) (by show 5 ≤ 100; decide) (by show 10 ≤ 1000; decide) fun H3 k3 h3 => ?_
  have ex3 : Ex H H3 := fun b o q => k3 b o (ne_of_none q hp) (ex2 b o q)
  have told : H3 p = some (.lst ((List.range 15).map fun k => V.bl (decide (mainsN[k]? = some x)))) := by
    have e : ∀ y ∈ mainsN, V.bl (decide (He.ga K y = He.ga K x) || decide (He.ga K y = He.ga K "PanelError")) = V.bl (decide (some y = some x)) := fun y hy => by
      rw [W.dec hx (mains_all y hy) (fun z => by rw [z] at hy; exact absurd hy (by decide +kernel))]
      simp
    have e2 : H3 p = some (.lst (mainsN.map fun y => V.bl (decide (He.ga K y = He.ga K x) || decide (He.ga K y = He.ga K "PanelError")))) := h3
    rw [e2, List.map_congr_left e]
    rfl
  refine ⟨15, rfl, by decide, by decide, fun D hD => ?_⟩
  refine lc_range (lo := 0) (n := (15 : Int).toNat) (fun i H' => Ex H3 H' ∧ H' D = some (.lst ((kindsOf x i).map fun k => V.int ((k : Nat) : Int)))) ⟨(Ex.refl H3).new hD, upd_same⟩ ?_ ?_
  · rintro i H4 hi ⟨e4, hD4⟩
    have hi2 : i < 15 := hi
    have tg : ((List.range 15).map fun k => V.bl (decide (mainsN[k]? = some x)))[i]? = some (V.bl (decide (mainsN[i]? = some x))) := by
      rw [List.getElem?_map, List.getElem?_range hi2]
      rfl
    refine ⟨rfl, ?_⟩
    refine ⟨_, rfl, _, rfl, p, _, 0 + ((i : Nat) : Int), .bl (decide (mainsN[i]? = some x)), rfl, rfl, SqL.of (e4 _ _ told), (by rw [Int.zero_add]; exact atI_nat tg), _, rfl, ?_⟩
    have step : kindsOf x (i + 1) = kindsOf x i ++ (if decide (mainsN[i]? = some x) = true then [i] else []) := by
      unfold kindsOf
      rw [List.range_succ, List.filter_append]
      by_cases z : decide (mainsN[i]? = some x) = true
      · rw [if_pos z, List.filter_cons, if_pos z]
        rfl
      · rw [if_neg z, List.filter_cons, if_neg z]
        rfl
    refine ite2 (fun z => ?_) (fun z => ?_)
    · refine ⟨_, rfl, _, hD4, ?_, fun b o q => ?_, ?_⟩
      · rw [List.length_map, sizeLine_eq]
        have : (kindsOf x i).length ≤ i := by
          unfold kindsOf
          exact Nat.le_trans (List.length_filter_le _ _) (by simp)
        omega
      · rw [upd_ne (ne_of_none q hD)]
        exact e4 b o q
      · rw [upd_same, step, if_pos z]
        simp
    · refine ⟨e4, ?_⟩
      rw [step, if_neg z, List.append_nil]
      exact hD4
  · rintro H4 ⟨e4, hD4⟩
    exact k D H4 (ex3.trans e4) (ex3.free hD) hD4
theorem c_law_kinds_of (W : Wld K mg) : Cal P w K mg base 1 "_law_kinds_of" ["e"] (spKinds K) := by
  obtain ⟨fd, F⟩ := W.c.def_ 4 rfl
  exact ⟨⟨fd, ok_kinds W F, F.bindsN fun _ _ _ _ _ _ us hl => match us, hl with | [_], _ => rfl⟩, W.g_law_kinds_of, F.kp⟩
end
end K89

set_option Elab.async false
set_option linter.all false
set_option maxRecDepth 100000
set_option maxHeartbeats 400000
namespace K89
open PySem PySem.Spec PyProof.Rows L2 DL
section
variable {P : Program} {w : World} {K : PySem.W.Frag} {mg : Str → Option Value} {base : Heap} {f : Addr} {fd : FuncData}
/-! ### the classes of the other files -/
def spIsOther (K : PySem.W.Frag) : Sp := fun vs H Q _ => ∃ (e : Addr) (x : Str), vs = [.ref e] ∧ x ∈ mainsN ∧ Exd H e (He.ga K x) ∧ ∀ H', Ex H H' → Q (.bl false) H'
theorem sc_law_is_other : FnScope ["e", "told"] ["e"] (defScope s_law_is_other) := ⟨rfl, rfl, rfl, by decide +kernel, rfl, by decide +kernel, by decide +kernel⟩
theorem any_no (W : Wld K mg) {x : Str} (hx : x ∈ mainsN) {l : List Str} (hl : (l.all fun y => decide (y ∈ allN) && (decide (y ≠ "PanelError") && decide (y ∉ mainsN))) = true) : ((l.map fun y => He.ga K y).any fun D => decide (D = He.ga K x) || decide (D = He.ga K "PanelError")) = false := by
  rw [List.any_map]
  refine List.any_eq_false.mpr fun y hy => ?_
  obtain ⟨z1, z⟩ := He.ba (List.all_eq_true.mp hl y hy)
  obtain ⟨z2, z3⟩ := He.ba z
  have d := W.dec (mains_all x hx) (of_decide_eq_true z1) (of_decide_eq_true z2)
  show ¬ (decide (He.ga K y = He.ga K x) || decide (He.ga K y = He.ga K "PanelError")) = true
  rw [d]
  intro q
  have e := of_decide_eq_true q
  rw [e] at z3
  exact of_decide_eq_true z3 hx
theorem ln_all (W : Wld K mg) {l : List Str} (hl : (l.all fun y => decide (y ∈ allN) && (decide (y ≠ "PanelError") && decide (y ∉ mainsN))) = true) : ∀ D ∈ l.map (fun y => He.ga K y), XH.Ln K D (He.ga K "PanelError") := fun D hd => by
  obtain ⟨y, hy, rfl⟩ := List.mem_map.mp hd
  obtain ⟨z1, z⟩ := He.ba (List.all_eq_true.mp hl y hy)
  exact (W.ln (of_decide_eq_true z1)).1
def og0 : List Str := ["BadBegin", "BadDark", "BadDesk", "BadDeskText", "BadDrop", "BadEdit", "BadEnd", "BadFlips", "BadFormula", "BadLamp", "BadLit"]
theorem og0_ok : (og0.all fun y => decide (y ∈ allN) && (decide (y ≠ "PanelError") && decide (y ∉ mainsN))) = true := by decide +kernel
def og1 : List Str := ["BadPanels", "BadPrices", "BadShare", "BadShared", "BadSums", "BadWires", "BadWishes", "DarkPanels", "NothingToRedo", "NothingToUndo"]
theorem og1_ok : (og1.all fun y => decide (y ∈ allN) && (decide (y ≠ "PanelError") && decide (y ∉ mainsN))) = true := by decide +kernel
def og2 : List Str := ["BadCode", "BadLamps", "BadLog", "BadLogText", "BadMachine", "BadMachineText", "BadMove", "BadMoves", "BadName", "BadNets", "BadRuns", "BadStates", "BadWalk"]
theorem og2_ok : (og2.all fun y => decide (y ∈ allN) && (decide (y ≠ "PanelError") && decide (y ∉ mainsN))) = true := by decide +kernel
def og3 : List Str := ["BadBursts", "BadCell", "BadClash", "BadCube", "BadCubes", "BadIndex", "BadLevers", "BadMany", "BadNumber", "BadOff"]
theorem og3_ok : (og3.all fun y => decide (y ∈ allN) && (decide (y ≠ "PanelError") && decide (y ∉ mainsN))) = true := by decide +kernel
def og4 : List Str := ["BadOn", "BadOther", "BadPanel", "BadPanelText", "BadPath", "BadSign", "BadStep", "BadSteps", "BadTable"]
theorem og4_ok : (og4.all fun y => decide (y ∈ allN) && (decide (y ≠ "PanelError") && decide (y ∉ mainsN))) = true := by decide +kernel
theorem ok_is_other (W : Wld K mg) (F : FnP K "_law_is_other" s_law_is_other f fd) : FnOk P w K mg base CX0 1 f fd ["e"] (spIsOther K) := by
  refine F.ok sc_law_is_other (fun vs H Q E h => ?_) (fun cdv A outer s H vs Q E hr h => ?_)
  · obtain ⟨e, x, rfl, _⟩ := h
    rfl
  obtain ⟨e, x, rfl, hx, he, k⟩ := h
  obtain ⟨hl, hc⟩ := W.ln (mains_all x hx)
  refine ⟨_, PSs.nox (pss_cons (ps_set (i := 1) sc_law_is_other.nd rfl (.inl rfl) (pe_lst (pa_cons (pe_callB call_isXT (by rfl) W.n_isinstance (by decide +kernel) (pa_cons (pv 0) (pa_cons (pe_tup (show PA _ _ (XL.cls [He.ga K "BadBegin", He.ga K "BadDark", He.ga K "BadDesk", He.ga K "BadDeskText", He.ga K "BadDrop", He.ga K "BadEdit", He.ga K "BadEnd", He.ga K "BadFlips", He.ga K "BadFormula", He.ga K "BadLamp", He.ga K "BadLit"]) from (pa_cons (pe_glob (v := .ref (He.ga K "BadBegin")) (by rfl) W.g_BadBegin rfl) (pa_cons (pe_glob (v := .ref (He.ga K "BadDark")) (by rfl) W.g_BadDark rfl) (pa_cons (pe_glob (v := .ref (He.ga K "BadDesk")) (by rfl) W.g_BadDesk rfl) (pa_cons (pe_glob (v := .ref (He.ga K "BadDeskText")) (by rfl) W.g_BadDeskText rfl) (pa_cons (pe_glob (v := .ref (He.ga K "BadDrop")) (by rfl) W.g_BadDrop rfl) (pa_cons (pe_glob (v := .ref (He.ga K "BadEdit")) (by rfl) W.g_BadEdit rfl) (pa_cons (pe_glob (v := .ref (He.ga K "BadEnd")) (by rfl) W.g_BadEnd rfl) (pa_cons (pe_glob (v := .ref (He.ga K "BadFlips")) (by rfl) W.g_BadFlips rfl) (pa_cons (pe_glob (v := .ref (He.ga K "BadFormula")) (by rfl) W.g_BadFormula rfl) (pa_cons (pe_glob (v := .ref (He.ga K "BadLamp")) (by rfl) W.g_BadLamp rfl) (pa_cons (pe_glob (v := .ref (He.ga K "BadLit")) (by rfl) W.g_BadLit rfl) pa_nil))))))))))))) pa_nil))) pa_nil)))
    (pss_cons (ps_expr (pe_bm PySem.F.plainAttrs_list PySem.F.slot_list_append PySem.F.type_list_append mt_append (pv 1) (pa_cons (pe_callB call_isXT (by rfl) W.n_isinstance (by decide +kernel) (pa_cons (pv 0) (pa_cons (pe_tup (show PA _ _ (XL.cls [He.ga K "BadPanels", He.ga K "BadPrices", He.ga K "BadShare", He.ga K "BadShared", He.ga K "BadSums", He.ga K "BadWires", He.ga K "BadWishes", He.ga K "DarkPanels", He.ga K "NothingToRedo", He.ga K "NothingToUndo"]) from (pa_cons (pe_glob (v := .ref (He.ga K "BadPanels")) (by rfl) W.g_BadPanels rfl) (pa_cons (pe_glob (v := .ref (He.ga K "BadPrices")) (by rfl) W.g_BadPrices rfl) (pa_cons (pe_glob (v := .ref (He.ga K "BadShare")) (by rfl) W.g_BadShare rfl) (pa_cons (pe_glob (v := .ref (He.ga K "BadShared")) (by rfl) W.g_BadShared rfl) (pa_cons (pe_glob (v := .ref (He.ga K "BadSums")) (by rfl) W.g_BadSums rfl) (pa_cons (pe_glob (v := .ref (He.ga K "BadWires")) (by rfl) W.g_BadWires rfl) (pa_cons (pe_glob (v := .ref (He.ga K "BadWishes")) (by rfl) W.g_BadWishes rfl) (pa_cons (pe_glob (v := .ref (He.ga K "DarkPanels")) (by rfl) W.g_DarkPanels rfl) (pa_cons (pe_glob (v := .ref (He.ga K "NothingToRedo")) (by rfl) W.g_NothingToRedo rfl) (pa_cons (pe_glob (v := .ref (He.ga K "NothingToUndo")) (by rfl) W.g_NothingToUndo rfl) pa_nil)))))))))))) pa_nil))) pa_nil)))
    (pss_cons (ps_expr (pe_bm PySem.F.plainAttrs_list PySem.F.slot_list_append PySem.F.type_list_append mt_append (pv 1) (pa_cons (pe_callB call_isXT (by rfl) W.n_isinstance (by decide +kernel) (pa_cons (pv 0) (pa_cons (pe_tup (show PA _ _ (XL.cls [He.ga K "BadCode", He.ga K "BadLamps", He.ga K "BadLog", He.ga K "BadLogText", He.ga K "BadMachine", He.ga K "BadMachineText", He.ga K "BadMove", He.ga K "BadMoves", He.ga K "BadName", He.ga K "BadNets", He.ga K "BadRuns", He.ga K "BadStates", He.ga K "BadWalk"]) from (pa_cons (pe_glob (v := .ref (He.ga K "BadCode")) (by rfl) W.g_BadCode rfl) (pa_cons (pe_glob (v := .ref (He.ga K "BadLamps")) (by rfl) W.g_BadLamps rfl) (pa_cons (pe_glob (v := .ref (He.ga K "BadLog")) (by rfl) W.g_BadLog rfl) (pa_cons (pe_glob (v := .ref (He.ga K "BadLogText")) (by rfl) W.g_BadLogText rfl) (pa_cons (pe_glob (v := .ref (He.ga K "BadMachine")) (by rfl) W.g_BadMachine rfl) (pa_cons (pe_glob (v := .ref (He.ga K "BadMachineText")) (by rfl) W.g_BadMachineText rfl) (pa_cons (pe_glob (v := .ref (He.ga K "BadMove")) (by rfl) W.g_BadMove rfl) (pa_cons (pe_glob (v := .ref (He.ga K "BadMoves")) (by rfl) W.g_BadMoves rfl) (pa_cons (pe_glob (v := .ref (He.ga K "BadName")) (by rfl) W.g_BadName rfl) (pa_cons (pe_glob (v := .ref (He.ga K "BadNets")) (by rfl) W.g_BadNets rfl) (pa_cons (pe_glob (v := .ref (He.ga K "BadRuns")) (by rfl) W.g_BadRuns rfl) (pa_cons (pe_glob (v := .ref (He.ga K "BadStates")) (by rfl) W.g_BadStates rfl) (pa_cons (pe_glob (v := .ref (He.ga K "BadWalk")) (by rfl) W.g_BadWalk rfl) pa_nil))))))))))))))) pa_nil))) pa_nil)))
    (pss_cons (ps_expr (pe_bm PySem.F.plainAttrs_list PySem.F.slot_list_append PySem.F.type_list_append mt_append (pv 1) (pa_cons (pe_callB call_isXT (by rfl) W.n_isinstance (by decide +kernel) (pa_cons (pv 0) (pa_cons (pe_tup (show PA _ _ (XL.cls [He.ga K "BadBursts", He.ga K "BadCell", He.ga K "BadClash", He.ga K "BadCube", He.ga K "BadCubes", He.ga K "BadIndex", He.ga K "BadLevers", He.ga K "BadMany", He.ga K "BadNumber", He.ga K "BadOff"]) from (pa_cons (pe_glob (v := .ref (He.ga K "BadBursts")) (by rfl) W.g_BadBursts rfl) (pa_cons (pe_glob (v := .ref (He.ga K "BadCell")) (by rfl) W.g_BadCell rfl) (pa_cons (pe_glob (v := .ref (He.ga K "BadClash")) (by rfl) W.g_BadClash rfl) (pa_cons (pe_glob (v := .ref (He.ga K "BadCube")) (by rfl) W.g_BadCube rfl) (pa_cons (pe_glob (v := .ref (He.ga K "BadCubes")) (by rfl) W.g_BadCubes rfl) (pa_cons (pe_glob (v := .ref (He.ga K "BadIndex")) (by rfl) W.g_BadIndex rfl) (pa_cons (pe_glob (v := .ref (He.ga K "BadLevers")) (by rfl) W.g_BadLevers rfl) (pa_cons (pe_glob (v := .ref (He.ga K "BadMany")) (by rfl) W.g_BadMany rfl) (pa_cons (pe_glob (v := .ref (He.ga K "BadNumber")) (by rfl) W.g_BadNumber rfl) (pa_cons (pe_glob (v := .ref (He.ga K "BadOff")) (by rfl) W.g_BadOff rfl) pa_nil)))))))))))) pa_nil))) pa_nil)))
    (pss_cons (ps_expr (pe_bm PySem.F.plainAttrs_list PySem.F.slot_list_append PySem.F.type_list_append mt_append (pv 1) (pa_cons (pe_callB call_isXT (by rfl) W.n_isinstance (by decide +kernel) (pa_cons (pv 0) (pa_cons (pe_tup (show PA _ _ (XL.cls [He.ga K "BadOn", He.ga K "BadOther", He.ga K "BadPanel", He.ga K "BadPanelText", He.ga K "BadPath", He.ga K "BadSign", He.ga K "BadStep", He.ga K "BadSteps", He.ga K "BadTable"]) from (pa_cons (pe_glob (v := .ref (He.ga K "BadOn")) (by rfl) W.g_BadOn rfl) (pa_cons (pe_glob (v := .ref (He.ga K "BadOther")) (by rfl) W.g_BadOther rfl) (pa_cons (pe_glob (v := .ref (He.ga K "BadPanel")) (by rfl) W.g_BadPanel rfl) (pa_cons (pe_glob (v := .ref (He.ga K "BadPanelText")) (by rfl) W.g_BadPanelText rfl) (pa_cons (pe_glob (v := .ref (He.ga K "BadPath")) (by rfl) W.g_BadPath rfl) (pa_cons (pe_glob (v := .ref (He.ga K "BadSign")) (by rfl) W.g_BadSign rfl) (pa_cons (pe_glob (v := .ref (He.ga K "BadStep")) (by rfl) W.g_BadStep rfl) (pa_cons (pe_glob (v := .ref (He.ga K "BadSteps")) (by rfl) W.g_BadSteps rfl) (pa_cons (pe_glob (v := .ref (He.ga K "BadTable")) (by rfl) W.g_BadTable rfl) pa_nil))))))))))) pa_nil))) pa_nil)))
    (pss_one (ps_ret (pe_cmpR op_in_seq pe_bl (pv 1) (by rfl))))))))), ?_⟩
  have ln : ∀ l : List Str, l.length ≤ 100 → (l.map fun y => He.ga K y).length ≤ sizeLine := fun l h => by
    rw [List.length_map, sizeLine_eq]
    omega
  refine XL.rd_isXT rfl hc hl (og0.map fun y => He.ga K y) (ln _ (by decide)) he (ln_all W og0_ok) fun H1 e1 => ⟨(by show 1 ≤ sizeLine; decide), fun p hp => ?_⟩
  rw [any_no W hx og0_ok]
  have x1 : Ex H (upd H1 p (.lst [.bl false])) := e1.new hp
  have hp0 : H p = none := e1.free hp
  refine ⟨_, rfl, .inl ⟨rfl, _, SqL.of upd_same⟩, XL.rd_isXT rfl hc hl (og1.map fun y => He.ga K y) (ln _ (by decide)) (XL.exd_mono x1 he) (ln_all W og1_ok) fun K1 k1 => ⟨p, _, _, rfl, rfl, k1 _ _ upd_same, (by rw [sizeLine_eq]; show 1 < 16777216; decide), ?_⟩⟩
  rw [any_no W hx og1_ok]
  have x2 : Ex H (upd K1 p (.lst [.bl false, .bl false])) := fun b o q => by
    rw [upd_ne (ne_of_none q hp0)]
    exact k1 b o (x1 b o q)
  have h1 : upd K1 p (.lst [.bl false, .bl false]) p = some (.lst [.bl false, .bl false]) := upd_same
  refine ⟨_, rfl, .inl ⟨rfl, _, SqL.of h1⟩, XL.rd_isXT rfl hc hl (og2.map fun y => He.ga K y) (ln _ (by decide)) (XL.exd_mono x2 he) (ln_all W og2_ok) fun K2 k2 => ⟨p, _, _, rfl, rfl, k2 _ _ h1, (by rw [sizeLine_eq]; show 2 < 16777216; decide), ?_⟩⟩
  rw [any_no W hx og2_ok]
  have x3 : Ex H (upd K2 p (.lst [.bl false, .bl false, .bl false])) := fun b o q => by
    rw [upd_ne (ne_of_none q hp0)]
    exact k2 b o (x2 b o q)
  have h2 : upd K2 p (.lst [.bl false, .bl false, .bl false]) p = some (.lst [.bl false, .bl false, .bl false]) := upd_same
  refine ⟨_, rfl, .inl ⟨rfl, _, SqL.of h2⟩, XL.rd_isXT rfl hc hl (og3.map fun y => He.ga K y) (ln _ (by decide)) (XL.exd_mono x3 he) (ln_all W og3_ok) fun K3 k3 => ⟨p, _, _, rfl, rfl, k3 _ _ h2, (by rw [sizeLine_eq]; show 3 < 16777216; decide), ?_⟩⟩
  rw [any_no W hx og3_ok]
  have x4 : Ex H (upd K3 p (.lst [.bl false, .bl false, .bl false, .bl false])) := fun b o q => by
    rw [upd_ne (ne_of_none q hp0)]
    exact k3 b o (x3 b o q)
  have h3 : upd K3 p (.lst [.bl false, .bl false, .bl false, .bl false]) p = some (.lst [.bl false, .bl false, .bl false, .bl false]) := upd_same
  refine ⟨_, rfl, .inl ⟨rfl, _, SqL.of h3⟩, XL.rd_isXT rfl hc hl (og4.map fun y => He.ga K y) (ln _ (by decide)) (XL.exd_mono x4 he) (ln_all W og4_ok) fun K4 k4 => ⟨p, _, _, rfl, rfl, k4 _ _ h3, (by rw [sizeLine_eq]; show 4 < 16777216; decide), ?_⟩⟩
  rw [any_no W hx og4_ok]
  have x5 : Ex H (upd K4 p (.lst [.bl false, .bl false, .bl false, .bl false, .bl false])) := fun b o q => by
    rw [upd_ne (ne_of_none q hp0)]
    exact k4 b o (x4 b o q)
  have h4 : upd K4 p (.lst [.bl false, .bl false, .bl false, .bl false, .bl false]) p = some (.lst [.bl false, .bl false, .bl false, .bl false, .bl false]) := upd_same
  exact ⟨_, rfl, p, _, rfl, .inl (SqL.of h4), rfl, rfl, k _ x5⟩
theorem c_law_is_other (W : Wld K mg) : Cal P w K mg base 1 "_law_is_other" ["e"] (spIsOther K) := by
  obtain ⟨fd, F⟩ := W.c.def_ 6 rfl
  exact ⟨⟨fd, ok_is_other W F, F.bindsN fun _ _ _ _ _ _ us hl => match us, hl with | [_], _ => rfl⟩, W.g_law_is_other, F.kp⟩
end
end K89

set_option Elab.async false
set_option linter.all false
set_option maxRecDepth 100000
set_option maxHeartbeats 400000
namespace K89
open PySem PySem.Spec PyProof.Rows L2 DL
section
variable {P : Program} {w : World} {K : PySem.W.Frag} {mg : Str → Option Value} {base : Heap} {f : Addr} {fd : FuncData}
/-! ### an error of each class of the other files -/
def spOthers (K : PySem.W.Frag) : Sp := fun vs H Q _ => ∃ (x : V), vs = [x] ∧ ∀ p H' (es : List (Addr × Str)), Ex H H' → H p = none → H' p = some (.lst (es.map fun q => V.ref q.1)) → es.length ≤ 100 → (∀ q ∈ es, q.2 ∈ allN ∧ q.2 ∉ mainsN ∧ Exd H' q.1 (He.ga K q.2)) → Q (.ref p) H'
theorem sc_law_others : FnScope ["x", "told"] ["x"] (defScope s_law_others) := ⟨rfl, rfl, rfl, by decide +kernel, rfl, by decide +kernel, by decide +kernel⟩
def hg0 : List (Str × Str) := [("BadBegin", "begin"), ("BadDark", "index"), ("BadDesk", "desk"), ("BadDeskText", "line"), ("BadDrop", "drop"), ("BadEdit", "edit"), ("BadEnd", "end")]
def hg1 : List (Str × Str) := [("BadFlips", "flips"), ("BadFormula", "formula"), ("BadLamp", "lamp"), ("BadLit", "index"), ("BadPanels", "index"), ("BadPrices", "prices"), ("BadShare", "share")]
def hg2 : List (Str × Str) := [("BadShared", "shared"), ("BadSums", "sums"), ("BadWires", "wires"), ("BadWishes", "index"), ("DarkPanels", "lamp"), ("BadCode", "code"), ("BadLamps", "index")]
def hg3 : List (Str × Str) := [("BadLog", "log"), ("BadLogText", "line"), ("BadMachine", "machine"), ("BadMachineText", "line"), ("BadMove", "move"), ("BadMoves", "index"), ("BadName", "name")]
def hg4 : List (Str × Str) := [("BadNets", "nets"), ("BadRuns", "index"), ("BadStates", "index"), ("BadWalk", "index"), ("BadBursts", "index"), ("BadCell", "cell"), ("BadClash", "cell")]
def hg5 : List (Str × Str) := [("BadCube", "cube"), ("BadCubes", "index"), ("BadIndex", "index"), ("BadLevers", "index"), ("BadMany", "many"), ("BadNumber", "number"), ("BadOff", "index")]
def hg6 : List (Str × Str) := [("BadOn", "index"), ("BadOther", "other"), ("BadPanel", "panel"), ("BadPanelText", "line"), ("BadPath", "path"), ("BadSign", "sign"), ("BadStep", "step")]
def hg7 : List (Str × Str) := [("BadSteps", "index"), ("BadTable", "index")]
def hgAll : List (Str × Str) := (((((((hg0 ++ hg1) ++ hg2) ++ hg3) ++ hg4) ++ hg5) ++ hg6) ++ hg7)
theorem hgAll_ok : (hgAll.all fun q => decide (q.1 ∈ allN) && decide (q.1 ∉ mainsN)) = true := by decide +kernel
theorem paired_get {α β : Type} {F : α → β → Prop} : ∀ {l : List α} {m : List β} {i : Nat}, Paired F l m → ∀ (h1 : i < l.length) (h2 : i < m.length), F l[i] m[i]
  | _, _, 0, .cons a _, _, _ => a
  | _, _, i + 1, .cons _ r, h1, h2 => paired_get r (Nat.lt_of_succ_lt_succ h1) (Nat.lt_of_succ_lt_succ h2)
theorem ok_others (W : Wld K mg) (F : FnP K "_law_others" s_law_others f fd) : FnOk P w K mg base CX0 2 f fd ["x"] (spOthers K) := by
  refine F.ok sc_law_others (fun vs H Q E h => ?_) (fun cdv A outer s H vs Q E hr h => ?_)
  · obtain ⟨x, rfl, _⟩ := h
    rfl
  obtain ⟨x, rfl, k⟩ := h
  refine ⟨_, PSs.nox (pss_cons (ps_set (i := 1) sc_law_others.nd rfl (.inl rfl) (pe_lst (show PA _ _ (XL.xvs 0 [(He.ga K "BadBegin", "begin"), (He.ga K "BadDark", "index"), (He.ga K "BadDesk", "desk"), (He.ga K "BadDeskText", "line"), (He.ga K "BadDrop", "drop"), (He.ga K "BadEdit", "edit"), (He.ga K "BadEnd", "end")]) from (pa_cons (pe_xv (W.x_BadBegin).t (W.x_BadBegin).g (W.x_BadBegin).k hr (pa_cons (pv 0) pa_nil)) (pa_cons (pe_xv (W.x_BadDark).t (W.x_BadDark).g (W.x_BadDark).k hr (pa_cons (pv 0) pa_nil)) (pa_cons (pe_xv (W.x_BadDesk).t (W.x_BadDesk).g (W.x_BadDesk).k hr (pa_cons (pv 0) pa_nil)) (pa_cons (pe_xv (W.x_BadDeskText).t (W.x_BadDeskText).g (W.x_BadDeskText).k hr (pa_cons (pv 0) pa_nil)) (pa_cons (pe_xv (W.x_BadDrop).t (W.x_BadDrop).g (W.x_BadDrop).k hr (pa_cons (pv 0) pa_nil)) (pa_cons (pe_xv (W.x_BadEdit).t (W.x_BadEdit).g (W.x_BadEdit).k hr (pa_cons (pv 0) pa_nil)) (pa_cons (pe_xv (W.x_BadEnd).t (W.x_BadEnd).g (W.x_BadEnd).k hr (pa_cons (pv 0) pa_nil)) pa_nil))))))))))
    (pss_cons (ps_expr (pe_bm PySem.F.plainAttrs_list PySem.F.slot_list_extend PySem.F.type_list_extend mt_extend (pv 1) (pa_cons (pe_lst (show PA _ _ (XL.xvs 0 [(He.ga K "BadFlips", "flips"), (He.ga K "BadFormula", "formula"), (He.ga K "BadLamp", "lamp"), (He.ga K "BadLit", "index"), (He.ga K "BadPanels", "index"), (He.ga K "BadPrices", "prices"), (He.ga K "BadShare", "share")]) from (pa_cons (pe_xv (W.x_BadFlips).t (W.x_BadFlips).g (W.x_BadFlips).k hr (pa_cons (pv 0) pa_nil)) (pa_cons (pe_xv (W.x_BadFormula).t (W.x_BadFormula).g (W.x_BadFormula).k hr (pa_cons (pv 0) pa_nil)) (pa_cons (pe_xv (W.x_BadLamp).t (W.x_BadLamp).g (W.x_BadLamp).k hr (pa_cons (pv 0) pa_nil)) (pa_cons (pe_xv (W.x_BadLit).t (W.x_BadLit).g (W.x_BadLit).k hr (pa_cons (pv 0) pa_nil)) (pa_cons (pe_xv (W.x_BadPanels).t (W.x_BadPanels).g (W.x_BadPanels).k hr (pa_cons (pv 0) pa_nil)) (pa_cons (pe_xv (W.x_BadPrices).t (W.x_BadPrices).g (W.x_BadPrices).k hr (pa_cons (pv 0) pa_nil)) (pa_cons (pe_xv (W.x_BadShare).t (W.x_BadShare).g (W.x_BadShare).k hr (pa_cons (pv 0) pa_nil)) pa_nil))))))))) pa_nil)))
    (pss_cons (ps_expr (pe_bm PySem.F.plainAttrs_list PySem.F.slot_list_extend PySem.F.type_list_extend mt_extend (pv 1) (pa_cons (pe_lst (show PA _ _ (XL.xvs 0 [(He.ga K "BadShared", "shared"), (He.ga K "BadSums", "sums"), (He.ga K "BadWires", "wires"), (He.ga K "BadWishes", "index"), (He.ga K "DarkPanels", "lamp"), (He.ga K "BadCode", "code"), (He.ga K "BadLamps", "index")]) from (pa_cons (pe_xv (W.x_BadShared).t (W.x_BadShared).g (W.x_BadShared).k hr (pa_cons (pv 0) pa_nil)) (pa_cons (pe_xv (W.x_BadSums).t (W.x_BadSums).g (W.x_BadSums).k hr (pa_cons (pv 0) pa_nil)) (pa_cons (pe_xv (W.x_BadWires).t (W.x_BadWires).g (W.x_BadWires).k hr (pa_cons (pv 0) pa_nil)) (pa_cons (pe_xv (W.x_BadWishes).t (W.x_BadWishes).g (W.x_BadWishes).k hr (pa_cons (pv 0) pa_nil)) (pa_cons (pe_xv (W.x_DarkPanels).t (W.x_DarkPanels).g (W.x_DarkPanels).k hr (pa_cons (pv 0) pa_nil)) (pa_cons (pe_xv (W.x_BadCode).t (W.x_BadCode).g (W.x_BadCode).k hr (pa_cons (pv 0) pa_nil)) (pa_cons (pe_xv (W.x_BadLamps).t (W.x_BadLamps).g (W.x_BadLamps).k hr (pa_cons (pv 0) pa_nil)) pa_nil))))))))) pa_nil)))
    (pss_cons (ps_expr (pe_bm PySem.F.plainAttrs_list PySem.F.slot_list_extend PySem.F.type_list_extend mt_extend (pv 1) (pa_cons (pe_lst (show PA _ _ (XL.xvs 0 [(He.ga K "BadLog", "log"), (He.ga K "BadLogText", "line"), (He.ga K "BadMachine", "machine"), (He.ga K "BadMachineText", "line"), (He.ga K "BadMove", "move"), (He.ga K "BadMoves", "index"), (He.ga K "BadName", "name")]) from (pa_cons (pe_xv (W.x_BadLog).t (W.x_BadLog).g (W.x_BadLog).k hr (pa_cons (pv 0) pa_nil)) (pa_cons (pe_xv (W.x_BadLogText).t (W.x_BadLogText).g (W.x_BadLogText).k hr (pa_cons (pv 0) pa_nil)) (pa_cons (pe_xv (W.x_BadMachine).t (W.x_BadMachine).g (W.x_BadMachine).k hr (pa_cons (pv 0) pa_nil)) (pa_cons (pe_xv (W.x_BadMachineText).t (W.x_BadMachineText).g (W.x_BadMachineText).k hr (pa_cons (pv 0) pa_nil)) (pa_cons (pe_xv (W.x_BadMove).t (W.x_BadMove).g (W.x_BadMove).k hr (pa_cons (pv 0) pa_nil)) (pa_cons (pe_xv (W.x_BadMoves).t (W.x_BadMoves).g (W.x_BadMoves).k hr (pa_cons (pv 0) pa_nil)) (pa_cons (pe_xv (W.x_BadName).t (W.x_BadName).g (W.x_BadName).k hr (pa_cons (pv 0) pa_nil)) pa_nil))))))))) pa_nil)))
    (pss_cons (ps_expr (pe_bm PySem.F.plainAttrs_list PySem.F.slot_list_extend PySem.F.type_list_extend mt_extend (pv 1) (pa_cons (pe_lst (show PA _ _ (XL.xvs 0 [(He.ga K "BadNets", "nets"), (He.ga K "BadRuns", "index"), (He.ga K "BadStates", "index"), (He.ga K "BadWalk", "index"), (He.ga K "BadBursts", "index"), (He.ga K "BadCell", "cell"), (He.ga K "BadClash", "cell")]) from (pa_cons (pe_xv (W.x_BadNets).t (W.x_BadNets).g (W.x_BadNets).k hr (pa_cons (pv 0) pa_nil)) (pa_cons (pe_xv (W.x_BadRuns).t (W.x_BadRuns).g (W.x_BadRuns).k hr (pa_cons (pv 0) pa_nil)) (pa_cons (pe_xv (W.x_BadStates).t (W.x_BadStates).g (W.x_BadStates).k hr (pa_cons (pv 0) pa_nil)) (pa_cons (pe_xv (W.x_BadWalk).t (W.x_BadWalk).g (W.x_BadWalk).k hr (pa_cons (pv 0) pa_nil)) (pa_cons (pe_xv (W.x_BadBursts).t (W.x_BadBursts).g (W.x_BadBursts).k hr (pa_cons (pv 0) pa_nil)) (pa_cons (pe_xv (W.x_BadCell).t (W.x_BadCell).g (W.x_BadCell).k hr (pa_cons (pv 0) pa_nil)) (pa_cons (pe_xv (W.x_BadClash).t (W.x_BadClash).g (W.x_BadClash).k hr (pa_cons (pv 0) pa_nil)) pa_nil))))))))) pa_nil)))
    (pss_cons (ps_expr (pe_bm PySem.F.plainAttrs_list PySem.F.slot_list_extend PySem.F.type_list_extend mt_extend (pv 1) (pa_cons (pe_lst (show PA _ _ (XL.xvs 0 [(He.ga K "BadCube", "cube"), (He.ga K "BadCubes", "index"), (He.ga K "BadIndex", "index"), (He.ga K "BadLevers", "index"), (He.ga K "BadMany", "many"), (He.ga K "BadNumber", "number"), (He.ga K "BadOff", "index")]) from (pa_cons (pe_xv (W.x_BadCube).t (W.x_BadCube).g (W.x_BadCube).k hr (pa_cons (pv 0) pa_nil)) (pa_cons (pe_xv (W.x_BadCubes).t (W.x_BadCubes).g (W.x_BadCubes).k hr (pa_cons (pv 0) pa_nil)) (pa_cons (pe_xv (W.x_BadIndex).t (W.x_BadIndex).g (W.x_BadIndex).k hr (pa_cons (pv 0) pa_nil)) (pa_cons (pe_xv (W.x_BadLevers).t (W.x_BadLevers).g (W.x_BadLevers).k hr (pa_cons (pv 0) pa_nil)) (pa_cons (pe_xv (W.x_BadMany).t (W.x_BadMany).g (W.x_BadMany).k hr (pa_cons (pv 0) pa_nil)) (pa_cons (pe_xv (W.x_BadNumber).t (W.x_BadNumber).g (W.x_BadNumber).k hr (pa_cons (pv 0) pa_nil)) (pa_cons (pe_xv (W.x_BadOff).t (W.x_BadOff).g (W.x_BadOff).k hr (pa_cons (pv 0) pa_nil)) pa_nil))))))))) pa_nil)))
    (pss_cons (ps_expr (pe_bm PySem.F.plainAttrs_list PySem.F.slot_list_extend PySem.F.type_list_extend mt_extend (pv 1) (pa_cons (pe_lst (show PA _ _ (XL.xvs 0 [(He.ga K "BadOn", "index"), (He.ga K "BadOther", "other"), (He.ga K "BadPanel", "panel"), (He.ga K "BadPanelText", "line"), (He.ga K "BadPath", "path"), (He.ga K "BadSign", "sign"), (He.ga K "BadStep", "step")]) from (pa_cons (pe_xv (W.x_BadOn).t (W.x_BadOn).g (W.x_BadOn).k hr (pa_cons (pv 0) pa_nil)) (pa_cons (pe_xv (W.x_BadOther).t (W.x_BadOther).g (W.x_BadOther).k hr (pa_cons (pv 0) pa_nil)) (pa_cons (pe_xv (W.x_BadPanel).t (W.x_BadPanel).g (W.x_BadPanel).k hr (pa_cons (pv 0) pa_nil)) (pa_cons (pe_xv (W.x_BadPanelText).t (W.x_BadPanelText).g (W.x_BadPanelText).k hr (pa_cons (pv 0) pa_nil)) (pa_cons (pe_xv (W.x_BadPath).t (W.x_BadPath).g (W.x_BadPath).k hr (pa_cons (pv 0) pa_nil)) (pa_cons (pe_xv (W.x_BadSign).t (W.x_BadSign).g (W.x_BadSign).k hr (pa_cons (pv 0) pa_nil)) (pa_cons (pe_xv (W.x_BadStep).t (W.x_BadStep).g (W.x_BadStep).k hr (pa_cons (pv 0) pa_nil)) pa_nil))))))))) pa_nil)))
    (pss_cons (ps_expr (pe_bm PySem.F.plainAttrs_list PySem.F.slot_list_extend PySem.F.type_list_extend mt_extend (pv 1) (pa_cons (pe_lst (show PA _ _ (XL.xvs 0 [(He.ga K "BadSteps", "index"), (He.ga K "BadTable", "index")]) from (pa_cons (pe_xv (W.x_BadSteps).t (W.x_BadSteps).g (W.x_BadSteps).k hr (pa_cons (pv 0) pa_nil)) (pa_cons (pe_xv (W.x_BadTable).t (W.x_BadTable).g (W.x_BadTable).k hr (pa_cons (pv 0) pa_nil)) pa_nil)))) pa_nil)))
    (pss_one (ps_ret (pe_op op_cat (pv 1) (pe_lst (pa_cons (pe_xv0 (W.x_NothingToRedo).q PySem.F.excBase_ValueError (W.x_NothingToRedo).g (W.x_NothingToRedo).k) (pa_cons (pe_xv0 (W.x_NothingToUndo).q PySem.F.excBase_ValueError (W.x_NothingToUndo).g (W.x_NothingToUndo).k) (pa_cons (pe_xv0 (W.x_PanelError).q PySem.F.excBase_ValueError (W.x_PanelError).g (W.x_PanelError).k) pa_nil))))))))))))))), ?_⟩
  refine XL.p_xvs (K := K) (l := hg0) rfl (by decide) fun p H0 e0 hp0 t0 => ?_
  refine XL.p_xvsE (K := K) (l := hg1) t0 rfl rfl (by decide) (by decide) fun H1 m1 t1 => ?_
  have e1 : Ex H H1 := fun b o q => m1 b o (ne_of_none q hp0) (e0 b o q)
  refine XL.p_xvsE (K := K) (l := hg2) t1 rfl rfl (by decide) (by decide) fun H2 m2 t2 => ?_
  have e2 : Ex H H2 := fun b o q => m2 b o (ne_of_none q hp0) (e1 b o q)
  refine XL.p_xvsE (K := K) (l := hg3) t2 rfl rfl (by decide) (by decide) fun H3 m3 t3 => ?_
  have e3 : Ex H H3 := fun b o q => m3 b o (ne_of_none q hp0) (e2 b o q)
  refine XL.p_xvsE (K := K) (l := hg4) t3 rfl rfl (by decide) (by decide) fun H4 m4 t4 => ?_
  have e4 : Ex H H4 := fun b o q => m4 b o (ne_of_none q hp0) (e3 b o q)
  refine XL.p_xvsE (K := K) (l := hg5) t4 rfl rfl (by decide) (by decide) fun H5 m5 t5 => ?_
  have e5 : Ex H H5 := fun b o q => m5 b o (ne_of_none q hp0) (e4 b o q)
  refine XL.p_xvsE (K := K) (l := hg6) t5 rfl rfl (by decide) (by decide) fun H6 m6 t6 => ?_
  have e6 : Ex H H6 := fun b o q => m6 b o (ne_of_none q hp0) (e5 b o q)
  refine XL.p_xvsE (K := K) (l := hg7) t6 rfl rfl (by decide) (by decide) fun H7 m7 t7 => ?_
  have e7 : Ex H H7 := fun b o q => m7 b o (ne_of_none q hp0) (e6 b o q)
  obtain ⟨es, h1, hm⟩ := t7
  have hl := Paired.length hm
  refine ⟨_, rfl, fun a1 n1 => fun a2 n2 => fun a3 n3 => ⟨(by show 3 ≤ sizeLine; decide), fun q nq => ?_⟩⟩
  have x1 := (Ex.refl H7).new (o := exo a1 (He.ga K "NothingToRedo") none) n1
  have x2 := x1.new (o := exo a2 (He.ga K "NothingToUndo") none) n2
  have x3 := x2.new (o := exo a3 (He.ga K "PanelError") none) n3
  have x4 := x3.new (o := .lst [.ref a1, .ref a2, .ref a3]) nq
  have hlen : (es.map V.ref).length = 51 := by
    rw [List.length_map, hl]
    decide +kernel
  refine ⟨p, q, _, _, rfl, rfl, x4 _ _ h1, upd_same, (by rw [hlen, sizeLine_eq]; show 51 + 3 ≤ 16777216; decide), fun l nl => ?_⟩
  have x5 := x4.new (o := .lst (es.map V.ref ++ [.ref a1, .ref a2, .ref a3])) nl
  have n12 : a1 ≠ a2 := ne_of_none upd_same n2
  have n23 : a2 ≠ a3 := ne_of_none upd_same n3
  have n13 : a1 ≠ a3 := ne_of_none (show upd (upd H7 a1 (exo a1 (He.ga K "NothingToRedo") none)) a2 (exo a2 (He.ga K "NothingToUndo") none) a1 = some (exo a1 (He.ga K "NothingToRedo") none) by rw [upd_ne n12, upd_same]) n3
  refine k l _ ((es.zip (hgAll.map (·.1))) ++ [(a1, ("NothingToRedo" : Str)), (a2, ("NothingToUndo" : Str)), (a3, ("PanelError" : Str))]) (e7.trans x5) ((e7.trans x4).free nl) ?_ ?_ ?_
  · rw [upd_same, List.map_append]
    have z : es.map V.ref = (es.zip (hgAll.map (·.1))).map fun q => V.ref q.1 := by
      have z2 : (es.zip (hgAll.map (·.1))).map Prod.fst = es := List.map_fst_zip (by rw [List.length_map]; exact Nat.le_of_eq hl)
      conv => lhs; rw [← z2]
      rw [List.map_map]
      rfl
    rw [z]
    rfl
  · rw [List.length_append, List.length_zip, List.length_map]
    have : hgAll.length = 51 := by decide +kernel
    simp
    omega
  · intro z hz
    have fresh : ∀ {o : HO} {a C : Addr}, (upd (upd (upd H7 a1 (exo a1 (He.ga K "NothingToRedo") none)) a2 (exo a2 (He.ga K "NothingToUndo") none)) a3 (exo a3 (He.ga K "PanelError") none)) a = some (exo a C none) → Exd (upd (upd (upd (upd (upd H7 a1 (exo a1 (He.ga K "NothingToRedo") none)) a2 (exo a2 (He.ga K "NothingToUndo") none)) a3 (exo a3 (He.ga K "PanelError") none)) q (.lst [.ref a1, .ref a2, .ref a3])) l (.lst (es.map V.ref ++ [.ref a1, .ref a2, .ref a3]))) a C := fun {o a C} h => by
      refine ⟨none, ?_, fun dx q => nomatch q⟩
      exact (((Ex.refl _).new nq).new nl) _ _ h
    rcases List.mem_append.mp hz with hz | hz
    · obtain ⟨i, hi, rfl⟩ := List.mem_iff_getElem.mp hz
      rw [List.getElem_zip, List.getElem_map]
      have hi2 : i < hgAll.length := by
        rw [List.length_zip, List.length_map] at hi
        omega
      have hi1 : i < es.length := by
        rw [List.length_zip] at hi
        omega
      obtain ⟨q1, q2⟩ := He.ba (List.all_eq_true.mp hgAll_ok hgAll[i] (List.getElem_mem hi2))
      have hp2 := paired_get hm hi1 hi2
      exact ⟨of_decide_eq_true q1, of_decide_eq_true q2, XL.exd_mono x5 hp2.exd⟩
    · have hz2 : z = (a1, ("NothingToRedo" : Str)) ∨ z = (a2, ("NothingToUndo" : Str)) ∨ z = (a3, ("PanelError" : Str)) := by simpa using hz
      rcases hz2 with rfl | rfl | rfl
      · exact ⟨(by decide +kernel : ("NothingToRedo" : Str) ∈ allN), (by decide +kernel : ("NothingToRedo" : Str) ∉ mainsN), fresh (o := .tup []) (by rw [upd_ne n13, upd_ne n12, upd_same])⟩
      · exact ⟨(by decide +kernel : ("NothingToUndo" : Str) ∈ allN), (by decide +kernel : ("NothingToUndo" : Str) ∉ mainsN), fresh (o := .tup []) (by rw [upd_ne n23, upd_same])⟩
      · exact ⟨(by decide +kernel : ("PanelError" : Str) ∈ allN), (by decide +kernel : ("PanelError" : Str) ∉ mainsN), fresh (o := .tup []) upd_same⟩
theorem c_law_others (W : Wld K mg) : Cal P w K mg base 2 "_law_others" ["x"] (spOthers K) := by
  obtain ⟨fd, F⟩ := W.c.def_ 5 rfl
  exact ⟨⟨fd, ok_others W F, F.bindsN fun _ _ _ _ _ _ us hl => match us, hl with | [_], _ => rfl⟩, W.g_law_others, F.kp⟩
end
end K89

set_option Elab.async false
set_option linter.all false
set_option maxRecDepth 100000
set_option maxHeartbeats 400000
namespace K89
open PySem PySem.Spec PyProof.Rows L2 DL
section
variable {P : Program} {w : World} {K : PySem.W.Frag} {mg : Str → Option Value} {base : Heap} {f : Addr} {fd : FuncData}
/-! ### the errors of a place, by position and by name -/
/-- which class stands at a place -/
def spMade (K : PySem.W.Frag) (lo hi : Nat) : Sp := fun vs H Q _ => ∃ (k : Nat) (v : V), vs = [.int (k : Nat), v] ∧ lo ≤ k ∧ k < hi ∧
  ∀ x p m l e1 e2 H', mainsN[k]? = some x → Ex H H' → H' p = some (.tup [.ref m, .ref l]) → H' m = some (.lst [.ref e1, .ref e2]) → H' l = some (.lst [v, v]) → Exd H' e1 (He.ga K x) → Exd H' e2 (He.ga K x) → Q (.ref p) H'
/-- one branch -/
theorem rd_branch {C : Addr} {fl : Str} {v : V} {k0 : V} {H : Hp} {D : Ends} {a b : Option V} (hx : XfC K C) (hno : PySem.W.findIn K (.ref C) fl = some none)
    (k : ∀ p m l e1 e2 H', Ex H H' → H' p = some (.tup [.ref m, .ref l]) → H' m = some (.lst [.ref e1, .ref e2]) → H' l = some (.lst [v, v]) → Exd H' e1 C → Exd H' e2 C → D.rt (.ref p) H') :
    tSeq (tAsg (tLst (tCons (tXv C fl (tCons (tVar 1) tNil)) (tCons (tXv C fl (tCons (tVar 1) tNil)) tNil))) (gName 2))
      (tRet (tTup (tCons (tVar 2) (tCons (tLc (iList K (tVar 2)) (gName 3) tYes (tXat K fl (tVar 3)) [3]) tNil)))) D [some k0, some v, a, b] H := by
  refine XL.p_lst ?_
  refine ⟨v, rfl, v, rfl, fun e1 d1 he1 hd1 n1 => ?_⟩
  have x1 := XL.ex_two (o := .xd [(fl, v)]) (u := exo e1 C (some d1)) he1 hd1
  have m1 := XL.mde_new (H := H) (C := C) (f := fl) (v := v) n1
  generalize upd (upd H d1 (.xd [(fl, v)])) e1 (exo e1 C (some d1)) = H1 at x1 m1 ⊢
  refine ⟨v, rfl, v, rfl, fun e2 d2 he2 hd2 n2 => ⟨(by show 2 ≤ sizeLine; decide), fun m hm => ?_⟩⟩
  have x2 := XL.ex_two (o := .xd [(fl, v)]) (u := exo e2 C (some d2)) he2 hd2
  have m2 := XL.mde_new (H := H1) (C := C) (f := fl) (v := v) n2
  generalize upd (upd H1 d2 (.xd [(fl, v)])) e2 (exo e2 C (some d2)) = H2 at x2 m2 hm ⊢
  have x3 := (Ex.refl H2).new (o := .lst [.ref e1, .ref e2]) hm
  have m1' := m1.mono (x2.trans x3)
  have m2' := m2.mono x3
  have hm3 : upd H2 m (.lst [.ref e1, .ref e2]) m = some (.lst [.ref e1, .ref e2]) := upd_same
  generalize upd H2 m (.lst [.ref e1, .ref e2]) = H3 at x3 m1' m2' hm3 ⊢
  have x03 := (x1.trans x2).trans x3
  refine ⟨_, rfl, _, rfl, m, rfl, ⟨_, SqL.of hm3⟩, fun l hl => ?_⟩
  refine lc_map (walk_list (xs := [V.ref e1, V.ref e2])) (fun _ z _ => z = v) (by show 2 < sizeLine; rw [sizeLine_eq]; decide) hl (fun H4 e4 => SqL.of (e4 _ _ hm3)) (fun _ _ _ _ q _ => q) ?_ ?_
  · rintro i z H4 H5 Q2 hi e4 ⟨eh, hz⟩ q
    obtain rfl : H4 = H5 := eh.symm
    have hz2 : z = .ref e1 ∨ z = .ref e2 := by
      match i, hi with
      | 0, _ => exact .inl (by simpa using hz.symm)
      | 1, _ => exact .inr (by simpa using hz.symm)
    refine ⟨rfl, ?_⟩
    rcases hz2 with rfl | rfl
    · obtain ⟨d, q1, q2⟩ := m1'.mono e4
      exact ⟨_, rfl, e1, C, d, _, v, rfl, q1, q2, by simp [List.lookup], hx, hno, q _ _ (Ex.refl _) rfl⟩
    · obtain ⟨d, q1, q2⟩ := m2'.mono e4
      exact ⟨_, rfl, e2, C, d, _, v, rfl, q1, q2, by simp [List.lookup], hx, hno, q _ _ (Ex.refl _) rfl⟩
  · intro H4 ys hys hlen e4 hr
    have hv : ys = [v, v] := by
      match ys, hlen with
      | [y1, y2], _ => rw [hr 0 y1 rfl, hr 1 y2 rfl]
    rw [hv] at hys
    refine ⟨(by show 2 ≤ sizeLine; decide), fun p hp => ?_⟩
    have x5 := (Ex.refl H4).new (o := .tup [.ref m, .ref l]) hp
    exact k p m l e1 e2 _ (x03.trans (e4.trans x5)) upd_same (x5 _ _ (e4 _ _ hm3)) (x5 _ _ hys) ((m1'.mono (e4.trans x5)).exd) ((m2'.mono (e4.trans x5)).exd)
theorem sc_law_made_first : FnScope ["at", "x", "made", "e"] ["at", "x"] (defScope s_law_made_first) := ⟨rfl, rfl, rfl, by decide +kernel, rfl, by decide +kernel, by decide +kernel⟩
theorem sc_law_made_middle : FnScope ["at", "x", "made", "e"] ["at", "x"] (defScope s_law_made_middle) := ⟨rfl, rfl, rfl, by decide +kernel, rfl, by decide +kernel, by decide +kernel⟩
theorem sc_law_made_last : FnScope ["at", "x", "made", "e"] ["at", "x"] (defScope s_law_made_last) := ⟨rfl, rfl, rfl, by decide +kernel, rfl, by decide +kernel, by decide +kernel⟩
theorem ok_made_first (W : Wld K mg) (F : FnP K "_law_made_first" s_law_made_first f fd) : FnOk P w K mg base CX0 2 f fd ["at", "x"] (spMade K 0 5) := by
  refine F.ok sc_law_made_first (fun vs H Q E h => ?_) (fun cdv A outer s H vs Q E hr h => ?_)
  · obtain ⟨k, v, rfl, _⟩ := h
    rfl
  obtain ⟨k, v, rfl, h1, h2, q⟩ := h
  refine ⟨_, PSs.nox (pss_cons (ps_if (pt_cmpR op_eq (pv 0) pe_int (nomark _))
    (pss_cons (ps_set (i := 2) sc_law_made_first.nd rfl (.inl rfl) (pe_lst (pa_cons (pe_xv (W.x_BadAnswer).t (W.x_BadAnswer).g (W.x_BadAnswer).k hr (pa_cons (pv 1) pa_nil)) (pa_cons (pe_xvk (W.x_BadAnswer).t (W.x_BadAnswer).g (W.x_BadAnswer).k hr (pk_cons (pv 1) pk_nil)) pa_nil))))
    (pss_one (ps_ret (pe_tup (pa_cons (pv 2) (pa_cons (pe_lc (own := [("e", 3)]) (g := gName 3) (tt := tYes) (te := (tXat K "answer" (tVar 3))) rfl sc_law_made_first.nd (pi_list (pv 2)) (blkOk_by (N := ["at", "x", "made", "e"]) (sc := defScope s_law_made_first) (by decide +kernel)) (fun _ _ _ _ _ => pg_name (i := 3) sc_law_made_first.nd rfl (Or.inl rfl)) (fun _ _ _ _ _ => pts_nil) (fun _ _ _ _ _ => (pe_xat (pv 3)))) pa_nil))))))
    pss_nil)
    (pss_cons (ps_if (pt_cmpR op_eq (pv 0) pe_int (nomark _))
    (pss_cons (ps_set (i := 2) sc_law_made_first.nd rfl (.inl rfl) (pe_lst (pa_cons (pe_xv (W.x_BadAnswerText).t (W.x_BadAnswerText).g (W.x_BadAnswerText).k hr (pa_cons (pv 1) pa_nil)) (pa_cons (pe_xvk (W.x_BadAnswerText).t (W.x_BadAnswerText).g (W.x_BadAnswerText).k hr (pk_cons (pv 1) pk_nil)) pa_nil))))
    (pss_one (ps_ret (pe_tup (pa_cons (pv 2) (pa_cons (pe_lc (own := [("e", 3)]) (g := gName 3) (tt := tYes) (te := (tXat K "line" (tVar 3))) rfl sc_law_made_first.nd (pi_list (pv 2)) (blkOk_by (N := ["at", "x", "made", "e"]) (sc := defScope s_law_made_first) (by decide +kernel)) (fun _ _ _ _ _ => pg_name (i := 3) sc_law_made_first.nd rfl (Or.inl rfl)) (fun _ _ _ _ _ => pts_nil) (fun _ _ _ _ _ => (pe_xat (pv 3)))) pa_nil))))))
    pss_nil)
    (pss_cons (ps_if (pt_cmpR op_eq (pv 0) pe_int (nomark _))
    (pss_cons (ps_set (i := 2) sc_law_made_first.nd rfl (.inl rfl) (pe_lst (pa_cons (pe_xv (W.x_BadAt).t (W.x_BadAt).g (W.x_BadAt).k hr (pa_cons (pv 1) pa_nil)) (pa_cons (pe_xvk (W.x_BadAt).t (W.x_BadAt).g (W.x_BadAt).k hr (pk_cons (pv 1) pk_nil)) pa_nil))))
    (pss_one (ps_ret (pe_tup (pa_cons (pv 2) (pa_cons (pe_lc (own := [("e", 3)]) (g := gName 3) (tt := tYes) (te := (tXat K "at" (tVar 3))) rfl sc_law_made_first.nd (pi_list (pv 2)) (blkOk_by (N := ["at", "x", "made", "e"]) (sc := defScope s_law_made_first) (by decide +kernel)) (fun _ _ _ _ _ => pg_name (i := 3) sc_law_made_first.nd rfl (Or.inl rfl)) (fun _ _ _ _ _ => pts_nil) (fun _ _ _ _ _ => (pe_xat (pv 3)))) pa_nil))))))
    pss_nil)
    (pss_cons (ps_if (pt_cmpR op_eq (pv 0) pe_int (nomark _))
    (pss_cons (ps_set (i := 2) sc_law_made_first.nd rfl (.inl rfl) (pe_lst (pa_cons (pe_xv (W.x_BadBound).t (W.x_BadBound).g (W.x_BadBound).k hr (pa_cons (pv 1) pa_nil)) (pa_cons (pe_xvk (W.x_BadBound).t (W.x_BadBound).g (W.x_BadBound).k hr (pk_cons (pv 1) pk_nil)) pa_nil))))
    (pss_one (ps_ret (pe_tup (pa_cons (pv 2) (pa_cons (pe_lc (own := [("e", 3)]) (g := gName 3) (tt := tYes) (te := (tXat K "bound" (tVar 3))) rfl sc_law_made_first.nd (pi_list (pv 2)) (blkOk_by (N := ["at", "x", "made", "e"]) (sc := defScope s_law_made_first) (by decide +kernel)) (fun _ _ _ _ _ => pg_name (i := 3) sc_law_made_first.nd rfl (Or.inl rfl)) (fun _ _ _ _ _ => pts_nil) (fun _ _ _ _ _ => (pe_xat (pv 3)))) pa_nil))))))
    pss_nil)
    (pss_cons (ps_set (i := 2) sc_law_made_first.nd rfl (.inl rfl) (pe_lst (pa_cons (pe_xv (W.x_BadChain).t (W.x_BadChain).g (W.x_BadChain).k hr (pa_cons (pv 1) pa_nil)) (pa_cons (pe_xvk (W.x_BadChain).t (W.x_BadChain).g (W.x_BadChain).k hr (pk_cons (pv 1) pk_nil)) pa_nil))))
    (pss_one (ps_ret (pe_tup (pa_cons (pv 2) (pa_cons (pe_lc (own := [("e", 3)]) (g := gName 3) (tt := tYes) (te := (tXat K "chain" (tVar 3))) rfl sc_law_made_first.nd (pi_list (pv 2)) (blkOk_by (N := ["at", "x", "made", "e"]) (sc := defScope s_law_made_first) (by decide +kernel)) (fun _ _ _ _ _ => pg_name (i := 3) sc_law_made_first.nd rfl (Or.inl rfl)) (fun _ _ _ _ _ => pts_nil) (fun _ _ _ _ _ => (pe_xat (pv 3)))) pa_nil)))))))))), ?_⟩
  refine ⟨_, rfl, rfl, _, rfl, ?_⟩
  refine ite2 (fun e => ?_) (fun e => ?_)
  · have e2 : (k : Int) = 0 := V.int.inj (of_decide_eq_true e)
    obtain rfl : k = 0 := by omega
    exact rd_branch (XH.xf_of W.x_BadAnswer.c) W.x_BadAnswer.t.noN fun p m l e1 e2 H' x h1 h2 h3 h4 h5 => q _ p m l e1 e2 H' rfl x h1 h2 h3 h4 h5
  have n0 : ¬ k = 0 := fun z => e (decide_eq_true (by rw [z]; rfl))
  refine ⟨_, rfl, rfl, _, rfl, ?_⟩
  refine ite2 (fun e => ?_) (fun e => ?_)
  · have e2 : (k : Int) = 1 := V.int.inj (of_decide_eq_true e)
    obtain rfl : k = 1 := by omega
    exact rd_branch (XH.xf_of W.x_BadAnswerText.c) W.x_BadAnswerText.t.noN fun p m l e1 e2 H' x h1 h2 h3 h4 h5 => q _ p m l e1 e2 H' rfl x h1 h2 h3 h4 h5
  have n1 : ¬ k = 1 := fun z => e (decide_eq_true (by rw [z]; rfl))
  refine ⟨_, rfl, rfl, _, rfl, ?_⟩
  refine ite2 (fun e => ?_) (fun e => ?_)
  · have e2 : (k : Int) = 2 := V.int.inj (of_decide_eq_true e)
    obtain rfl : k = 2 := by omega
    exact rd_branch (XH.xf_of W.x_BadAt.c) W.x_BadAt.t.noN fun p m l e1 e2 H' x h1 h2 h3 h4 h5 => q _ p m l e1 e2 H' rfl x h1 h2 h3 h4 h5
  have n2 : ¬ k = 2 := fun z => e (decide_eq_true (by rw [z]; rfl))
  refine ⟨_, rfl, rfl, _, rfl, ?_⟩
  refine ite2 (fun e => ?_) (fun e => ?_)
  · have e2 : (k : Int) = 3 := V.int.inj (of_decide_eq_true e)
    obtain rfl : k = 3 := by omega
    exact rd_branch (XH.xf_of W.x_BadBound.c) W.x_BadBound.t.noN fun p m l e1 e2 H' x h1 h2 h3 h4 h5 => q _ p m l e1 e2 H' rfl x h1 h2 h3 h4 h5
  have n3 : ¬ k = 3 := fun z => e (decide_eq_true (by rw [z]; rfl))
  obtain rfl : k = 4 := by omega
  exact rd_branch (XH.xf_of W.x_BadChain.c) W.x_BadChain.t.noN fun p m l e1 e2 H' x h1 h2 h3 h4 h5 => q _ p m l e1 e2 H' rfl x h1 h2 h3 h4 h5
theorem c_law_made_first (W : Wld K mg) : Cal P w K mg base 2 "_law_made_first" ["at", "x"] (spMade K 0 5) := by
  obtain ⟨fd, F⟩ := W.c.def_ 7 rfl
  exact ⟨⟨fd, ok_made_first W F, F.bindsN fun _ _ _ _ _ _ us hl => match us, hl with | [_, _], _ => rfl⟩, W.g_law_made_first, F.kp⟩
theorem ok_made_middle (W : Wld K mg) (F : FnP K "_law_made_middle" s_law_made_middle f fd) : FnOk P w K mg base CX0 2 f fd ["at", "x"] (spMade K 5 10) := by
  refine F.ok sc_law_made_middle (fun vs H Q E h => ?_) (fun cdv A outer s H vs Q E hr h => ?_)
  · obtain ⟨k, v, rfl, _⟩ := h
    rfl
  obtain ⟨k, v, rfl, h1, h2, q⟩ := h
  refine ⟨_, PSs.nox (pss_cons (ps_if (pt_cmpR op_eq (pv 0) pe_int (nomark _))
    (pss_cons (ps_set (i := 2) sc_law_made_middle.nd rfl (.inl rfl) (pe_lst (pa_cons (pe_xv (W.x_BadGate).t (W.x_BadGate).g (W.x_BadGate).k hr (pa_cons (pv 1) pa_nil)) (pa_cons (pe_xvk (W.x_BadGate).t (W.x_BadGate).g (W.x_BadGate).k hr (pk_cons (pv 1) pk_nil)) pa_nil))))
    (pss_one (ps_ret (pe_tup (pa_cons (pv 2) (pa_cons (pe_lc (own := [("e", 3)]) (g := gName 3) (tt := tYes) (te := (tXat K "gate" (tVar 3))) rfl sc_law_made_middle.nd (pi_list (pv 2)) (blkOk_by (N := ["at", "x", "made", "e"]) (sc := defScope s_law_made_middle) (by decide +kernel)) (fun _ _ _ _ _ => pg_name (i := 3) sc_law_made_middle.nd rfl (Or.inl rfl)) (fun _ _ _ _ _ => pts_nil) (fun _ _ _ _ _ => (pe_xat (pv 3)))) pa_nil))))))
    pss_nil)
    (pss_cons (ps_if (pt_cmpR op_eq (pv 0) pe_int (nomark _))
    (pss_cons (ps_set (i := 2) sc_law_made_middle.nd rfl (.inl rfl) (pe_lst (pa_cons (pe_xv (W.x_BadGroup).t (W.x_BadGroup).g (W.x_BadGroup).k hr (pa_cons (pv 1) pa_nil)) (pa_cons (pe_xvk (W.x_BadGroup).t (W.x_BadGroup).g (W.x_BadGroup).k hr (pk_cons (pv 1) pk_nil)) pa_nil))))
    (pss_one (ps_ret (pe_tup (pa_cons (pv 2) (pa_cons (pe_lc (own := [("e", 3)]) (g := gName 3) (tt := tYes) (te := (tXat K "group" (tVar 3))) rfl sc_law_made_middle.nd (pi_list (pv 2)) (blkOk_by (N := ["at", "x", "made", "e"]) (sc := defScope s_law_made_middle) (by decide +kernel)) (fun _ _ _ _ _ => pg_name (i := 3) sc_law_made_middle.nd rfl (Or.inl rfl)) (fun _ _ _ _ _ => pts_nil) (fun _ _ _ _ _ => (pe_xat (pv 3)))) pa_nil))))))
    pss_nil)
    (pss_cons (ps_if (pt_cmpR op_eq (pv 0) pe_int (nomark _))
    (pss_cons (ps_set (i := 2) sc_law_made_middle.nd rfl (.inl rfl) (pe_lst (pa_cons (pe_xv (W.x_BadNet).t (W.x_BadNet).g (W.x_BadNet).k hr (pa_cons (pv 1) pa_nil)) (pa_cons (pe_xvk (W.x_BadNet).t (W.x_BadNet).g (W.x_BadNet).k hr (pk_cons (pv 1) pk_nil)) pa_nil))))
    (pss_one (ps_ret (pe_tup (pa_cons (pv 2) (pa_cons (pe_lc (own := [("e", 3)]) (g := gName 3) (tt := tYes) (te := (tXat K "net" (tVar 3))) rfl sc_law_made_middle.nd (pi_list (pv 2)) (blkOk_by (N := ["at", "x", "made", "e"]) (sc := defScope s_law_made_middle) (by decide +kernel)) (fun _ _ _ _ _ => pg_name (i := 3) sc_law_made_middle.nd rfl (Or.inl rfl)) (fun _ _ _ _ _ => pts_nil) (fun _ _ _ _ _ => (pe_xat (pv 3)))) pa_nil))))))
    pss_nil)
    (pss_cons (ps_if (pt_cmpR op_eq (pv 0) pe_int (nomark _))
    (pss_cons (ps_set (i := 2) sc_law_made_middle.nd rfl (.inl rfl) (pe_lst (pa_cons (pe_xv (W.x_BadNetText).t (W.x_BadNetText).g (W.x_BadNetText).k hr (pa_cons (pv 1) pa_nil)) (pa_cons (pe_xvk (W.x_BadNetText).t (W.x_BadNetText).g (W.x_BadNetText).k hr (pk_cons (pv 1) pk_nil)) pa_nil))))
    (pss_one (ps_ret (pe_tup (pa_cons (pv 2) (pa_cons (pe_lc (own := [("e", 3)]) (g := gName 3) (tt := tYes) (te := (tXat K "line" (tVar 3))) rfl sc_law_made_middle.nd (pi_list (pv 2)) (blkOk_by (N := ["at", "x", "made", "e"]) (sc := defScope s_law_made_middle) (by decide +kernel)) (fun _ _ _ _ _ => pg_name (i := 3) sc_law_made_middle.nd rfl (Or.inl rfl)) (fun _ _ _ _ _ => pts_nil) (fun _ _ _ _ _ => (pe_xat (pv 3)))) pa_nil))))))
    pss_nil)
    (pss_cons (ps_set (i := 2) sc_law_made_middle.nd rfl (.inl rfl) (pe_lst (pa_cons (pe_xv (W.x_BadOrder).t (W.x_BadOrder).g (W.x_BadOrder).k hr (pa_cons (pv 1) pa_nil)) (pa_cons (pe_xvk (W.x_BadOrder).t (W.x_BadOrder).g (W.x_BadOrder).k hr (pk_cons (pv 1) pk_nil)) pa_nil))))
    (pss_one (ps_ret (pe_tup (pa_cons (pv 2) (pa_cons (pe_lc (own := [("e", 3)]) (g := gName 3) (tt := tYes) (te := (tXat K "order" (tVar 3))) rfl sc_law_made_middle.nd (pi_list (pv 2)) (blkOk_by (N := ["at", "x", "made", "e"]) (sc := defScope s_law_made_middle) (by decide +kernel)) (fun _ _ _ _ _ => pg_name (i := 3) sc_law_made_middle.nd rfl (Or.inl rfl)) (fun _ _ _ _ _ => pts_nil) (fun _ _ _ _ _ => (pe_xat (pv 3)))) pa_nil)))))))))), ?_⟩
  refine ⟨_, rfl, rfl, _, rfl, ?_⟩
  refine ite2 (fun e => ?_) (fun e => ?_)
  · have e2 : (k : Int) = 5 := V.int.inj (of_decide_eq_true e)
    obtain rfl : k = 5 := by omega
    exact rd_branch (XH.xf_of W.x_BadGate.c) W.x_BadGate.t.noN fun p m l e1 e2 H' x h1 h2 h3 h4 h5 => q _ p m l e1 e2 H' rfl x h1 h2 h3 h4 h5
  have n5 : ¬ k = 5 := fun z => e (decide_eq_true (by rw [z]; rfl))
  refine ⟨_, rfl, rfl, _, rfl, ?_⟩
  refine ite2 (fun e => ?_) (fun e => ?_)
  · have e2 : (k : Int) = 6 := V.int.inj (of_decide_eq_true e)
    obtain rfl : k = 6 := by omega
    exact rd_branch (XH.xf_of W.x_BadGroup.c) W.x_BadGroup.t.noN fun p m l e1 e2 H' x h1 h2 h3 h4 h5 => q _ p m l e1 e2 H' rfl x h1 h2 h3 h4 h5
  have n6 : ¬ k = 6 := fun z => e (decide_eq_true (by rw [z]; rfl))
  refine ⟨_, rfl, rfl, _, rfl, ?_⟩
  refine ite2 (fun e => ?_) (fun e => ?_)
  · have e2 : (k : Int) = 7 := V.int.inj (of_decide_eq_true e)
    obtain rfl : k = 7 := by omega
    exact rd_branch (XH.xf_of W.x_BadNet.c) W.x_BadNet.t.noN fun p m l e1 e2 H' x h1 h2 h3 h4 h5 => q _ p m l e1 e2 H' rfl x h1 h2 h3 h4 h5
  have n7 : ¬ k = 7 := fun z => e (decide_eq_true (by rw [z]; rfl))
  refine ⟨_, rfl, rfl, _, rfl, ?_⟩
  refine ite2 (fun e => ?_) (fun e => ?_)
  · have e2 : (k : Int) = 8 := V.int.inj (of_decide_eq_true e)
    obtain rfl : k = 8 := by omega
    exact rd_branch (XH.xf_of W.x_BadNetText.c) W.x_BadNetText.t.noN fun p m l e1 e2 H' x h1 h2 h3 h4 h5 => q _ p m l e1 e2 H' rfl x h1 h2 h3 h4 h5
  have n8 : ¬ k = 8 := fun z => e (decide_eq_true (by rw [z]; rfl))
  obtain rfl : k = 9 := by omega
  exact rd_branch (XH.xf_of W.x_BadOrder.c) W.x_BadOrder.t.noN fun p m l e1 e2 H' x h1 h2 h3 h4 h5 => q _ p m l e1 e2 H' rfl x h1 h2 h3 h4 h5
theorem c_law_made_middle (W : Wld K mg) : Cal P w K mg base 2 "_law_made_middle" ["at", "x"] (spMade K 5 10) := by
  obtain ⟨fd, F⟩ := W.c.def_ 8 rfl
  exact ⟨⟨fd, ok_made_middle W F, F.bindsN fun _ _ _ _ _ _ us hl => match us, hl with | [_, _], _ => rfl⟩, W.g_law_made_middle, F.kp⟩
theorem ok_made_last (W : Wld K mg) (F : FnP K "_law_made_last" s_law_made_last f fd) : FnOk P w K mg base CX0 2 f fd ["at", "x"] (spMade K 10 15) := by
  refine F.ok sc_law_made_last (fun vs H Q E h => ?_) (fun cdv A outer s H vs Q E hr h => ?_)
  · obtain ⟨k, v, rfl, _⟩ := h
    rfl
  obtain ⟨k, v, rfl, h1, h2, q⟩ := h
  refine ⟨_, PSs.nox (pss_cons (ps_if (pt_cmpR op_eq (pv 0) pe_int (nomark _))
    (pss_cons (ps_set (i := 2) sc_law_made_last.nd rfl (.inl rfl) (pe_lst (pa_cons (pe_xv (W.x_BadPlace).t (W.x_BadPlace).g (W.x_BadPlace).k hr (pa_cons (pv 1) pa_nil)) (pa_cons (pe_xvk (W.x_BadPlace).t (W.x_BadPlace).g (W.x_BadPlace).k hr (pk_cons (pv 1) pk_nil)) pa_nil))))
    (pss_one (ps_ret (pe_tup (pa_cons (pv 2) (pa_cons (pe_lc (own := [("e", 3)]) (g := gName 3) (tt := tYes) (te := (tXat K "place" (tVar 3))) rfl sc_law_made_last.nd (pi_list (pv 2)) (blkOk_by (N := ["at", "x", "made", "e"]) (sc := defScope s_law_made_last) (by decide +kernel)) (fun _ _ _ _ _ => pg_name (i := 3) sc_law_made_last.nd rfl (Or.inl rfl)) (fun _ _ _ _ _ => pts_nil) (fun _ _ _ _ _ => (pe_xat (pv 3)))) pa_nil))))))
    pss_nil)
    (pss_cons (ps_if (pt_cmpR op_eq (pv 0) pe_int (nomark _))
    (pss_cons (ps_set (i := 2) sc_law_made_last.nd rfl (.inl rfl) (pe_lst (pa_cons (pe_xv (W.x_BadRun).t (W.x_BadRun).g (W.x_BadRun).k hr (pa_cons (pv 1) pa_nil)) (pa_cons (pe_xvk (W.x_BadRun).t (W.x_BadRun).g (W.x_BadRun).k hr (pk_cons (pv 1) pk_nil)) pa_nil))))
    (pss_one (ps_ret (pe_tup (pa_cons (pv 2) (pa_cons (pe_lc (own := [("e", 3)]) (g := gName 3) (tt := tYes) (te := (tXat K "run" (tVar 3))) rfl sc_law_made_last.nd (pi_list (pv 2)) (blkOk_by (N := ["at", "x", "made", "e"]) (sc := defScope s_law_made_last) (by decide +kernel)) (fun _ _ _ _ _ => pg_name (i := 3) sc_law_made_last.nd rfl (Or.inl rfl)) (fun _ _ _ _ _ => pts_nil) (fun _ _ _ _ _ => (pe_xat (pv 3)))) pa_nil))))))
    pss_nil)
    (pss_cons (ps_if (pt_cmpR op_eq (pv 0) pe_int (nomark _))
    (pss_cons (ps_set (i := 2) sc_law_made_last.nd rfl (.inl rfl) (pe_lst (pa_cons (pe_xv (W.x_BadWholeText).t (W.x_BadWholeText).g (W.x_BadWholeText).k hr (pa_cons (pv 1) pa_nil)) (pa_cons (pe_xvk (W.x_BadWholeText).t (W.x_BadWholeText).g (W.x_BadWholeText).k hr (pk_cons (pv 1) pk_nil)) pa_nil))))
    (pss_one (ps_ret (pe_tup (pa_cons (pv 2) (pa_cons (pe_lc (own := [("e", 3)]) (g := gName 3) (tt := tYes) (te := (tXat K "line" (tVar 3))) rfl sc_law_made_last.nd (pi_list (pv 2)) (blkOk_by (N := ["at", "x", "made", "e"]) (sc := defScope s_law_made_last) (by decide +kernel)) (fun _ _ _ _ _ => pg_name (i := 3) sc_law_made_last.nd rfl (Or.inl rfl)) (fun _ _ _ _ _ => pts_nil) (fun _ _ _ _ _ => (pe_xat (pv 3)))) pa_nil))))))
    pss_nil)
    (pss_cons (ps_if (pt_cmpR op_eq (pv 0) pe_int (nomark _))
    (pss_cons (ps_set (i := 2) sc_law_made_last.nd rfl (.inl rfl) (pe_lst (pa_cons (pe_xv (W.x_BadWire).t (W.x_BadWire).g (W.x_BadWire).k hr (pa_cons (pv 1) pa_nil)) (pa_cons (pe_xvk (W.x_BadWire).t (W.x_BadWire).g (W.x_BadWire).k hr (pk_cons (pv 1) pk_nil)) pa_nil))))
    (pss_one (ps_ret (pe_tup (pa_cons (pv 2) (pa_cons (pe_lc (own := [("e", 3)]) (g := gName 3) (tt := tYes) (te := (tXat K "wire" (tVar 3))) rfl sc_law_made_last.nd (pi_list (pv 2)) (blkOk_by (N := ["at", "x", "made", "e"]) (sc := defScope s_law_made_last) (by decide +kernel)) (fun _ _ _ _ _ => pg_name (i := 3) sc_law_made_last.nd rfl (Or.inl rfl)) (fun _ _ _ _ _ => pts_nil) (fun _ _ _ _ _ => (pe_xat (pv 3)))) pa_nil))))))
    pss_nil)
    (pss_cons (ps_set (i := 2) sc_law_made_last.nd rfl (.inl rfl) (pe_lst (pa_cons (pe_xv (W.x_DarkPanel).t (W.x_DarkPanel).g (W.x_DarkPanel).k hr (pa_cons (pv 1) pa_nil)) (pa_cons (pe_xvk (W.x_DarkPanel).t (W.x_DarkPanel).g (W.x_DarkPanel).k hr (pk_cons (pv 1) pk_nil)) pa_nil))))
    (pss_one (ps_ret (pe_tup (pa_cons (pv 2) (pa_cons (pe_lc (own := [("e", 3)]) (g := gName 3) (tt := tYes) (te := (tXat K "panel" (tVar 3))) rfl sc_law_made_last.nd (pi_list (pv 2)) (blkOk_by (N := ["at", "x", "made", "e"]) (sc := defScope s_law_made_last) (by decide +kernel)) (fun _ _ _ _ _ => pg_name (i := 3) sc_law_made_last.nd rfl (Or.inl rfl)) (fun _ _ _ _ _ => pts_nil) (fun _ _ _ _ _ => (pe_xat (pv 3)))) pa_nil)))))))))), ?_⟩
  refine ⟨_, rfl, rfl, _, rfl, ?_⟩
  refine ite2 (fun e => ?_) (fun e => ?_)
  · have e2 : (k : Int) = 10 := V.int.inj (of_decide_eq_true e)
    obtain rfl : k = 10 := by omega
    exact rd_branch (XH.xf_of W.x_BadPlace.c) W.x_BadPlace.t.noN fun p m l e1 e2 H' x h1 h2 h3 h4 h5 => q _ p m l e1 e2 H' rfl x h1 h2 h3 h4 h5
  have n10 : ¬ k = 10 := fun z => e (decide_eq_true (by rw [z]; rfl))
  refine ⟨_, rfl, rfl, _, rfl, ?_⟩
  refine ite2 (fun e => ?_) (fun e => ?_)
  · have e2 : (k : Int) = 11 := V.int.inj (of_decide_eq_true e)
    obtain rfl : k = 11 := by omega
    exact rd_branch (XH.xf_of W.x_BadRun.c) W.x_BadRun.t.noN fun p m l e1 e2 H' x h1 h2 h3 h4 h5 => q _ p m l e1 e2 H' rfl x h1 h2 h3 h4 h5
  have n11 : ¬ k = 11 := fun z => e (decide_eq_true (by rw [z]; rfl))
  refine ⟨_, rfl, rfl, _, rfl, ?_⟩
  refine ite2 (fun e => ?_) (fun e => ?_)
  · have e2 : (k : Int) = 12 := V.int.inj (of_decide_eq_true e)
    obtain rfl : k = 12 := by omega
    exact rd_branch (XH.xf_of W.x_BadWholeText.c) W.x_BadWholeText.t.noN fun p m l e1 e2 H' x h1 h2 h3 h4 h5 => q _ p m l e1 e2 H' rfl x h1 h2 h3 h4 h5
  have n12 : ¬ k = 12 := fun z => e (decide_eq_true (by rw [z]; rfl))
  refine ⟨_, rfl, rfl, _, rfl, ?_⟩
  refine ite2 (fun e => ?_) (fun e => ?_)
  · have e2 : (k : Int) = 13 := V.int.inj (of_decide_eq_true e)
    obtain rfl : k = 13 := by omega
    exact rd_branch (XH.xf_of W.x_BadWire.c) W.x_BadWire.t.noN fun p m l e1 e2 H' x h1 h2 h3 h4 h5 => q _ p m l e1 e2 H' rfl x h1 h2 h3 h4 h5
  have n13 : ¬ k = 13 := fun z => e (decide_eq_true (by rw [z]; rfl))
  obtain rfl : k = 14 := by omega
  exact rd_branch (XH.xf_of W.x_DarkPanel.c) W.x_DarkPanel.t.noN fun p m l e1 e2 H' x h1 h2 h3 h4 h5 => q _ p m l e1 e2 H' rfl x h1 h2 h3 h4 h5
theorem c_law_made_last (W : Wld K mg) : Cal P w K mg base 2 "_law_made_last" ["at", "x"] (spMade K 10 15) := by
  obtain ⟨fd, F⟩ := W.c.def_ 9 rfl
  exact ⟨⟨fd, ok_made_last W F, F.bindsN fun _ _ _ _ _ _ us hl => match us, hl with | [_, _], _ => rfl⟩, W.g_law_made_last, F.kp⟩
end
end K89

set_option Elab.async false
set_option linter.all false
set_option maxRecDepth 100000
set_option maxHeartbeats 400000
namespace K89
open PySem PySem.Spec PyProof.Rows L2 DL
section
variable {P : Program} {w : World} {K : PySem.W.Frag} {mg : Str → Option Value} {base : Heap} {f : Addr} {fd : FuncData}
theorem sc_law_made_at : FnScope ["at", "x"] ["at", "x"] (defScope s_law_made_at) := ⟨rfl, rfl, rfl, by decide +kernel, rfl, by decide +kernel, by decide +kernel⟩
theorem ok_made_at (W : Wld K mg) (F : FnP K "_law_made_at" s_law_made_at f fd) : FnOk P w K mg base CX0 3 f fd ["at", "x"] (spMade K 0 15) := by
  have C_law_made_first : Cal P w K mg base 2 "_law_made_first" ["at", "x"] (spMade K 0 5) := c_law_made_first W
  have C_law_made_middle : Cal P w K mg base 2 "_law_made_middle" ["at", "x"] (spMade K 5 10) := c_law_made_middle W
  have C_law_made_last : Cal P w K mg base 2 "_law_made_last" ["at", "x"] (spMade K 10 15) := c_law_made_last W
  refine F.ok sc_law_made_at (fun vs H Q E h => ?_) (fun cdv A outer s H vs Q E hr h => ?_)
  · obtain ⟨k, v, rfl, _⟩ := h
    rfl
  obtain ⟨k, v, rfl, h1, h2, q⟩ := h
  refine ⟨_, PSs.nox (pss_cons (ps_if (pt_cmpR op_lt (pv 0) pe_int (nomark _))
    (pss_one (ps_ret (pe_c C_law_made_first (hr.mono (by decide)) (pa_cons (pv 0) (pa_cons (pv 1) pa_nil)))))
    pss_nil)
    (pss_one (ps_ret (pe_ifExp (pt_cmpR op_lt (pv 0) pe_int (nomark _)) (pe_c C_law_made_middle (hr.mono (by decide)) (pa_cons (pv 0) (pa_cons (pv 1) pa_nil))) (pe_c C_law_made_last (hr.mono (by decide)) (pa_cons (pv 0) (pa_cons (pv 1) pa_nil))))))), ?_⟩
  refine ⟨_, rfl, _, _, rfl, rfl, _, rfl, ?_⟩
  refine ite2 (fun e => ?_) (fun e => ?_)
  · have e2 : (k : Int) < 5 := of_decide_eq_true e
    exact ⟨_, rfl, _, rfl, k, v, rfl, h1, (by omega), q⟩
  have n1 : ¬ (k : Int) < 5 := fun z => e (decide_eq_true z)
  refine ⟨_, rfl, _, _, rfl, rfl, _, rfl, ?_⟩
  refine ite2 (fun e => ?_) (fun e => ?_)
  · have e2 : (k : Int) < 10 := of_decide_eq_true e
    exact ⟨_, rfl, _, rfl, k, v, rfl, (by omega), (by omega), q⟩
  have n2 : ¬ (k : Int) < 10 := fun z => e (decide_eq_true z)
  exact ⟨_, rfl, _, rfl, k, v, rfl, (by omega), h2, q⟩
theorem c_law_made_at (W : Wld K mg) : Cal P w K mg base 3 "_law_made_at" ["at", "x"] (spMade K 0 15) := by
  obtain ⟨fd, F⟩ := W.c.def_ 10 rfl
  exact ⟨⟨fd, ok_made_at W F, F.bindsN fun _ _ _ _ _ _ us hl => match us, hl with | [_, _], _ => rfl⟩, W.g_law_made_at, F.kp⟩
theorem c_law_same (W : Wld K mg) (n : Nat) : Cal P w K mg base n "_law_same" ["found", "due"] (spSame K n) := by
  obtain ⟨fd, F⟩ := W.c.def_ 3 rfl
  have b : Binds K fd ["found", "due"] [] := F.bindsN fun _ _ _ _ _ _ us hl => match us, hl with | [_, _], _ => rfl
  refine ⟨⟨fd, ?_, b⟩, W.g_law_same, F.kp⟩
  induction n with
  | zero => exact ⟨fun _ _ _ _ h => h.elim, fun _ _ _ _ _ _ _ _ _ _ _ _ _ h => h.elim⟩
  | succ n ih => exact ok_same n W F W.g_law_same F.kp b ih
/-! ### what is drawn, as data -/
theorem dens_rep {b : Bool} {H : Hp} (x : Str) : ∀ j : Nat, Dens K b H (List.replicate j (.str x)) (List.replicate j (.str x))
  | 0 => .nil
  | j + 1 => .cons (.str x) (dens_rep x j)
theorem Thing.den {H : Hp} {m : Nat} {v : V} (h : Thing H m v) (hm : m ≤ 1000) : ∃ d, Den K true H v d ∧ Okd 2 d := by
  cases h with
  | int i => exact ⟨_, .int i, trivial⟩
  | str x => exact ⟨_, .str x, trivial⟩
  | non => exact ⟨_, .non, trivial⟩
  | bl b => exact ⟨_, .bl b, trivial⟩
  | tup h => exact ⟨_, .tup (SqT.of h) (.cons (.int 1) (.cons (.int _) .nil)), by simp [Okd]⟩
  | lst h h2 hj =>
    refine ⟨_, .lst (SqL.of h) (.cons (.int _) (.cons (.lst (SqL.of h2) (.cons (.int 1) .nil)) (dens_rep _ _))), ?_⟩
    refine ⟨by simp; omega, fun x hx => ?_⟩
    rcases List.mem_cons.mp hx with rfl | hx
    · simp [Okd]
    rcases List.mem_cons.mp hx with rfl | hx
    · simp [Okd]
    · obtain rfl := List.eq_of_mem_replicate hx
      simp [Okd]
  | dic h hk =>
    rcases hk with rfl | rfl
    · exact ⟨_, .dic h (.cons (.int _) .nil), by simp [Okd, noDic]⟩
    · exact ⟨_, .dic h (.cons (.int _) (.cons (.int _) .nil)), by simp [Okd, noDic]; decide +kernel⟩
/-! ### the very same object -/
def spVery : Sp := fun vs H Q _ => ∃ (v : V) (m : Nat), vs = [v, v] ∧ Thing H m v ∧ m < 1000 ∧ ∀ H', Thing H' (m + 1) v → (∀ b o, H b = some o → v ≠ .ref b → H' b = some o) → Q (.bl true) H'
theorem sc_law_very : FnScope ["kept", "thing"] ["kept", "thing"] (defScope s_law_very) := ⟨rfl, rfl, rfl, by decide +kernel, rfl, by decide +kernel, by decide +kernel⟩
theorem ok_very (W : Wld K mg) (F : FnP K "_law_very" s_law_very f fd) : FnOk P w K mg base CX0 4 f fd ["kept", "thing"] spVery := by
  have C_law_same : Cal P w K mg base 3 "_law_same" ["found", "due"] (spSame K 3) := c_law_same W 3
  refine F.ok sc_law_very (fun vs H Q E h => ?_) (fun cdv A outer s H vs Q E hr h => ?_)
  · obtain ⟨v, m, rfl, _⟩ := h
    rfl
  obtain ⟨v, m, rfl, ht, hm, k⟩ := h
  refine ⟨_, PSs.nox (pss_cons (ps_if (pt_val (pe_callB call_isi (by rfl) W.n_isinstance (by decide +kernel) (pa_cons (pv 1) (pa_cons (pe_bltn (v := .ty "list") (by rfl) W.n_list (by decide +kernel) rfl) pa_nil))))
    (pss_one (ps_expr (pe_bm PySem.F.plainAttrs_list PySem.F.slot_list_append PySem.F.type_list_append mt_append (pv 1) (pa_cons pe_str pa_nil))))
    pss_nil)
    (pss_cons (ps_if (pt_val (pe_callB call_isi (by rfl) W.n_isinstance (by decide +kernel) (pa_cons (pv 1) (pa_cons (pe_bltn (v := .ty "dict") (by rfl) W.n_dict (by decide +kernel) rfl) pa_nil))))
    (pss_one (ps_dput (hu_of hr) (pv 1) pe_str pe_int rfl))
    pss_nil)
    (pss_one (ps_ret (pe_c C_law_same (hr.mono (by decide)) (pa_cons (pv 0) (pa_cons (pv 1) pa_nil))))))), ?_⟩
  have fin : ∀ H1, Thing H1 (m + 1) v → (∀ b o, H b = some o → v ≠ .ref b → H1 b = some o) → spSame K 3 [v, v] H1 Q E0 := fun H1 t1 f1 => by
    obtain ⟨d, hd, ok⟩ := t1.den (K := K) (by omega)
    refine ⟨v, v, d, d, rfl, hd.weak, hd, ok, fun H2 e2 => ?_⟩
    rw [decide_eq_true rfl]
    exact k H2 (t1.mono e2) fun b o q n => e2 b o (f1 b o q n)
  cases ht with
  | int i => exact rd_isi rfl (.int i) (b := true) (K := K) ki_IL ⟨_, rfl, iteF (rd_isi rfl (.int i) (b := true) (K := K) ki_ID ⟨_, rfl, iteF ⟨_, rfl, _, rfl, fin H (.int i) fun _ _ q _ => q⟩⟩)⟩
  | str x => exact rd_isi rfl (.str x) (b := true) (K := K) ki_SL ⟨_, rfl, iteF (rd_isi rfl (.str x) (b := true) (K := K) ki_SD ⟨_, rfl, iteF ⟨_, rfl, _, rfl, fin H (.str x) fun _ _ q _ => q⟩⟩)⟩
  | non => exact rd_isi rfl .non (b := true) (K := K) ki_NL ⟨_, rfl, iteF (rd_isi rfl .non (b := true) (K := K) ki_ND ⟨_, rfl, iteF ⟨_, rfl, _, rfl, fin H .non fun _ _ q _ => q⟩⟩)⟩
  | bl x => exact rd_isi rfl (.bl x) (b := true) (K := K) ki_BL ⟨_, rfl, iteF (rd_isi rfl (.bl x) (b := true) (K := K) ki_BD ⟨_, rfl, iteF ⟨_, rfl, _, rfl, fin H (.bl x) fun _ _ q _ => q⟩⟩)⟩
  | tup h =>
    have hd : Den K true H _ _ := .tup (SqT.of h) (.cons (.int 1) (.cons (.int _) .nil))
    exact rd_isi rfl hd ki_TL ⟨_, rfl, iteF (rd_isi rfl hd ki_TD ⟨_, rfl, iteF ⟨_, rfl, _, rfl, fin H (.tup h) fun _ _ q _ => q⟩⟩)⟩
  | lst h h2 hj =>
    rename_i p q n j
    have hd : Den K true H (.ref p) _ := .lst (SqL.of h) (.cons (.int _) (.cons (.lst (SqL.of h2) (.cons (.int 1) .nil)) (dens_rep _ _)))
    refine rd_isi rfl hd ki_LL ⟨_, rfl, iteT ?_⟩
    have npq : q ≠ p := ne_of h2 h fun z => by
      have z2 := congrArg List.length (HO.lst.inj z)
      simp at z2
    refine ⟨_, rfl, .inl ⟨rfl, _, SqL.of h⟩, p, _, _, rfl, rfl, h, (by rw [sizeLine_eq]; simp; omega), ?_⟩
    have h1 : upd H p (.lst ((V.int n :: V.ref q :: List.replicate j (.str "more")) ++ [.str "more"])) p = some (.lst (V.int n :: V.ref q :: List.replicate (j + 1) (.str "more"))) := by
      rw [upd_same, List.replicate_succ']
      rfl
    have h3 : upd H p (.lst ((V.int n :: V.ref q :: List.replicate j (.str "more")) ++ [.str "more"])) q = some (.lst [.int 1]) := by
      rw [upd_ne npq]
      exact h2
    have fr : ∀ b o, H b = some o → V.ref p ≠ .ref b → upd H p (.lst ((V.int n :: V.ref q :: List.replicate j (.str "more")) ++ [.str "more"])) b = some o := fun b o q n => by
      rw [upd_ne (fun z => n (by rw [z]))]
      exact q
    have hd1 : Den K true _ (.ref p) _ := .lst (SqL.of h1) (.cons (.int _) (.cons (.lst (SqL.of h3) (.cons (.int 1) .nil)) (dens_rep _ _)))
    exact rd_isi rfl hd1 ki_LD ⟨_, rfl, iteF ⟨_, rfl, _, rfl, fin _ (.lst h1 h3 (by omega)) fr⟩⟩
  | dic h hk =>
    rename_i p n kvs
    have hd : ∃ d, Den K true H (.ref p) (.dic d) := by
      rcases hk with rfl | rfl
      · exact ⟨_, .dic h (.cons (.int _) .nil)⟩
      · exact ⟨_, .dic h (.cons (.int _) (.cons (.int _) .nil))⟩
    obtain ⟨d, hd⟩ := hd
    have pk : putK kvs (Sum.inr ("more" : Str)) (V.int 1) = [(Sum.inr ("a" : Str), V.int n), (Sum.inr ("more" : Str), V.int 1)] := by
      rcases hk with rfl | rfl
      · rfl
      · rfl
    have hl : kvs.length < sizeLine := by
      rw [sizeLine_eq]
      rcases hk with rfl | rfl
      · show 1 < 16777216
        decide
      · show 2 < 16777216
        decide
    refine rd_isi rfl hd ki_DL ⟨_, rfl, iteF (rd_isi rfl hd ki_DD ⟨_, rfl, iteT ?_⟩)⟩
    refine ⟨_, rfl, p, _, rfl, DPut.k (k := Sum.inr ("more" : Str)) h hl, ?_⟩
    rw [pk]
    refine ⟨_, rfl, _, rfl, fin _ (.dic upd_same (.inr rfl)) fun b o q n => ?_⟩
    rw [upd_ne (fun z => n (by rw [z]))]
    exact q
theorem c_law_very (W : Wld K mg) : Cal P w K mg base 4 "_law_very" ["kept", "thing"] spVery := by
  obtain ⟨fd, F⟩ := W.c.def_ 12 rfl
  exact ⟨⟨fd, ok_very W F, F.bindsN fun _ _ _ _ _ _ us hl => match us, hl with | [_, _], _ => rfl⟩, W.g_law_very, F.kp⟩
end
end K89

set_option Elab.async false
set_option linter.all false
set_option maxRecDepth 100000
set_option maxHeartbeats 400000
namespace K89
open PySem PySem.Spec PyProof.Rows L2 DL
section
variable {P : Program} {w : World} {K : PySem.W.Frag} {mg : Str → Option Value} {base : Heap} {f : Addr} {fd : FuncData}
/-! ### the law -/
theorem isP {σ : L2.St} {H : Hp} {Q : VK} (W : Wld K mg) {i : Nat} {e : Addr} {x : Str} (hs : σ[i]? = some (some (.ref e))) (hx : x ∈ allN) (he : Exd H e (He.ga K x)) (q : Q (.bl true) H) :
    tCB (rIsX K) (tCons (tVar i) (tCons (tC (.ref (He.ga K "PanelError"))) tNil)) σ H Q := by
  have hp : ("PanelError" : Str) ∈ allN := by decide +kernel
  refine ⟨_, hs, e, He.ga K x, _, _, true, rfl, he, (W.ln hx).2, .own _, ?_, q⟩
  have z := XH.kit_own (W.ln hx).1 (W.ln hp).1
  rw [z]
  simp
theorem isV {σ : L2.St} {H : Hp} {Q : VK} (W : Wld K mg) {i : Nat} {e : Addr} {x : Str} (hs : σ[i]? = some (some (.ref e))) (hx : x ∈ allN) (he : Exd H e (He.ga K x)) (q : Q (.bl true) H) :
    tCB (rIsX K) (tCons (tVar i) (tCons (tC (.ty "ValueError")) tNil)) σ H Q :=
  ⟨_, hs, e, He.ga K x, _, _, true, rfl, he, (W.ln hx).2, .ty _, XH.kit_ve (W.ln hx).1, q⟩
theorem kinds_main : ∀ i : Fin 15, ∀ x, mainsN[i.val]? = some x → kindsOf x 15 = [i.val] := by
  have h : ∀ i : Fin 15, kindsOf (mainsN.getD i.val "") 15 = [i.val] := by decide +kernel
  intro i x hx
  have z := h i
  rw [List.getD_eq_getElem?_getD, hx] at z
  exact z
theorem eqv_main : ∀ i : Fin 15, PyData.eqv (.list [.int ((i.val : Nat) : Int)]) (.list [.int ((i.val : Nat) : Int)]) = true := by decide +kernel
theorem kinds_none {x : Str} (h : x ∉ mainsN) (n : Nat) : kindsOf x n = [] := by
  unfold kindsOf
  refine List.filter_eq_nil_iff.mpr fun k _ z => h ?_
  exact List.mem_of_getElem? (of_decide_eq_true z)
theorem Thing.off {H : Hp} {m : Nat} {a c : Addr} {N : Nat} {v : V} (t : Thing H m v) (S : StAt H a c N) {b : Addr} (hb : b = a ∨ b = c) : v ≠ .ref b := by
  intro z
  obtain ⟨ns, cur, cnt, mix, h1, h2, _⟩ := S
  subst z
  cases t with
  | tup h =>
    rcases hb with rfl | rfl
    · rw [h1] at h
      cases h
    · rw [h2] at h
      cases h
  | lst h hq hj =>
    rcases hb with rfl | rfl
    · rw [h1] at h
      have z := (List.cons.inj (HO.lst.inj (Option.some.inj h))).1
      cases z
    · rw [h2] at h
      have z := HO.lst.inj (Option.some.inj h)
      match ns, z with
      | [], z => cases z
      | [_], z => cases z
      | _ :: _ :: _, z => cases z
  | dic h hk =>
    rcases hb with rfl | rfl
    · rw [h1] at h
      cases h
    · rw [h2] at h
      cases h
theorem Thing.ne2 {H : Hp} {m : Nat} {l : Addr} {v : V} (t : Thing H m v) (h : H l = some (.lst [v, v])) : v ≠ .ref l := by
  intro z
  subst z
  cases t with
  | tup h2 =>
    rw [h] at h2
    cases h2
  | lst h2 hq hj =>
    rw [h] at h2
    have z := (List.cons.inj (HO.lst.inj (Option.some.inj h2))).1
    cases z
  | dic h2 hk =>
    rw [h] at h2
    cases h2
theorem Thing.neN {H : Hp} {m : Nat} {l : Addr} {v : V} (t : Thing H m v) (h : H l = none) : v ≠ .ref l := by
  intro z
  subst z
  cases t with
  | tup h2 => rw [h] at h2; cases h2
  | lst h2 hq hj => rw [h] at h2; cases h2
  | dic h2 hk => rw [h] at h2; cases h2
theorem Thing.upd {H : Hp} {m j : Nat} {D : Addr} {v : V} {o : HO} (t : Thing H m v) (h : H D = some (.lst (List.replicate j (V.bl true)))) (n : v ≠ .ref D) : Thing (L2.upd H D o) m v := by
  have k : ∀ {b : Addr} {u : HO}, b ≠ D → H b = some u → L2.upd H D o b = some u := fun {b u} e q => by
    rw [upd_ne e]
    exact q
  cases t with
  | int i => exact .int i
  | str x => exact .str x
  | non => exact .non
  | bl b => exact .bl b
  | tup h2 => exact .tup (k (fun e => n (by rw [e])) h2)
  | lst h2 h3 hj =>
    refine .lst (k (fun e => n (by rw [e])) h2) (k (fun e => ?_) h3) hj
    rw [e, h] at h3
    have z := HO.lst.inj (Option.some.inj h3)
    match j, z with
    | 0, z => cases z
    | j + 1, z => cases (List.cons.inj z).1
  | dic h2 hk => exact .dic (k (fun e => n (by rw [e])) h2) hk
def spLaw (K : PySem.W.Frag) : Sp := fun vs H Q _ => ∃ (s : Addr) (ns : List Int), vs = [.ref s] ∧ SqL K H s (ns.map V.int) ∧ ns.length ≤ 63 ∧ ∀ H', Q (.bl true) H'
/-- between two turns -/
def LawW (sv : V) (a c : Addr) (i t : Nat) : L2.St → Hp → Prop := fun σ H => ∃ (N : Nat) (o2 o3 o4 o5 o6 o7 : Option V), σ = [some sv, some (.ref a), o2, o3, o4, o5, o6, o7, none, none] ∧ StAt H a c N ∧ N ≤ 18 * i + 9 * t ∧ (t = 0 ∨ o2 = some (.int (i : Nat)))
theorem sc_law : FnScope ["script", "state", "at", "turn", "thing", "made", "kept", "e", "others", "one"] ["script"] (defScope s_law) := ⟨rfl, rfl, rfl, by decide +kernel, rfl, by decide +kernel, by decide +kernel⟩
theorem ok_law (W : Wld K mg) (F : FnP K "law" s_law f fd) : FnOk P w K mg base CX0 5 f fd ["script"] (spLaw K) := by
  have C_law_start : Cal P w K mg base 1 "_law_start" ["script"] (spStart K) := c_law_start W
  have C_law_object : Cal P w K mg base 4 "_law_object" ["state"] spObject := c_law_object W
  have C_law_made_at : Cal P w K mg base 3 "_law_made_at" ["at", "x"] (spMade K 0 15) := c_law_made_at W
  have C_law_kinds_of : Cal P w K mg base 1 "_law_kinds_of" ["e"] (spKinds K) := c_law_kinds_of W
  have C_law_is_other : Cal P w K mg base 1 "_law_is_other" ["e"] (spIsOther K) := c_law_is_other W
  have C_law_very : Cal P w K mg base 4 "_law_very" ["kept", "thing"] spVery := c_law_very W
  have C_law_others : Cal P w K mg base 2 "_law_others" ["x"] (spOthers K) := c_law_others W
  have C_law_pick : Cal P w K mg base 2 "_law_pick" ["state", "many"] spPick := c_law_pick W
  refine F.ok sc_law (fun vs H Q E h => ?_) (fun cdv A outer s H vs Q E hr h => ?_)
  · obtain ⟨a, ns, rfl, _⟩ := h
    rfl
  obtain ⟨s0, ns, rfl, hS, hl, k⟩ := h
  refine ⟨_, PSs.nox (pss_cons (ps_set (i := 1) sc_law.nd rfl (.inl rfl) (pe_c C_law_start (hr.mono (by decide)) (pa_cons (pv 0) pa_nil)))
    (pss_cons (ps_for PassesOwn.never rfl (pi_range1 (by rfl) W.n_range (pa_cons pe_int pa_nil)) (pg_name (i := 2) sc_law.nd rfl (.inl rfl))
    (pss_one (ps_for PassesOwn.never rfl (pi_range1 (by rfl) W.n_range (pa_cons pe_int pa_nil)) (pg_name (i := 3) sc_law.nd rfl (.inl rfl))
    (pss_cons (ps_set (i := 4) sc_law.nd rfl (.inr rfl) (pe_c C_law_object (hr.mono (by decide)) (pa_cons (pv 1) pa_nil)))
    (pss_cons (ps_asg (pe_c C_law_made_at (hr.mono (by decide)) (pa_cons (pv 2) (pa_cons (pv 4) pa_nil))) (pg_tup rfl (pgs_cons (pg_name (i := 5) sc_law.nd rfl (.inl rfl)) (pgs_cons (pg_name (i := 6) sc_law.nd rfl (.inl rfl)) pgs_nil))))
    (pss_cons (ps_for PassesOwn.never rfl (pi_list (pv 5)) (pg_name (i := 7) sc_law.nd rfl (.inl rfl))
    (pss_one (ps_if (PW.pt (pw_or (pt_not (pt_val (pe_callB call_isX (by rfl) W.n_isinstance (by decide +kernel) (pa_cons (pv 7) (pa_cons (pe_glob (v := .ref (He.ga K "PanelError")) (by rfl) W.g_PanelError rfl) pa_nil))))) (pw_or (pt_not (pt_val (pe_callB call_isX (by rfl) W.n_isinstance (by decide +kernel) (pa_cons (pv 7) (pa_cons (pe_bltn (v := .ty "ValueError") (by rfl) W.n_ValueError (by decide +kernel) rfl) pa_nil))))) (pw_or (pt_cmpR (op_neD hr.units) (pe_c C_law_kinds_of (hr.mono (by decide)) (pa_cons (pv 7) pa_nil)) (pe_lst (pa_cons (pv 2) pa_nil)) (nomark _)) (pw_or1 (pt_val (pe_c C_law_is_other (hr.mono (by decide)) (pa_cons (pv 7) pa_nil))))))))
    (pss_one (ps_ret pe_bl))
    pss_nil)))
    (pss_one (ps_if (pt_not (pt_val (pe_callB (cr_all rfl) (by rfl) W.n_all (by decide +kernel) (pa_cons (pe_lc (own := [("one", 9)]) (g := gName 9) (tt := tYes) (te := (tCall spVery [] E0 (tCons (tVar 9) (tCons (tVar 4) tNil)))) rfl sc_law.nd (pi_list (pv 6)) (blkOk_by (N := ["script", "state", "at", "turn", "thing", "made", "kept", "e", "others", "one"]) (sc := defScope s_law) (by decide +kernel)) (fun _ _ _ _ _ => pg_name (i := 9) sc_law.nd rfl (Or.inl rfl)) (fun _ _ _ _ _ => pts_nil) (fun _ _ _ _ _ => (pe_c C_law_very (hr.mono (by decide)) (pa_cons (pv 9) (pa_cons (pv 4) pa_nil))))) pa_nil))))
    (pss_one (ps_ret pe_bl))
    pss_nil))))))))
    (pss_cons (ps_set (i := 8) sc_law.nd rfl (.inl rfl) (pe_c C_law_others (hr.mono (by decide)) (pa_cons (pe_c C_law_pick (hr.mono (by decide)) (pa_cons (pv 1) (pa_cons pe_int pa_nil))) pa_nil)))
    (pss_one (ps_ret (pe_callB (cr_all rfl) (by rfl) W.n_all (by decide +kernel) (pa_cons (pe_lc (own := [("e", 7)]) (g := gName 7) (tt := tYes) (te := (tAndV (tOp (rEqD K) (tCall (spKinds K) [] E0 (tCons (tVar 7) tNil)) (tLst tNil)) (tAndV (tCB (rIsX K) (tCons (tVar 7) (tCons (tC (.ref (He.ga K "PanelError"))) tNil))) (tCB (rIsX K) (tCons (tVar 7) (tCons (tC (.ty "ValueError")) tNil)))))) rfl sc_law.nd (pi_list (pv 8)) (blkOk_by (N := ["script", "state", "at", "turn", "thing", "made", "kept", "e", "others", "one"]) (sc := defScope s_law) (by decide +kernel)) (fun _ _ _ _ _ => pg_name (i := 7) sc_law.nd rfl (Or.inl rfl)) (fun _ _ _ _ _ => pts_nil) (fun _ _ _ _ _ => (pe_and (pe_cmpR (op_eqD hr.units) (pe_c C_law_kinds_of (hr.mono (by decide)) (pa_cons (pv 7) pa_nil)) (pe_lst pa_nil) (nomark _)) (pe_and (pe_callB call_isX (by rfl) W.n_isinstance (by decide +kernel) (pa_cons (pv 7) (pa_cons (pe_glob (v := .ref (He.ga K "PanelError")) (by rfl) W.g_PanelError rfl) pa_nil))) (pe_one (pe_callB call_isX (by rfl) W.n_isinstance (by decide +kernel) (pa_cons (pv 7) (pa_cons (pe_bltn (v := .ty "ValueError") (by rfl) W.n_ValueError (by decide +kernel) rfl) pa_nil)))))))) pa_nil))))))), ?_⟩
  refine ⟨_, rfl, s0, ns, rfl, hS, hl, fun a c H1 S1 e1 ha hc => ?_⟩
  refine ⟨15, rfl, by decide, by decide, ?_⟩
  refine for_range (lo := 0) (n := (15 : Int).toNat) (fun i => LawW (.ref s0) a c i 0) ⟨0, _, _, _, _, _, _, rfl, S1, by omega, .inl rfl⟩ ?_ ?_
  · rintro i σ H2 hi ⟨N, o2, o3, o4, o5, o6, o7, rfl, S2, hN, _⟩
    have hi2 : i < 15 := hi
    rw [Int.zero_add]
    refine ⟨2, rfl, by decide, by decide, ?_⟩
    refine for_range (lo := 0) (n := (2 : Int).toNat) (fun t σ H => LawW (.ref s0) a c i t σ H ∧ σ[2]? = some (some (.int (i : Nat)))) ⟨⟨N, _, _, _, _, _, _, rfl, S2, by omega, .inl rfl⟩, rfl⟩ ?_ ?_
    · rintro t σ H3 ht ⟨⟨N3, o2, o3, o4, o5, o6, o7, rfl, S3, hN3, _⟩, h2⟩
      obtain rfl : o2 = some (.int (i : Nat)) := by simpa using h2
      have ht2 : t < 2 := ht
      refine ⟨_, rfl, a, c, N3, rfl, S3, by omega, fun v H4 t4 S4 _ => ?_⟩
      refine ⟨_, rfl, _, rfl, i, v, rfl, by omega, hi2, fun x p m l x1 x2 H5 hx e5 hp hm hl d1 d2 => ?_⟩
      have t5 := t4.mono e5
      have S5 : StAt H5 a c (N3 + 9) := S4.keep fun b o q _ => e5 b o q
      refine ⟨p, _, rfl, SqT.of hp, rfl, _, _, rfl, _, _, rfl, rfl, ?_⟩
      refine ⟨_, rfl, m, rfl, ⟨_, SqL.of hm⟩, ?_⟩
      have hxm : x ∈ mainsN := List.mem_of_getElem? hx
      have hxa : x ∈ allN := mains_all x hxm
      refine for_list (xs := [V.ref x1, V.ref x2]) (fun j σ H => Ex H5 H ∧ ∃ o7, σ = [some (.ref s0), some (.ref a), some (.int (i : Nat)), some (.int (0 + (t : Nat))), some v, some (.ref m), some (.ref l), o7, none, none]) ⟨Ex.refl _, _, rfl⟩ (fun j σ H _ ⟨q, _⟩ => SqL.of (q _ _ hm)) ?_ ?_
      · rintro j y σ H6 hj ⟨e6, o7, rfl⟩
        have hy : ∃ e, y = .ref e ∧ Exd H5 e (He.ga K x) := by
          match j, hj with
          | 0, hj => exact ⟨x1, by simpa using hj.symm, d1⟩
          | 1, hj => exact ⟨x2, by simpa using hj.symm, d2⟩
        obtain ⟨e, rfl, de⟩ := hy
        have de6 := XL.exd_mono e6 de
        refine isP W rfl hxa de6 ⟨_, rfl, iteF ?_⟩
        refine isV W rfl hxa de6 ⟨_, rfl, iteF ?_⟩
        refine ⟨_, rfl, e, x, rfl, hxa, de6, fun p7 H7 e7 hp7 hl7 => ?_⟩
        rw [kinds_main ⟨i, hi2⟩ x hx] at hl7
        refine ⟨_, rfl, (by show 1 ≤ sizeLine; decide), fun q7 hq7 => ?_⟩
        have e8 := (Ex.refl H7).new (o := .lst [V.int (i : Nat)]) hq7
        refine ⟨.list [.int (i : Nat)], .list [.int (i : Nat)], .lst (SqL.of (e8 _ _ hl7)) (.cons (.int _) .nil), .lst (SqL.of upd_same) (.cons (.int _) .nil), PySem.W.ke_shaped_ints [(i : Int)], PySem.W.ke_shaped_ints [(i : Int)], _, rfl, ?_⟩
        rw [eqv_main ⟨i, hi2⟩]
        refine iteF ?_
        refine ⟨_, rfl, e, x, rfl, hxm, XL.exd_mono e8 (XL.exd_mono e7 de6), fun H8 e9 => ⟨_, rfl, iteF ?_⟩⟩
        exact ⟨e6.trans (e7.trans (e8.trans e9)), _, rfl⟩
      · rintro σ H6 ⟨e6, o7, rfl⟩
        have t6 := t5.mono e6
        have S6 : StAt H6 a c (N3 + 9) := S5.keep fun b o q _ => e6 b o q
        have hl6 := e6 _ _ hl
        refine ⟨_, rfl, l, rfl, ⟨_, SqL.of hl6⟩, fun D hD => ?_⟩
        have nD : v ≠ .ref D := t6.neN hD
        have nl : v ≠ .ref l := t6.ne2 hl6
        refine lc_list (xs := [v, v]) (fun j H => H D = some (.lst (List.replicate j (V.bl true))) ∧ Thing H j v ∧ (∀ b o, H6 b = some o → v ≠ .ref b → H b = some o)) ⟨upd_same, t6.mono ((Ex.refl H6).new hD), fun b o q _ => (Ex.refl H6).new hD b o q⟩ (fun j H _ ⟨_, _, q⟩ => SqL.of (q _ _ hl6 nl)) ?_ ?_
        · rintro j y H7 hj ⟨hD7, t7, f7⟩
          have hj2 : j < 2 := (List.getElem?_eq_some_iff.mp hj).1
          obtain rfl : y = v := by
            match j, hj with
            | 0, hj => simpa using hj.symm
            | 1, hj => simpa using hj.symm
          refine ⟨rfl, ?_⟩
          refine ⟨_, rfl, _, rfl, y, j, rfl, t7, by omega, fun H8 t8 f8 => ⟨_, f8 _ _ hD7 nD, ?_, ?_, ?_, ?_⟩⟩
          · rw [List.length_replicate, sizeLine_eq]
            omega
          · rw [upd_same, List.replicate_succ']
          · exact t8.upd (f8 _ _ hD7 nD) nD
          · intro b o q n
            have nb : b ≠ D := fun w => by
              rw [w, hD] at q
              cases q
            rw [upd_ne nb]
            exact f8 _ _ (f7 b o q n) n
        · rintro H7 ⟨hD7, t7, f7⟩
          refine ⟨D, [true, true], rfl, SqL.of hD7, _, rfl, iteF ?_⟩
          refine ⟨⟨N3 + 9, _, _, _, _, _, _, rfl, S6.keep fun b o q hb => f7 b o q (t6.off S6 hb), by omega, .inr rfl⟩, rfl⟩
    · rintro σ H3 ⟨⟨N3, o2, o3, o4, o5, o6, o7, rfl, S3, hN3, _⟩, h2⟩
      have z : (2 : Int).toNat = 2 := rfl
      rw [z] at hN3
      exact ⟨N3, _, _, _, _, _, _, rfl, S3, by omega, .inl rfl⟩
  · rintro σ H2 ⟨N, o2, o3, o4, o5, o6, o7, rfl, S2, hN, _⟩
    have z : (15 : Int).toNat = 15 := rfl
    rw [z] at hN
    refine ⟨_, rfl, a, c, N, 9, rfl, S2, by omega, by decide, by decide, fun r H3 r1 r2 S3 B3 => ?_⟩
    refine ⟨.int r, rfl, fun p H4 es e4 hp hl4 hn hes => ?_⟩
    refine ⟨_, rfl, p, rfl, ⟨_, SqL.of hl4⟩, fun D hD => ?_⟩
    refine lc_map (walk_list (xs := es.map fun q => V.ref q.1)) (fun _ z _ => z = .bl true) (by rw [List.length_map, sizeLine_eq]; omega) hD (fun H5 e5 => SqL.of (e5 _ _ hl4)) (fun _ _ _ _ q _ => q) ?_ ?_
    · rintro i y H5 H6 Q2 hi e5 ⟨eh, hy⟩ q
      obtain rfl : H5 = H6 := eh.symm
      obtain ⟨⟨e, x⟩, hm, rfl⟩ : ∃ q, q ∈ es ∧ y = V.ref q.1 := by
        rw [List.getElem?_map] at hy
        cases hq : es[i]? with
        | none => rw [hq] at hy; cases hy
        | some q =>
          rw [hq] at hy
          exact ⟨q, List.mem_of_getElem? hq, (Option.some.inj hy).symm⟩
      obtain ⟨ha2, hno, he⟩ := hes _ hm
      have he5 := XL.exd_mono e5 he
      refine ⟨rfl, ?_⟩
      refine ⟨_, rfl, e, x, rfl, ha2, he5, fun p7 H7 e7 hp7 hl7 => ?_⟩
      rw [kinds_none hno] at hl7
      refine ⟨by show 0 ≤ sizeLine; omega, fun q7 hq7 => ?_⟩
      have e8 := (Ex.refl H7).new (o := .lst []) hq7
      refine ⟨.list [], .list [], .lst (SqL.of (e8 _ _ hl7)) .nil, .lst (SqL.of upd_same) .nil, by decide, by decide, _, rfl, ?_⟩
      refine iteT ?_
      have he8 := XL.exd_mono e8 (XL.exd_mono e7 he5)
      refine isP W rfl ha2 he8 ⟨_, rfl, iteT ?_⟩
      exact isV W rfl ha2 he8 (q _ _ (e7.trans e8) rfl)
    · intro H5 ys hys hlen e5 hr2
      have el : ys = (List.replicate ys.length true).map V.bl := by
        refine List.ext_getElem? fun i => ?_
        by_cases h : i < ys.length
        · rw [List.getElem?_map, List.getElem?_replicate, if_pos h, List.getElem?_eq_getElem h]
          exact congrArg some (hr2 i _ (List.getElem?_eq_getElem h))
        · rw [List.getElem?_eq_none (by omega), List.getElem?_eq_none (by simp; omega)]
      refine ⟨D, List.replicate ys.length true, rfl, SqL.of (by rw [hys, ← el]), ?_⟩
      have ea : (List.replicate ys.length true).all id = true := List.all_eq_true.mpr fun b hb => by
        rw [List.eq_of_mem_replicate hb]
        rfl
      rw [ea]
      exact k H5
end
end K89

set_option Elab.async false
set_option linter.all false
set_option maxRecDepth 100000
set_option maxHeartbeats 400000
namespace K89
open PySem PySem.Spec PyProof.Rows L2
/-! ### the head, joined -/
abbrev hk : PySem.W.Hook := XH.hookR ats fa fn exK
def obN (s : PySem.W.SharedT) : Bool × He.AlD := XH.obsR ats fa fn exK (HandSHeadRun.getT s)
theorem obN_eq (s : PySem.W.SharedT) : obN s = hk.obs s.abs := by
  unfold obN
  exact XH.obsR_eq (HandSHeadRun.getT_eq s)
theorem join {α β γ δ : Type} {o : Option α} {f : α → β} {g : α → γ} {a b1 b2 : α → Bool} {c : α → δ} {x : β} {y : γ} {z : δ} (hs : o.map (fun s => (f s, g s)) = some (x, y)) (ha : o.map a = some true) (h1 : o.map b1 = some true) (h2 : o.map b2 = some true) (hc : o.map c = some z) :
    o.map (fun s => (f s, g s, (a s, ((b1 s && b2 s), c s)))) = some (x, y, (true, (true, z))) := by
  cases o with
  | none => cases hs
  | some s =>
    have e1 : a s = true := Option.some.inj ha
    have e2 : b1 s = true := Option.some.inj h1
    have e3 : b2 s = true := Option.some.inj h2
    have e4 : c s = z := Option.some.inj hc
    have e5 : (f s, g s) = (x, y) := Option.some.inj hs
    have e6 : f s = x := congrArg Prod.fst e5
    have e7 : g s = y := congrArg Prod.snd e5
    show some (f s, g s, (a s, ((b1 s && b2 s), c s))) = _
    rw [e1, e2, e3, e4, e6, e7]
    rfl
theorem runB2 (w : World) (os : OsState) : (HandSHeadRun.endF (HandSHeadRun.stepQ (HandSHeadRun.denQ HandSHeadRun.tabQ) RS.prog w) 20000 RS.prog w os).map (fun s => fn.all fun d => d.ok (He.frG (HandSHeadRun.getT s) ats)) = some true := by
  have h0 := runD0 w os
  have h1 := runD1 w os
  have h2 := runD2 w os
  cases e : HandSHeadRun.endF (HandSHeadRun.stepQ (HandSHeadRun.denQ HandSHeadRun.tabQ) RS.prog w) 20000 RS.prog w os with
  | none =>
    rw [e] at h0
    cases h0
  | some s =>
    rw [e] at h0 h1 h2
    have e0 : (fn0.all fun d => d.ok (He.frG (HandSHeadRun.getT s) ats)) = true := Option.some.inj h0
    have e1 : (fn1.all fun d => d.ok (He.frG (HandSHeadRun.getT s) ats)) = true := Option.some.inj h1
    have e2 : (fn2.all fun d => d.ok (He.frG (HandSHeadRun.getT s) ats)) = true := Option.some.inj h2
    show some ((fn0 ++ (fn1 ++ fn2)).all fun d => d.ok (He.frG (HandSHeadRun.getT s) ats)) = some true
    rw [List.all_append, List.all_append]
    exact congrArg some (by rw [e0, e1, e2]; rfl)
theorem run (w : World) : HandSHeadRun.RunEq RS qv hk obN 20000 names w := fun os => join (runS w os) (runA w os) (runB1 w os) (runB2 w os) (runC w os)
theorem facts {P : Program} {w : World} {K : PySem.W.Frag} {h : Heap} {mg : Str → Option Value} {f : Addr} (X : K.In h) (G : h.Ns mainGlobals mg) (hfa : mg ("law" : Str) = some (.ref f)) (c : He.SaysD fa fn K) (b : exK K = true) :
    ∃ fd : FuncData, (∀ (s : Shared) (v : Value), BindsTo s fd ⟨[v], []⟩ [("script", v)]) ∧ ∀ base : Heap, K.In base → base.Ns mainGlobals mg → FnOk P w K mg base CX0 5 f fd ["script"] (spLaw K) := by
  have W : Wld K mg := ⟨⟨h, X, G⟩, c, b⟩
  obtain ⟨fd, F⟩ := W.c.def_ 13 rfl
  have e := hfa.symm.trans W.g_law
  cases e
  have q := FunD.bindsA (ps := ["script"]) F fun _ _ _ _ _ _ us hl => match us, hl with | [_], _ => rfl
  exact ⟨fd, fun s v => q s [v] rfl, fun base _ _ => ok_law W F⟩
end K89
open PySem PySem.W PySem.Calls PyProof.Rows
set_option maxRecDepth 100000
set_option maxHeartbeats 0
theorem PySem.Challenge.cw_steadynets_k89_errors_of_nets_and_answer_holds : PySem.Challenge.rw_steadynets_k89_errors_of_nets_and_answer.Holds := by
  w_on; o_law
  refine HandSHeadRun.head_any (r := OpenLaw.row PySem.Challenge.rw_steadynets_k89_errors_of_nets_and_answer) (q := view (OpenLaw.row PySem.Challenge.rw_steadynets_k89_errors_of_nets_and_answer).prog [87]) (H := K89.hk) (ob := K89.obN) (M := 20000) (loose := K89.names) (d := HandSHeadRun.topDef (OpenLaw.row PySem.Challenge.rw_steadynets_k89_errors_of_nets_and_answer).prog 87) (kwd := []) K89.obN_eq
    (by kernel_rfl) (fun s => by kernel_rfl) K89.run (by kernel_rfl) (by kernel_rfl) (by kernel_rfl) (by rfl) (by first | assumption | decide +kernel) (by decide +kernel) ⟨rfl, rfl, rfl, rfl, rfl, by decide +kernel⟩ ?hw ?hc
  case hw => w_witness2
  case hc =>
    refine L2.walk_ofE (l := PySem.Challenge.rw_steadynets_k89_errors_of_nets_and_answer) (n := 63) (k := 5) (x := "script") (CX := L2.CX0) rfl (by decide) (by kernel_rfl) ⟨rfl, by decide, by decide⟩ ?F (fun _ _ _ _ z => z)
    intro w mg fa h Y G hmg0
    obtain ⟨K, KX, c, b⟩ := Y
    have hmg : mg ("law" : PySem.Str) = some (.ref fa) := by
      have e : (HandSHeadRun.topDef (OpenLaw.row PySem.Challenge.rw_steadynets_k89_errors_of_nets_and_answer).prog 87).name = ("law" : PySem.Str) := by kernel_rfl
      rw [← e]
      exact hmg0
    obtain ⟨fd, hb, hF⟩ := K89.facts (P := (PySem.Challenge.rw_steadynets_k89_errors_of_nets_and_answer).prog) (w := w) KX G hmg c b
    exact ⟨K, fd, K89.spLaw K, KX, hb, fun H a ns hl _ hS => ⟨a, ns, rfl, hS, hl, fun _ => rfl⟩, hF⟩
