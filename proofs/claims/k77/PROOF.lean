import PyProof.Rows.All
import Wide.All
import OpenK.AllK
import Wide.FinOn
import PyProof.EqAt
import PyProof.EqKinds
import PyProof.TupleCall
import HandS.Base
import HandS.Call
import HandS.List
import HandS.Exc
import HandS.ExcInit
import HandS.ExcIs
import HandS.IsInst
import HandS.Defaults
import HandS.ExcValue
import HandS.ExcField
import HandS.ExcOwn
import HandS.Head0
import HandS.Head1
import HandS.Head2
import HandS.HeadEnd
import HandS.HeadHook1
import HandS.HeadHook2
import HandS.Codes
import HandS.ForMost
import HandS.ForExc
import HandS.Conv
import HandS.Zip
import HandS.HeadWalk
import HandS.HeadHook4
import HandS.More
import HandS.Walk
import KE.GoesMore
import HandS.DictComp
import HandS.Lambda
import HandS.NoneIn
import HandS.TryMany
import PyProof.ListStr
import HandS.Style
import KE.DataEq
import KE.IntTextText
import HandS.Text
import HandS.FStr
import HandS.Replace
import HandS.IterVal
import HandS.CallLocal
import PySem.Challenge.RW_steadynets_k77_whole_log_texts
set_option Elab.async false
set_option linter.all false
set_option maxRecDepth 100000
set_option maxHeartbeats 4000000
namespace PySem.XV
open PySem PySem.Spec PySem.W PySem.Calls PyProof.Rows PySem.HandSPX
/-! an own exception class with a one-line __init__, called by position or by its name: the object as a value -/
section
variable {Mo : Model} {Ar : Around} {Er : Value → Shared → Prop} {hp : Heap} {gs : Array GenState} {dr : Drawn} {tk : Nat} {os : OsState}
variable {cn qn : Str} {C NS : Addr} {bs mr mrB : List Value} {hasD : Bool} {sn : List Str} {sub : List Value} {ab : Bool} {col : Option Bool} {dd : Option Addr}
variable {z0 z1 z2 z3 z5 : Option Value} {Bn newId initId : String}

theorem chk_new (F : ExcBaseFacts Bn newId initId mrB) (hT : ∀ X : String, mr.contains (.type X) = mrB.contains (.type X)) {ps : List Value} {kw : List (Str × Value)} {Q : Unit → Shared → Prop}
    (hC : hp.get? C = some (excClassObj cn qn C NS bs mr hasD sn sub ab col dd z0 z1 z2 z3 z5 newId)) (hq : Q () ⟨hp, gs, dr, tk, os⟩) :
    wpAny Mo Ar (checkBuiltinCall newId ⟨.ref C :: ps, kw⟩) Q Er ⟨hp, gs, dr, tk, os⟩ := by
  have hc : (Value.ref C :: mr).contains (.type Bn) = true := by
    rw [List.contains_cons, hT, F.hasB, Bool.or_true]
  have hs := F.noStar
  simp only [checkBuiltinCall, F.newKind, F.newSplit, F.newRow]
  repeat (first
    | refine wpAny_loadPart_at hC ?_
    | (refine wpAny_isSubtype_exc hC ?_; rw [hc])
    | refine wpAny_staticBase_exc hC ?_
    | refine wpAny_madeBy_exc hC ?_
    | simp only [bne_self_eq_false, Bool.false_eq_true, if_false]
    | wp_step)
  exact hq
end
section
variable {prog : Program} {w : World} {Ar : Around} {Er : Value → Shared → Prop} {R : Result → Shared → Prop} {hp : Heap} {gs : Array GenState} {dr : Drawn} {tk : Nat} {os : OsState}
variable {cn qn : Str} {C NS : Addr} {bs mr mrB : List Value} {hasD : Bool} {sn : List Str} {sub : List Value} {ab : Bool} {col : Option Bool} {dd : Option Addr}
variable {z0 z1 z2 z3 z5 : Option Value} {Bn newId initId : String}

theorem new_kw (F : ExcBaseFacts Bn newId initId mrB) (hT : ∀ X : String, mr.contains (.type X) = mrB.contains (.type X)) {ps : List Value} {kw : List (Str × Value)}
    (hC : hp.get? C = some (excClassObj cn qn C NS bs mr hasD sn sub ab col dd z0 z1 z2 z3 z5 newId))
    (hq : R (.ok (.ret (.ref (hp.objs.size + 1)))) ⟨(hp.push (kdv_tup ps)).push (excO C hp.objs.size), gs, dr, tk, os⟩) (hz : ps.length ≤ sizeLine) :
    codeAny (model prog w) Ar (.builtin newId ⟨.ref C :: ps, kw⟩) R ⟨hp, gs, dr, tk, os⟩ := by
  have he := F.ends
  have c1 : (Value.ref C :: mr).contains (.type Bn) = true := by
    rw [List.contains_cons, hT, F.hasB, Bool.or_true]
  have c2 : (Value.ref C :: mr).contains (.type "AttributeError") = false := by
    rw [List.contains_cons, hT, F.noAttr] <;> rfl
  have c3 : (Value.ref C :: mr).contains (.type "NameError") = false := by
    rw [List.contains_cons, hT, F.noName] <;> rfl
  refine codeAny_builtinAt F.entry ?_
  unfold Builtin.«BaseException.__new__»
  refine wpAt_bind ?_
  show wpAt _ _ _ (stack >>= _) _ _ _
  refine wpAt_bind (wpAt_stack fun pq bl => wpAt_of_wpAny ?_)
  wp_walk
  refine wpAt_of_wpAny ?_
  rw [F.owner]
  repeat (first
    | with_reducible refine wpAny_madeHere_exc F.canon hC ?_
    | with_reducible refine wpAny_loadPart_at hC ?_
    | (with_reducible refine wpAny_isSubtype_exc hC ?_; first | rw [c1] | rw [c2] | rw [c3])
    | wp_step)
  show R _ _
  rw [Heap.size_push]
  exact hq

/-- behind the type's own call: what the __init__ gave back -/
def Back (x : Addr) (Q : Fin → Shared → Prop) (Er : Value → Shared → Prop) : Result → Shared → Prop := fun r s' => match r with
  | .ok (.ret v) => v = .none ∧ Q (.done (.ret (.ref x))) s'
  | .ok _ => False
  | .error e => Er e s'
theorem tcall_kw (F : ExcBaseFacts Bn newId initId mrB) (hT : ∀ X : String, mr.contains (.type X) = mrB.contains (.type X)) {ps : List Value} {kw : List (Str × Value)} {fI : Addr} {Q : Fin → Shared → Prop}
    (hC : hp.get? C = some (excClassObj cn qn C NS bs mr hasD sn sub ab col dd z0 z1 z2 z3 z5 newId))
    (hi : Looks (model prog w) hp (typeLookup (.ref C) "__init__") (some (.ref fI)))
    (hb : ∀ self, Looks (model prog w) hp (bindSpecial (.ref fI) self) (.ref fI, [self])) (hz : ps.length ≤ sizeLine)
    (hq : codeAny (model prog w) Ar (.call (.ref fI) ⟨.ref (hp.objs.size + 1) :: ps, kw⟩) (Back (hp.objs.size + 1) Q Er) ⟨(hp.push (kdv_tup ps)).push (excO C hp.objs.size), gs, dr, tk, os⟩) :
    wpAny (model prog w) Ar (Builtin.«type.__call__» ⟨.ref C :: ps, kw⟩) Q Er ⟨hp, gs, dr, tk, os⟩ := by
  repeat (first
    | with_reducible refine wpAny_loadPart_at hC ?_
    | with_reducible refine wpAny_madeBy_exc hC ?_
    | wp_step)
  refine codeAny_call_builtin_code (Code.quiet_builtin _ F.quiet) (chk_new F hT hC ?_)
  refine new_kw F hT hC ?_ hz
  show wpAny _ _ _ _ _ _
  have kk : ∀ b o, hp.get? b = some o → ((hp.push (kdv_tup ps)).push (excO C hp.objs.size)).get? b = some o :=
    fun b o e => Heap.get?_push_of_some _ (Heap.get?_push_of_some _ e)
  have hC1 := kk _ _ hC
  have hg : ((hp.push (kdv_tup ps)).push (excO C hp.objs.size)).get? (hp.objs.size + 1) = some (excO C hp.objs.size) := by
    heap_get
  have hcc : (Value.ref C :: mr).contains (.ref C) = true := by simp
  have i1 := hi.keeps kk
  have b1 := (hb (.ref (hp.objs.size + 1))).keeps kk
  unfold isInstance
  repeat (first
    | with_reducible refine wpAny_loadPart_at hg ?_
    | (with_reducible refine wpAny_isSubtype_exc hC1 ?_; rw [hcc])
    | wp_step)
  show wpAny _ _ (typeLookup (.ref C) _) _ _ _
  refine i1.at ?_
  refine wpAny_holding (wpAny_bind (b1.at ?_))
  refine wpAny_bind (wpAny_call (codeAny_mono hq fun r s' y => ?_))
  cases r with
  | error e => exact y
  | ok fl =>
    cases fl with
    | ret v =>
      obtain ⟨ev, y⟩ := y
      subst ev
      first
        | exact wpAny_pure (wpAny_pure y)
        | (wp_walk; exact y)
    | next => exact False.elim y
    | brk => exact False.elim y
    | cont => exact False.elim y
theorem call_kw (F : ExcBaseFacts Bn newId initId mrB) (hT : ∀ X : String, mr.contains (.type X) = mrB.contains (.type X)) {ps : List Value} {kw : List (Str × Value)} {fI : Addr}
    (hC : hp.get? C = some (excClassObj cn qn C NS bs mr hasD sn sub ab col dd z0 z1 z2 z3 z5 newId))
    (hi : Looks (model prog w) hp (typeLookup (.ref C) "__init__") (some (.ref fI)))
    (hb : ∀ self, Looks (model prog w) hp (bindSpecial (.ref fI) self) (.ref fI, [self])) (hz : ps.length ≤ sizeLine)
    (hq : codeAny (model prog w) (Ar.under (.builtin "type.__call__" ⟨.ref C :: ps, kw⟩)) (.call (.ref fI) ⟨.ref (hp.objs.size + 1) :: ps, kw⟩) (InitBack (hp.objs.size + 1) R) ⟨(hp.push (kdv_tup ps)).push (excO C hp.objs.size), gs, dr, tk, os⟩) :
    codeAny (model prog w) Ar (.call (.ref C) ⟨ps, kw⟩) R ⟨hp, gs, dr, tk, os⟩ := by
  have f1 := tc_lookup
  have f2 := tc_bind (.ref C)
  have hTy : (⟨hp, gs, dr, tk, os⟩ : Shared).TypeIs (.ref C) "type" := ⟨_, hC, rfl⟩
  refine codeAny_of_tree ?_
  show wpAny _ _ (callAny (.ref C) _) _ _ _
  repeat (any_goals (first
    | assumption
    | with_reducible refine wpAny_loadPart_at hC ?_
    | wp_step))
  refine ⟨rfl, ?_⟩
  refine codeAny_call_builtin_at (Code.quiet_builtin _ (by decide +kernel)) entry_typeCall (wpAny_check_type_call_sub hC (tcall_kw F hT hC hi hb hz ?_))
  refine codeAny_mono hq fun r s' y => ?_
  rcases r with e | (v | _ | _ | _) <;> exact y
end
end PySem.XV

set_option Elab.async false
set_option linter.all false
set_option maxRecDepth 100000
set_option maxHeartbeats 4000000
namespace PySem.XV
open PySem PySem.Spec PySem.W PySem.Calls PyProof.Rows PySem.HandSPX
/-! ### the text of __init__(self, f): self.f = f -/
def iA (f : Str) (p1 p2 : Pos) : Arguments := { posonlyargs := [], args := [{ arg := "self", annotation := none, pos := p1 }, { arg := f, annotation := none, pos := p2 }], vararg := none, kwonlyargs := [], kw_defaults := [], kwarg := none, defaults := [] }
def iB (f : Str) (q1 q2 q3 q4 : Pos) : List Stmt := [.Assign [.Attribute (.Name "self" q1) f q2] (.Name f q3) q4]
def iS (f : Str) : Scope := { kind := .function, names := [(PySem.Str.ofString "self", .local), (f, .local)], isGenerator := false, isCoroutine := false, more := [] }
/-- a name that may stand there -/
structure NmOk (f : Str) : Prop where
  ns : (f == ("self" : Str)) = false
  nd : (f == ("__debug__" : Str)) = false
theorem nm_ne {f : Str} (h : NmOk f) : ¬ f = ("self" : Str) := by
  intro e
  have z := h.ns
  rw [e] at z
  simp at z
theorem kind_self {q : Str} {f : Str} {L fa : Addr} {cd : Value} : (envOfC q (iS f) L fa cd).kindOf "self" = some .local := by
  show (iS f).names.lookup ("self" : Str) = some NameKind.local
  rfl
theorem kind_f {q : Str} {f : Str} {L fa : Addr} {cd : Value} (h : NmOk f) : (envOfC q (iS f) L fa cd).kindOf f = some .local := by
  show (iS f).names.lookup f = some NameKind.local
  unfold iS
  have e : (f == (PySem.Str.ofString "self")) = false := h.ns
  simp [List.lookup, e]
theorem bind_p {qual f : Str} (hn : NmOk f) {p1 p2 : Pos} {bd : List Stmt} {sc : Scope} {kV doc pm cd ct x v : Value} {an : Option Addr} :
    bindArgs (fnOf "__init__" qual (iA f p1 p2) bd sc .none kV doc pm an cd ct) ⟨[x, v], []⟩ = pure [(("self" : Str), x), (f, v)] := by
  have e1 : (f == ("self" : Str)) = false := hn.ns
  have e2 : (("self" : Str) == f) = false := by
    rw [beq_eq_false_iff_ne]
    exact fun z => nm_ne hn z.symm
  simp [bindArgs, fnOf, iA, List.lookup, e1, seqItems?]
  rfl
theorem bind_k {qual f : Str} (hn : NmOk f) {p1 p2 : Pos} {bd : List Stmt} {sc : Scope} {kV doc pm cd ct x v : Value} {an : Option Addr} :
    bindArgs (fnOf "__init__" qual (iA f p1 p2) bd sc .none kV doc pm an cd ct) ⟨[x], [(f, v)]⟩ = pure [(("self" : Str), x), (f, v)] := by
  have e1 : (f == ("self" : Str)) = false := hn.ns
  have e2 : (("self" : Str) == f) = false := by
    rw [beq_eq_false_iff_ne]
    exact fun z => nm_ne hn z.symm
  simp [bindArgs, fnOf, iA, List.lookup, e1, seqItems?]
  rfl
/-- v handed in by position, or by its name -/
inductive Handed (f : Str) (v : Value) : List Value → List (Str × Value) → Prop where
  | pos : Handed f v [v] []
  | kw : Handed f v [] [(f, v)]
theorem Handed.len {f : Str} {v : Value} {ps : List Value} {kw : List (Str × Value)} (h : Handed f v ps kw) : ps.length ≤ sizeLine := by
  rw [sizeLine_eq]
  cases h <;> (simp)
/-- what the written part says of the class at C, whose __init__ at fI keeps one thing as f -/
structure XTxt (K : Frag) (C fI : Addr) (qual f : Str) : Prop where
  nm : NmOk f
  cls : ∃ cn qn NS bs mr sn sub ab col dd z0 z1 z2 z3 z5, K.lookup C = some (excClassObj cn qn C NS bs mr true sn sub ab col dd z0 z1 z2 z3 z5 "ValueError.__new__") ∧ refsVE mr = true
  sa : findIn K (.ref C) "__setattr__" = some (some (.builtin "object.__setattr__"))
  noN : findIn K (.ref C) f = some none
  iC : findIn K (.ref C) "__init__" = some (some (.ref fI))
  tI : typeIn K (.ref fI) = some (.type "function")
  fn : ∃ (oc : Value) (od : Option Addr) (kV doc pm : Value) (an : Option Addr) (cdv ct : Value) (osl : Array (Option Value)) (p1 p2 q1 q2 q3 q4 : Pos),
    K.lookup fI = some ⟨oc, od, .func (fnOf "__init__" qual (iA f p1 p2) (iB f q1 q2 q3 q4) (iS f) .none kV doc pm an cdv ct), osl⟩ ∧ codeIn K cdv qual = true
/-- a local name is read -/
theorem rdC {M : Model} {s : Shared} {name : Str} {scope : Scope} {L a : Addr} {cd : Value} {m : Str → Option Value} {x : Str} {pos : Pos} {v : Value} {Q : Value → Shared → Prop} {A : Around} {E : Value → Shared → Prop}
    (hn : s.heap.Ns L m) (hv : m x = some v) (hk : scope.kind = .function) (hl : (envOfC name scope L a cd).kindOf x = some .local) (hd : (x == ("__debug__" : Str)) = false) (h : Q v s) :
    wpAny M A (eval (.Name x pos) (envOfC name scope L a cd)) Q E s := wpAny_Name (wpAny_loadName_local hk hl hn hv h) hd
/-- what the __init__ leaves of the new exception at x -/
structure Filled (h h' : Heap) (x C dx t1 : Addr) (f : Str) (v : Value) : Prop where
  keep : ∀ b o, b ≠ x → h.get? b = some o → h'.get? b = some o
  obj : h'.get? x = some { cls := .ref C, dict := some dx, data := .fields #[.ref t1, .none, .none, .none, .bool false, .none] }
  dbig : h.objs.size ≤ dx
  dne : dx ≠ x
  ns : h'.Ns1 dx (fun y => if y = f then some v else none)
section
variable {prog : Program} {w : World} {A : Around} {R : Result → Shared → Prop} {s : Shared} {K : Frag} {C fI : Addr} {qual f : Str}
theorem x_init (T : XTxt K C fI qual f) {x t0 : Addr} {v : Value} {ps : List Value} {kw : List (Str × Value)} (ha : Handed f v ps kw) (X : K.In s.heap) (hlim : s.heap.NoLimit) (hx : s.heap.get? x = some (excO C t0)) (hroom : A.depth < recursionLimit)
    (hq : ∀ h' tk dx, Filled s.heap h' x C dx t0 f v → R (.ok (.ret .none)) { s with heap := h', toks := tk }) :
    codeAny (model prog w) A (.call (.ref fI) ⟨.ref x :: ps, kw⟩) R s := by
  obtain ⟨oc, od, kV, doc, pm, an, cdv, ct, osl, p1, p2, q1, q2, q3, q4, ho, hcd⟩ := T.fn
  obtain ⟨cn, qn, NS, bs, mr, sn, sub, ab, col, dd, z0, z1, z2, z3, z5, hC, hmr⟩ := T.cls
  have hcl : clsIn K C = some { name := cn, bases := bs, mro := .ref C :: mr, ns := NS, qualname := qn, hasDict := true, slotNames := sn, subclasses := sub, abstract := ab, collection := col, hasDel := false } := by
    unfold clsIn
    rw [hC] <;> rfl
  have hb : BindsTo s (fnOf "__init__" qual (iA f p1 p2) (iB f q1 q2 q3 q4) (iS f) .none kV doc pm an cdv ct) ⟨.ref x :: ps, kw⟩ [(("self" : Str), .ref x), (f, v)] := by
    cases ha with
    | pos => exact BindsTo.of_eq (bind_p T.nm)
    | kw => exact BindsTo.of_eq (bind_k T.nm)
  have hal : ([(("self" : Str), Value.ref x), (f, v)].all fun y => (iS f).names.lookup y.1 == some .local || (iS f).names.lookup y.1 == some .cell) = true := by
    have e1 : (iS f).names.lookup ("self" : Str) = some NameKind.local := rfl
    have e2 : (iS f).names.lookup f = some NameKind.local := kind_f (q := "") (L := 0) (fa := 0) (cd := .none) T.nm
    simp [e1, e2]
  refine Att.call_fn X hlim ho hcd hroom hb hal (fun s1 IC => ?_) rfl rfl rfl
  obtain ⟨h1, tk1, rfl⟩ := IC.toInCall.same
  have k : ∀ b o, s.heap.get? b = some o → h1.get? b = some o := IC.toInCall.keep
  have hn := IC.toInCall.ns
  have X1 : K.In h1 := X.keeps k
  have hx1 := k _ _ hx
  have v1 : bindL (envOfC qual (iS f) s.heap.objs.size fI cdv).kindOf [(("self" : Str), Value.ref x), (f, v)] (fun _ => none) ("self" : Str) = some (.ref x) := by
    have e := kind_self (q := qual) (f := f) (L := s.heap.objs.size) (fa := fI) (cd := cdv)
    have e2 := kind_f (q := qual) (L := s.heap.objs.size) (fa := fI) (cd := cdv) T.nm
    have n2 : ¬ (("self" : Str) = f) := fun z => nm_ne T.nm z.symm
    simp [bindL, e, e2, n2]
  have v2 : bindL (envOfC qual (iS f) s.heap.objs.size fI cdv).kindOf [(("self" : Str), Value.ref x), (f, v)] (fun _ => none) f = some v := by
    have e := kind_f (q := qual) (L := s.heap.objs.size) (fa := fI) (cd := cdv) T.nm
    simp [bindL, e]
  show wpAny _ _ (execs _ _) _ _ _
  refine wpAny_execs_cons (plainObj_wpAny_Assign_Attribute ?_)
  refine rdC hn v2 rfl (kind_f T.nm) T.nm.nd (rdC hn v1 rfl kind_self (by decide) ?_)
  refine set_plain X1 (ox := excO C t0) (od := none) ⟨hx1, rfl, rfl, trivial⟩ T.sa ?_
  refine exc_osa X1 hx1 hcl (show refsVE (.ref C :: mr) = true from hmr) rfl T.noN (fun h3 tk3 dx k3 dn dne hx3 hn3 => ?_)
  show wpAny _ _ (execs _ _) _ _ _
  have z : s.heap.objs.size < h1.objs.size := hn.lt
  exact wpAny_execs_nil (hq h3 tk3 dx ⟨fun b o hb e => k3 b o hb (k b o e), hx3, Nat.le_of_lt (Nat.lt_of_lt_of_le z dn), dne, hn3⟩)
/-- what a call of the class leaves -/
structure Made1 (h h' : Heap) (e C d : Addr) (f : Str) (v : Value) : Prop where
  keep : ∀ b o, h.get? b = some o → h'.get? b = some o
  ne : h.objs.size ≤ e
  obj : ∃ t1 : Addr, h'.get? e = some { cls := .ref C, dict := some d, data := .fields #[.ref t1, .none, .none, .none, .bool false, .none] }
  nd : h.objs.size ≤ d
  dne : d ≠ e
  ns : h'.Ns1 d (fun y => if y = f then some v else none)
theorem x_made (T : XTxt K C fI qual f) {v : Value} {ps : List Value} {kw : List (Str × Value)} (ha : Handed f v ps kw) (X : K.In s.heap) (hlim : s.heap.NoLimit) (hroom : A.depth + 1 < recursionLimit)
    (hq : ∀ h' tk e d, Made1 s.heap h' e C d f v → R (.ok (.ret (.ref e))) { s with heap := h', toks := tk }) : codeAny (model prog w) A (.call (.ref C) ⟨ps, kw⟩) R s := by
  obtain ⟨cn, qn, NS, bs, mr, sn, sub, ab, col, dd, z0, z1, z2, z3, z5, hC, hmr⟩ := T.cls
  obtain ⟨hp, g, dr, tk, os⟩ := s
  have k : ∀ b o, hp.get? b = some o → ((hp.push (kdv_tup ps)).push (excO C hp.objs.size)).get? b = some o := fun b o e => Heap.get?_push_of_some _ (Heap.get?_push_of_some _ e)
  have hget : ((hp.push (kdv_tup ps)).push (excO C hp.objs.size)).get? (hp.objs.size + 1) = some (excO C hp.objs.size) := by
    heap_get
  refine call_kw F.excBase_ValueError (fun Y => refsVE_contains Y mr hmr) (X _ _ hC) (looks_findIn X T.iC) (fun self => bind_fn X self T.tI) ha.len ?_
  refine x_init (s := ⟨(hp.push (kdv_tup ps)).push (excO C hp.objs.size), g, dr, tk, os⟩) T ha (X.keeps k) (hlim.keeps k) hget hroom fun h' tk' dx ⟨k', hx, dn, dne, hns⟩ => ?_
  have old : ∀ b o, hp.get? b = some o → h'.get? b = some o := fun b o e => k' b o (Nat.ne_of_lt (Nat.lt_succ_of_lt (Heap.lt_size e))) (k b o e)
  have z : hp.objs.size + 1 + 1 ≤ dx := by
    first
      | exact dn
      | simpa only [Heap.size_push] using dn
  exact ⟨rfl, hq h' tk' (hp.objs.size + 1) dx ⟨old, Nat.le_succ _, ⟨_, hx⟩, Nat.le_trans (Nat.le_trans (Nat.le_succ _) (Nat.le_succ _)) z, dne, hns⟩⟩
end
end PySem.XV

set_option Elab.async false
set_option linter.all false
set_option maxRecDepth 100000
set_option maxHeartbeats 4000000
namespace PySem.XV
open PySem PySem.Spec PySem.W PySem.Calls PyProof.Rows PySem.HandSPX
section
variable {prog : Program} {w : World} {A : Around} {E : Value → Shared → Prop} {s : Shared} {K : Frag} {x D : Addr} {ox : Obj} {od : Option Obj}
theorem find_data {C : Addr} {name : Str} {a g : Value} (hc : (clsIn K C).isSome = true) (ha : findIn K (.ref C) name = some (some a)) (hg : specialIn K a "__get__" = some (some g)) (ht : takesIn K a = some true) :
    findObj K C od name = some (.bind g a) := by
  obtain ⟨cd, hc⟩ := Option.isSome_iff_exists.mp hc
  unfold findObj
  rw [hc, Option.bind_some, ha, Option.bind_some]
  simp [hg, ht]
/-- e.__class__, e an exception of an own class, with or without a dict -/
theorem cls_at {Q : Option Value → Shared → Prop} (hga : findIn K (.ref D) "__getattribute__" = some (some (.builtin "BaseException.__getattribute__"))) (hgt : findIn K (.ref D) "__getattr__" = some none)
    (hsub : subIn K (.ref D) (.type "BaseException") = some true) (hdct : hasDictIn K D = true) (ha : findIn K (.ref D) "__class__" = some (some (.builtin "object.__class__")))
    (hn : specialIn K (.builtin "object.__class__") "__get__" = some (some (.builtin "getset_descriptor.__get__"))) (htk : takesIn K (.builtin "object.__class__") = some true) (hm : mroIn K D (.type "object") = some true)
    (X : K.In s.heap) (I : InstAt s.heap x ox D od) (h : Q (some (.ref D)) { s with toks := s.toks + 1 }) : wpAny (model prog w) A (getAttr? (.ref x) "__class__") Q E s := by
  have hf : findObj K D od "__class__" = some (.bind (.builtin "getset_descriptor.__get__") (.builtin "object.__class__")) :=
    find_data (by obtain ⟨cd, hc, _⟩ := any_some hdct; rw [hc] <;> rfl) ha hn htk
  obtain ⟨hp, g, d, t, os⟩ := s
  have L0 := I.type (M := model prog w)
  have L1 := looks_findIn (M := model prog w) X hga
  have L2 := looks_findIn (M := model prog w) X hgt
  have L3 := looks_find (M := model prog w) X I hf
  have sub : Looks (model prog w) hp (isInstance (.ref x) (.type "BaseException")) true := L0.andThen (looks_subIn X hsub)
  have q0 : (false && onTheHeap (Value.builtin "BaseException.__getattribute__")) = false := rfl
  have q2 : (Value.builtin "BaseException.__getattribute__" == Value.builtin "object.__getattribute__") = false := by
    decide +kernel
  have q1 : (onTheHeap (Value.ref D) && Value.builtin "BaseException.__getattribute__" == Value.builtin "object.__getattribute__") = false := by
    rw [q2] <;> rfl
  unfold getAttr? getAttrBy? getAttrBy
  refine wpAny_bind (wpAny_mkText (wpAny_bind (wpAny_attempt (wpAny_holding (wpAny_bind (L0.at (wpAny_bind (L1.at ?_))))))))
  show wpAny _ _ (if (onTheHeap (Value.ref D) && Value.builtin "BaseException.__getattribute__" == Value.builtin "object.__getattribute__") = true then _ else _) _ _ _
  rw [q1, if_neg Bool.false_ne_true]
  unfold getAttrByItsOwn hookBefore
  refine wpAny_bind ?_
  rw [if_pos (show onTheHeap (Value.ref D) = true from rfl)]
  refine L2.at ?_
  refine wpAny_bind (wpAny_attempt (wpAny_holding ?_))
  unfold callGetattribute
  rw [q0, if_neg Bool.false_ne_true]
  unfold boundAndCalled
  rw [PySem.F.excAttr_ValueError.ga.bind (.ref x)]
  refine wpAny_bind (wpAny_pure ?_)
  show wpAny _ _ (call (.builtin "BaseException.__getattribute__") [.ref x, .str "__class__" t]) _ _ _
  refine wpAny_call (codeAny_call_builtin PySem.F.excAttr_ValueError.ga.plain PySem.F.entry_bexc_ga ?_)
  refine @check_slot (model prog w) _ _ ⟨hp, g, d, t + 1, os⟩ "BaseException.__getattribute__" "BaseException" "__getattribute__" (.ref x) [.str "__class__" t] [] _ (by decide +kernel) (by decide +kernel) sub
    (PySem.F.args_bexc_ga (.ref x) (.str "__class__" t)) ?_
  unfold Builtin.«object.__getattribute__»
  refine wpAny_bind (wpAny_of_eq (a := ((Value.ref x : Value), [Value.str "__class__" t])) (by first | rfl | (simp only [slotArgs]; rfl)) ?_)
  refine wpAny_bind (wpAny_pure (wpAny_bind (L0.at (wpAny_bind (L3.at ?_)))))
  show wpAny _ _ (holding [Value.builtin "object.__class__"] (call (.builtin "getset_descriptor.__get__") [.builtin "object.__class__", .ref x, .ref D]) >>= ret) _ _ _
  refine wpAny_bind (wpAny_holding (wpAny_call (class_get (s := ⟨hp, g, d, t + 1, os⟩) (ox := ox) (od := od) X I hm ?_)))
  refine wpAny_pure ?_
  show wpAny _ _ (handedOut (.ref D)) _ _ _
  rw [handedOut_of (v := .ref D) rfl]
  first
    | exact wpAny_pure (wpAny_pure h)
    | exact wpAny_pure h
    | exact wpAny_pure (wpAny_bind (wpAny_pure (wpAny_pure h)))
theorem kit_exc (hga : findIn K (.ref D) "__getattribute__" = some (some (.builtin "BaseException.__getattribute__"))) (hgt : findIn K (.ref D) "__getattr__" = some none)
    (hsub : subIn K (.ref D) (.type "BaseException") = some true) (hdct : hasDictIn K D = true) (ha : findIn K (.ref D) "__class__" = some (some (.builtin "object.__class__")))
    (hn : specialIn K (.builtin "object.__class__") "__get__" = some (some (.builtin "getset_descriptor.__get__"))) (htk : takesIn K (.builtin "object.__class__") = some true) (hm : mroIn K D (.type "object") = some true) :
    KitX K (.ref x) (.ref D) (fun h => InstAt h x ox D od) where
  ty := fun _ _ _ I => I.type
  it := fun _ _ X _ => by
    obtain ⟨cdD, hcD, _⟩ := any_some hdct
    unfold clsIn at hcD
    split at hcD
    · rename_i c' d' cd' sl' ho
      intro A' Q' E' s' k q
      unfold isType loadHead
      exact wpAny_bind (wpAny_loadPart (k _ _ (X _ _ ho)) (wpAny_pure q))
    · cases hcD
  ne := fun h tp dd its n sl X htp => by
    obtain ⟨cdD, hcD, _⟩ := any_some hdct
    refine Bool.eq_false_iff.mpr fun q => ?_
    have e : D = tp := Value.ref.inj (beq_iff_eq.mp q)
    subst e
    unfold clsIn at hcD
    split at hcD
    · rename_i c' d' cd' sl' ho
      have z := (X _ _ ho).symm.trans htp
      cases z
    · cases hcD
  ca := fun X I k => cls_at hga hgt hsub hdct ha hn htk hm X I k
end
end PySem.XV
namespace L2
open PySem PySem.Spec PyProof.Rows
section
variable {X : Cx} {pins : List (Addr × Obj)} {σ : St} {H : Hp} {s : Shared}
/-- two new objects laid and tracked -/
theorem Inv.laid2 {h' : Heap} {d e : Addr} {o1 o2 : HO} {t' : Nat} (I : Inv X pins σ H s) (k : ∀ b u, s.heap.get? b = some u → h'.get? b = some u) (hd : s.heap.objs.size ≤ d) (he : s.heap.objs.size ≤ e) (ne : d ≠ e)
    (n1 : ObjOk X.prog X.w (upd (upd H d o1) e o2) h' d o1) (n2 : ObjOk X.prog X.w (upd (upd H d o1) e o2) h' e o2) : Inv X pins σ (upd (upd H d o1) e o2) { s with heap := h', toks := t' } := by
  have fd : H d = none := I.hok.fresh hd
  have fe : H e = none := I.hok.fresh he
  have nl : ∀ b u, s.heap.get? b = some u → b ≠ d ∧ b ≠ e := fun b u q => ⟨Nat.ne_of_lt (Nat.lt_of_lt_of_le (Heap.lt_size q) hd), Nat.ne_of_lt (Nat.lt_of_lt_of_le (Heap.lt_size q) he)⟩
  have st : ∀ b o, H b = some o → upd (upd H d o1) e o2 b = some o := fun b o q => by
    rw [upd_ne (ne_of_none q fe), upd_ne (ne_of_none q fd)]
    exact q
  refine I.un ⟨fun b u q _ _ _ => k b u q, fun b u q _ _ _ => ⟨u.slots, k b u q⟩, fun b u q n _ => ?_, fun b u q _ => ⟨u, k b u q⟩, fun b xs q => st b _ q, fun b u xs q => st b _ q, fun b ps q => ⟨#[], ?_⟩⟩ fun b u q => ?_
  · rw [upd_ne (nl b u q).2, upd_ne (nl b u q).1]
    exact n
  · rw [st b _ q]
    simp
  · by_cases hb : b = e
    · subst hb
      rw [upd_same] at q
      cases q
      exact n2
    · rw [upd_ne hb] at q
      by_cases hc : b = d
      · subst hc
        rw [upd_same] at q
        cases q
        exact n1
      · rw [upd_ne hc] at q
        exact (I.hok b u q).stay (fun c v _ q => k c v q) (fun c q => st c _ q) fun c xs q => st c _ q
end
/-! ### readings -/
/-- C(v): a new exception that keeps v as f -/
def tXv (C : Addr) (f : Str) (ta : TA) : TE := fun σ H Q => ta σ H fun vs H1 => ∃ v, vs = [v] ∧ ∀ e d, H1 e = none → H1 d = none → d ≠ e → Q (.ref e) (upd (upd H1 d (.xd [(f, v)])) e (exo e C (some d)))
theorem relO_one {v : V} {u : Value} (r : RelV v u) (f g : Str) : RelO (List.lookup g [(f, v)]) (if g = f then some u else none) := by
  by_cases h : g = f
  · subst h
    rw [if_pos rfl]
    have e : List.lookup g [(g, v)] = some v := by simp [List.lookup]
    rw [e]
    exact r
  · rw [if_neg h]
    have e1 : (g == f) = false := by simpa using h
    have e : List.lookup g [(f, v)] = none := by simp [List.lookup, e1]
    rw [e]
    trivial
section
variable {X : Cx} {C fI : Addr} {qual f : Str}
theorem xv_laid {pins : List (Addr × Obj)} {σ : St} {H : Hp} {hp h' : Heap} {g : Array GenState} {dr : Drawn} {tk tk' : Nat} {os : OsState} {e d : Addr} {v : V} {u : Value} {Q : VK} (I : Inv X pins σ H ⟨hp, g, dr, tk, os⟩) (M : PySem.XV.Made1 hp h' e C d f u) (r : RelV v u)
    (q : ∀ e d, H e = none → H d = none → d ≠ e → Q (.ref e) (upd (upd H d (.xd [(f, v)])) e (exo e C (some d)))) : EP X pins σ Q (.ref e) ⟨h', g, dr, tk', os⟩ := by
  obtain ⟨t1, ho⟩ := M.obj
  refine ⟨.ref e, upd (upd H d (.xd [(f, v)])) e (exo e C (some d)), I.laid2 (o1 := .xd [(f, v)]) (o2 := exo e C (some d)) (t' := tk') M.keep M.nd M.ne M.dne ⟨_, M.ns, fun y => relO_one r f y⟩ (exo_ok ho), rfl, q e d (I.hok.fresh M.ne) (I.hok.fresh M.nd) M.dne⟩
theorem pe_xv {k : Nat} {a : Expr} {ta : TA} {x : Str} {p pos : Pos} (T : PySem.XV.XTxt X.K C fI qual f) (gC : X.mg x = some (.ref C)) (kC : PySem.W.keepIn X.K (.ref C) = true) (hr : Room k X.A) (ha : PA X [a] ta) (hg : Gl X x := by rfl)
    (he : starEach (a :: []) X.env = (false, eval a X.env) :: starEach [] X.env := by rfl) (hpl : (backTo pos (starEach [] X.env)).any (·.1) = false := by rfl) (hdb : (x == ("__debug__" : Str)) = false := by decide) :
    PE X (.Call (.Name x p) [a] [] pos) (tXv C f ta) := by
  refine ⟨fun pins s σ H Q I h => ?_⟩
  refine wpAny_Call_Name_kw (ld_glob I hg gC ?_ hdb)
  refine PySem.W.callWith_K (h₀ := X.base) I.ok.mod.kin kC (thn (ha.run pos pins s σ H _ I h) fun us s1 hh => ?_) he hpl
  obtain ⟨vs, H1, I1, r1, v, ev, q1⟩ := hh
  subst ev
  refine ⟨I1.kIn, ?_⟩
  cases r1 with
  | cons rv rn =>
    rename_i v' us'
    cases rn
    show wpAny _ _ (call (.ref C) [v']) _ _ _
    have hl := I1.nolimit
    obtain ⟨hp, g, dr, tk, os⟩ := s1
    exact wpAny_call (PySem.XV.x_made T .pos I1.kIn hl (by have := hr.dp; omega) fun h' tk' e d M => xv_laid I1 M rv q1)
/-- C(f = v) -/
theorem pe_xvk {k : Nat} {a : Expr} {ta : TA} {x : Str} {p pos kp : Pos} (T : PySem.XV.XTxt X.K C fI qual f) (gC : X.mg x = some (.ref C)) (kC : PySem.W.keepIn X.K (.ref C) = true) (hr : Room k X.A) (ha : PK X [⟨some f, a, kp⟩] ta) (hg : Gl X x := by rfl)
    (hall : (backToKw pos (keywordEach [⟨some f, a, kp⟩] X.env)).all (·.1.isSome) = true := by rfl) (hks : (backToKw pos (keywordEach [⟨some f, a, kp⟩] X.env)).filterMap (·.1) = [f] := by rfl)
    (hpl : ((backTo pos (starEach [] X.env)).any (·.1) || (backToKw pos (keywordEach [⟨some f, a, kp⟩] X.env)).any (·.1.isNone)) = false := by rfl) (hdb : (x == ("__debug__" : Str)) = false := by decide) :
    PE X (.Call (.Name x p) [] [⟨some f, a, kp⟩] pos) (tXv C f ta) := by
  refine ⟨fun pins s σ H Q I h => ?_⟩
  refine wpAny_Call_Name_kw (ld_glob I hg gC ?_ hdb)
  refine PySem.W.callWith_KW0 (h₀ := X.base) I.ok.mod.kin kC hall (thn (ha.run pos pins s σ H _ I h) fun us s1 hh => ?_) hpl
  obtain ⟨vs, H1, I1, r1, v, ev, q1⟩ := hh
  subst ev
  refine ⟨I1.kIn, ?_⟩
  rw [hks]
  cases r1 with
  | cons rv rn =>
    rename_i v' us'
    cases rn
    show wpAny _ _ (call (.ref C) [] [(f, v')]) _ _ _
    have hl := I1.nolimit
    obtain ⟨hp, g, dr, tk, os⟩ := s1
    exact wpAny_call (PySem.XV.x_made T .kw I1.kIn hl (by have := hr.dp; omega) fun h' tk' e d M => xv_laid I1 M rv q1)
end
end L2

set_option Elab.async false
set_option linter.all false
set_option maxRecDepth 100000
set_option maxHeartbeats 4000000
namespace L2
open PySem PySem.Spec PyProof.Rows
/-- at a stands an exception of the class at C -/
def Exd (H : Hp) (a C : Addr) : Prop := ∃ d, H a = some (exo a C d) ∧ ∀ dx, d = some dx → ∃ fs, H dx = some (.xd fs)
section
variable {X : Cx} {C : Addr} {f : Str}
/-- C(), C without an __init__ of its own -/
theorem pe_xv0 {bmB : List Value} {x : Str} {p pos : Pos} (q : PySem.W.excIn X.K C bmB "ValueError.__new__" = true) {B initId : String} (F : ExcBaseFacts B "ValueError.__new__" initId bmB) (gC : X.mg x = some (.ref C)) (kC : PySem.W.keepIn X.K (.ref C) = true) (hg : Gl X x := by rfl)
    (hdb : (x == ("__debug__" : Str)) = false := by decide) :
    PE X (.Call (.Name x p) [] [] pos) (fun σ H Q => ∀ a, H a = none → Q (.ref a) (upd H a (exo a C none))) := by
  refine ⟨fun pins s σ H Q I h => ?_⟩
  refine wpAny_Call_Name_kw (ld_glob I hg gC ?_ hdb)
  refine PySem.W.callWith_K0 I.kIn kC ?_
  show wpAny _ _ (call (.ref C) []) _ _ _
  obtain ⟨bm, N, nm, qn, bs, hdct, sn, sub, ab, col, dd, k0, k1, k2, k3, k5, mN, hC, hN, hni, T⟩ := exc_obj I.kIn q
  obtain ⟨hp, g, dr, tk, os⟩ := s
  refine wpAny_call_exc_subT F T hC hN hni (fun h' a hm => ?_) (by show 0 ≤ sizeLine; omega)
  have hn : H a = none := I.hok.gone hm.new
  obtain ⟨t, ht, _, _⟩ := hm.there
  exact ⟨.ref a, upd H a (exo a C none), I.laidN (t' := tk) hm.keeps hm.new hn (exo_ok ht), rfl, h a hn⟩
/-- e.f of such an exception -/
def tXat (K : PySem.W.Frag) (f : Str) (te : TE) : TE := fun σ H Q => te σ H fun x H1 => ∃ (a C dd : Addr) (fs : List (Str × V)) (v : V), x = .ref a ∧ H1 a = some (exo a C (some dd)) ∧ H1 dd = some (.xd fs) ∧ fs.lookup f = some v ∧
  XfC K C ∧ PySem.W.findIn K (.ref C) f = some none ∧ Q v H1
theorem pe_xat {e : Expr} {te : TE} {pos : Pos} (he : PE X e te) (hb : attributeBase e f X.env (eval e X.env) = eval e X.env := by rfl) : PE X (.Attribute e f pos) (tXat X.K f te) := by
  refine ⟨fun pins s σ H Q I h => ?_⟩
  refine attr_of hb (thn (he.run pins s σ H _ I h) fun u s1 hh => ?_)
  obtain ⟨x, H1, I1, rx, a, C, dd, fs, v, ex, ea, ed, l, T, hno, q⟩ := hh
  subst ex
  obtain rfl : u = Value.ref a := rx
  obtain ⟨t1, ho⟩ := exo_at I1.hok ea
  have hx : ObjOk X.prog X.w H1 s1.heap dd (.xd fs) := I1.hok dd _ ed
  obtain ⟨mA, hns, hr⟩ := hx
  obtain ⟨od, hod, hl⟩ := lookIn_ns hns
  obtain ⟨u, hu, ru⟩ := RelO.some_of (v := v) (o := mA f) (by rw [← l]; exact hr f)
  have J : PySem.W.InstAt s1.heap a _ C (some od) := ⟨ho, rfl, rfl, hod⟩
  exact HandSPX.exc_get I1.kIn J T.ga T.gg T.exC (PySem.W.findObj_own T.hdC hno rfl (by rw [hl, hu])) (handed_of ru) ⟨v, H1, I1.tok _, ru, q⟩
/-- isinstance(e, c), e such an exception -/
def rIsX (K : PySem.W.Frag) : List V → Hp → VK → Prop := fun xs H Q => ∃ (a C : Addr) (c : V) (cv : Value) (b : Bool), xs = [.ref a, c] ∧ Exd H a C ∧ ExcC K C ∧ ClsV c cv ∧ PySem.W.kitOne K (.ref C) cv = some b ∧ Q (.bl b) H
/-- isinstance(e, (c1, ..)) -/
def rIsXT (K : PySem.W.Frag) : List V → Hp → VK → Prop := fun xs H Q => ∃ (a C tp : Addr) (cs : List V) (us : List Value) (b : Bool), xs = [.ref a, .ref tp] ∧ Exd H a C ∧ ExcC K C ∧ H tp = some (.tup cs) ∧ Paired ClsV cs us ∧ PySem.W.kitAny K (.ref C) us = some b ∧ Q (.bl b) H
theorem kit_xd {pins : List (Addr × Obj)} {σ : St} {H : Hp} {s : Shared} {a : Addr} (I : Inv X pins σ H s) (h : Exd H a C) (T : ExcC X.K C) : ∃ P : Heap → Prop, PySem.W.KitX X.K (.ref a) (.ref C) P ∧ P s.heap := by
  obtain ⟨d, hd, hf⟩ := h
  obtain ⟨t1, ho⟩ := exo_at I.hok hd
  cases d with
  | none => exact ⟨_, PySem.XV.kit_exc (od := none) T.hg T.hk T.hs T.hd T.ha T.hn T.ht T.hm, ⟨ho, rfl, rfl, trivial⟩⟩
  | some dx =>
    obtain ⟨fs, hfs⟩ := hf dx rfl
    have hx : ObjOk X.prog X.w H s.heap dx (.xd fs) := I.hok dx _ hfs
    obtain ⟨mA, hns, hr⟩ := hx
    obtain ⟨od, hod, hl⟩ := lookIn_ns hns
    exact ⟨_, PySem.XV.kit_exc (od := some od) T.hg T.hk T.hs T.hd T.ha T.hn T.ht T.hm, ⟨ho, rfl, rfl, hod⟩⟩
theorem call_isX : CallR X (.builtin "isinstance") (rIsX X.K) := by
  intro pins s σ H xs us Q I r h
  obtain ⟨a, C, c, cv, b, rfl, ha, T, hc, e, q⟩ := h
  obtain ⟨u1, u2, rfl, r1, r2⟩ := vals2 r
  cases (show u1 = Value.ref a from r1)
  have e2 := hc.eq r2
  subst e2
  obtain ⟨P, Z, p⟩ := kit_xd I ha T
  exact PySem.W.kia_one Z I.kIn p e (fun z => nomatch z) fun tk => ⟨.bl b, H, I.tok tk, rfl, q⟩
theorem call_isXT : CallR X (.builtin "isinstance") (rIsXT X.K) := by
  intro pins s σ H xs us Q I r h
  obtain ⟨a, C, tp, cs, ws, b, rfl, ha, T, hT, hc, e, q⟩ := h
  obtain ⟨u1, u2, rfl, r1, r2⟩ := vals2 r
  cases (show u1 = Value.ref a from r1)
  cases (show u2 = Value.ref tp from r2)
  obtain ⟨P, Z, p⟩ := kit_xd I ha T
  obtain ⟨_, its, rv, o, h1, h2, n, h3⟩ := (show ObjOk X.prog X.w H s.heap tp (.tup cs) from I.hok tp _ hT)
  have e3 := ClsV.all hc rv
  subst e3
  obtain ⟨oc, od, dt, sl⟩ := o
  simp only at h2 h3
  subst h2 h3
  exact PySem.W.kia_tup Z I.kIn p h1 e (fun z => nomatch z) fun tk => ⟨.bl b, H, I.tok tk, rfl, q⟩
end
end L2

set_option Elab.async false
set_option linter.all false
set_option maxRecDepth 100000
set_option maxHeartbeats 4000000
namespace XH
open PySem PySem.Spec PyProof.Rows L2 He
/-! what the written part says of exception classes, as Bools -/
def exB (K : PySem.W.Frag) (C : Addr) : Bool :=
  decide (PySem.W.findIn K (.ref C) "__getattribute__" = some (some (.builtin "BaseException.__getattribute__"))) && (decide (PySem.W.findIn K (.ref C) "__getattr__" = some none) &&
  (decide (PySem.W.subIn K (.ref C) (.type "BaseException") = some true) && (PySem.W.hasDictIn K C && (decide (PySem.W.findIn K (.ref C) "__class__" = some (some (.builtin "object.__class__"))) &&
  (decide (PySem.W.specialIn K (.builtin "object.__class__") "__get__" = some (some (.builtin "getset_descriptor.__get__"))) && (decide (PySem.W.takesIn K (.builtin "object.__class__") = some true) && decide (PySem.W.mroIn K C (.type "object") = some true)))))))
theorem exB_ok {K : PySem.W.Frag} {C : Addr} (h : exB K C = true) : ExcC K C := by
  obtain ⟨h1, h⟩ := ba h
  obtain ⟨h2, h⟩ := ba h
  obtain ⟨h3, h⟩ := ba h
  obtain ⟨h4, h⟩ := ba h
  obtain ⟨h5, h⟩ := ba h
  obtain ⟨h6, h⟩ := ba h
  obtain ⟨h7, h8⟩ := ba h
  exact ⟨of_decide_eq_true h1, of_decide_eq_true h2, of_decide_eq_true h3, h4, of_decide_eq_true h5, of_decide_eq_true h6, of_decide_eq_true h7, of_decide_eq_true h8⟩
theorem xf_of {K : PySem.W.Frag} {C : Addr} (h : ExcC K C) : XfC K C := ⟨h.hg, h.hk, h.hs, h.hd⟩
def mkB (K : PySem.W.Frag) (C : Addr) : Bool := match K.lookup C with
  | some ⟨.type t, _, .cls cd, sl⟩ => (match cd.mro, sl.toList with
    | .ref C' :: mr, [_, _, _, _, some (.builtin n), _] => decide (t = "type") && (decide (C' = C) && (decide (n = "ValueError.__new__") && (!cd.hasDel && (cd.hasDict && PySem.HandSPX.refsVE mr))))
    | _, _ => false)
  | _ => false
theorem mkB_ok {K : PySem.W.Frag} {C : Addr} (h : mkB K C = true) : ∃ cn qn NS bs mr sn sub ab col dd z0 z1 z2 z3 z5, K.lookup C = some (excClassObj cn qn C NS bs mr true sn sub ab col dd z0 z1 z2 z3 z5 "ValueError.__new__") ∧ PySem.HandSPX.refsVE mr = true := by
  unfold mkB at h
  split at h
  · rename_i t dd cd sl ho
    split at h
    · rename_i C' mr z0 z1 z2 z3 n z5 hm hs
      obtain ⟨h1, h⟩ := ba h
      obtain ⟨h2, h⟩ := ba h
      obtain ⟨h3, h⟩ := ba h
      obtain ⟨h4, h⟩ := ba h
      obtain ⟨h5, h6⟩ := ba h
      obtain rfl := of_decide_eq_true h1
      obtain rfl := of_decide_eq_true h2
      obtain rfl := of_decide_eq_true h3
      have h4' : cd.hasDel = false := by simpa using h4
      obtain ⟨nm, bs, mro, ns, qn, hd, sn, sub, ab, col, del⟩ := cd
      dsimp only at hm h4' h5
      subst hm h4' h5
      have e : sl = #[z0, z1, z2, z3, some (.builtin "ValueError.__new__"), z5] := by
        obtain ⟨l⟩ := sl
        simp only at hs
        rw [hs]
      subst e
      exact ⟨nm, qn, ns, bs, mr, sn, sub, ab, col, dd, z0, z1, z2, z3, z5, ho, h6⟩
    · cases h
  · cases h
/-- C, an __init__ that keeps one thing as f -/
def ftB (K : PySem.W.Frag) (C : Addr) (f : Str) : Bool := mkB K C && (decide (PySem.W.findIn K (.ref C) "__setattr__" = some (some (.builtin "object.__setattr__"))) && (decide (PySem.W.findIn K (.ref C) f = some none) &&
  (decide (PySem.W.findIn K (.ref C) "__init__" = some (some (.ref (ma K C "__init__")))) && (decide (PySem.W.typeIn K (.ref (ma K C "__init__")) = some (.type "function")) && (!(f == ("self" : Str)) && !(f == ("__debug__" : Str)))))))
/-- the line of bases: C itself, then what is behind the base class -/
def lnB (K : PySem.W.Frag) (C P : Addr) : Bool := decide (PySem.W.typeIn K (.ref C) = some (.type "type")) && (match PySem.W.clsIn K C with
  | some cd => decide (cd.mro = (if C = P then [] else [.ref C]) ++ .ref P :: veBase)
  | none => false)
structure Ln (K : PySem.W.Frag) (C P : Addr) : Prop where
  ty : PySem.W.typeIn K (.ref C) = some (.type "type")
  cd : ∃ cd, PySem.W.clsIn K C = some cd ∧ cd.mro = (if C = P then [] else [.ref C]) ++ .ref P :: veBase
theorem lnB_ok {K : PySem.W.Frag} {C P : Addr} (h : lnB K C P = true) : Ln K C P := by
  obtain ⟨h1, h2⟩ := ba h
  refine ⟨of_decide_eq_true h1, ?_⟩
  cases e : PySem.W.clsIn K C with
  | none =>
    rw [e] at h2
    cases h2
  | some cd =>
    rw [e] at h2
    exact ⟨cd, rfl, of_decide_eq_true h2⟩
theorem ln_mro {K : PySem.W.Frag} {C P : Addr} (h : Ln K C P) (v : Value) : PySem.W.mroIn K C v = some (((if C = P then [] else [Value.ref C]) ++ Value.ref P :: veBase).contains v) := by
  obtain ⟨cd, e, m⟩ := h.cd
  unfold PySem.W.mroIn
  rw [e, Option.bind_some, m, if_neg (by split <;> simp)]
theorem kit_own {K : PySem.W.Frag} {C D P : Addr} (hC : Ln K C P) (hD : Ln K D P) : PySem.W.kitOne K (.ref C) (.ref D) = some (decide (D = C) || decide (D = P)) := by
  unfold PySem.W.kitOne
  by_cases h : C = D
  · subst h
    rw [if_pos (by simp)]
    simp
  · have h1 : ¬ (Value.ref C == Value.ref D) = true := fun z => h (Value.ref.inj (beq_iff_eq.mp z))
    rw [if_neg h1]
    obtain ⟨cd, e, m⟩ := hD.cd
    show (if ((PySem.W.clsIn K D).isSome && PySem.W.typeIn K (.ref D) == some (.type "type")) = true then PySem.W.subIn K (.ref C) (.ref D) else none) = _
    rw [e, hD.ty, if_pos (by rfl)]
    show PySem.W.mroIn K C (.ref D) = _
    rw [ln_mro hC]
    have h2 : ¬ D = C := fun z => h z.symm
    have h4 : ∀ X : Addr, (Value.ref D == Value.ref X) = decide (D = X) := fun X => by
      by_cases q : D = X
      · subst q
        simp
      · rw [decide_eq_false q]
        exact beq_eq_false_iff_ne.mpr fun z => q (Value.ref.inj z)
    congr 1
    by_cases hp : C = P
    · subst hp
      rw [if_pos rfl]
      simp [veBase, h4, h2]
    · rw [if_neg hp]
      simp [veBase, h4, h2]
theorem kit_ve {K : PySem.W.Frag} {C P : Addr} (hC : Ln K C P) : PySem.W.kitOne K (.ref C) (.type "ValueError") = some true := by
  show (if PySem.W.kitMeta "ValueError" = true then PySem.W.subIn K (.ref C) (.type "ValueError") else none) = some true
  rw [if_pos (by decide +kernel)]
  show PySem.W.mroIn K C (.type "ValueError") = some true
  rw [ln_mro hC]
  split <;> rfl
/-- .. and a tuple of them -/
theorem kit_any {K : PySem.W.Frag} {C P : Addr} (hC : Ln K C P) : ∀ Ds : List Addr, (∀ D ∈ Ds, Ln K D P) → PySem.W.kitAny K (.ref C) (Ds.map Value.ref) = some (Ds.any fun D => decide (D = C) || decide (D = P))
  | [], _ => rfl
  | D :: r, h => by
    have h1 := kit_own hC (h D List.mem_cons_self)
    have ih := kit_any hC r fun E hE => h E (List.mem_cons_of_mem _ hE)
    refine kitAny_cons h1 (fun e => ?_) (fun e => ?_)
    · rw [ih, List.any_cons, e, Bool.false_or]
    · rw [List.any_cons, e, Bool.true_or]
/-! the head's look -/
def hook (n : Nat) (fa : List Fa) (fn : List DefD) (ex : PySem.W.Frag → Bool) : PySem.W.Hook where
  α := Bool × AlD
  obs := fun s => (ex (frG s.heap.get? (asD s.heap.get? n)), obsD fa fn (frG s.heap.get? (asD s.heap.get? n)))
  val := fun _ => (true, valD fn)
  says := fun _ h => ∃ K : PySem.W.Frag, K.In h ∧ SaysD fa fn K ∧ ex K = true
  of := fun _ _ e => ⟨_, frG_in, congrArg (fun z : Bool × AlD => z.2) e, congrArg (fun z : Bool × AlD => z.1) e⟩
  keeps := fun _ _ _ ⟨K, hK, c⟩ k => ⟨K, PySem.W.Frag.In.keeps hK k, c⟩
def obsOf (n : Nat) (fa : List Fa) (fn : List DefD) (ex : PySem.W.Frag → Bool) (g : Addr → Option Obj) : Bool × AlD := (ex (frG g (asD g n)), obsD fa fn (frG g (asD g n)))
theorem obsOf_eq {n : Nat} {fa : List Fa} {fn : List DefD} {ex : PySem.W.Frag → Bool} {g : Addr → Option Obj} {s : Shared} (h : ∀ a, g a = s.heap.get? a) : obsOf n fa fn ex g = (hook n fa fn ex).obs s := by
  have e : g = s.heap.get? := funext h
  rw [e] <;> rfl
end XH

set_option Elab.async false
set_option linter.all false
set_option maxRecDepth 100000
set_option maxHeartbeats 400000
namespace XM
open PySem PySem.Spec PyProof.Rows L2 He
/-! isinstance against an own class that is no exception: yes for its objects, no for built-in data -/
def insB (K : PySem.W.Frag) (C : Addr) : Bool :=
  decide (PySem.W.findIn K (.ref C) "__class__" = some (some (.builtin "object.__class__"))) && (decide (PySem.W.specialIn K (.builtin "object.__class__") "__get__" = some (some (.builtin "getset_descriptor.__get__"))) &&
  (decide (PySem.W.takesIn K (.builtin "object.__class__") = some true) && (decide (PySem.W.mroIn K C (.type "object") = some true) && (decide (PySem.W.typeIn K (.ref C) = some (.type "type")) && (PySem.W.clsIn K C).isSome))))
structure InsM (K : PySem.W.Frag) (C : Addr) : Prop where
  ha : PySem.W.findIn K (.ref C) "__class__" = some (some (.builtin "object.__class__"))
  hn : PySem.W.specialIn K (.builtin "object.__class__") "__get__" = some (some (.builtin "getset_descriptor.__get__"))
  htk : PySem.W.takesIn K (.builtin "object.__class__") = some true
  hm : PySem.W.mroIn K C (.type "object") = some true
  ty : PySem.W.typeIn K (.ref C) = some (.type "type")
  cd : (PySem.W.clsIn K C).isSome = true
theorem insB_ok {K : PySem.W.Frag} {C : Addr} (h : insB K C = true) : InsM K C := by
  obtain ⟨h1, h⟩ := ba h
  obtain ⟨h2, h⟩ := ba h
  obtain ⟨h3, h⟩ := ba h
  obtain ⟨h4, h⟩ := ba h
  obtain ⟨h5, h6⟩ := ba h
  exact ⟨of_decide_eq_true h1, of_decide_eq_true h2, of_decide_eq_true h3, of_decide_eq_true h4, of_decide_eq_true h5, h6⟩
theorem kit_self {K : PySem.W.Frag} {C : Addr} : PySem.W.kitOne K (.ref C) (.ref C) = some true := by
  unfold PySem.W.kitOne
  rw [if_pos (by simp)]
theorem no_ref (C : Addr) : ∀ l : List String, (l.map Value.type).contains (.ref C) = false
  | [] => rfl
  | a :: l => by
    rw [List.map_cons, List.contains_cons, no_ref C l]
    rfl
theorem kit_no {K : PySem.W.Frag} {C : Addr} (h : InsM K C) {T : String} (hT : (PySem.fastFind? T).isSome = true) : PySem.W.kitOne K (.type T) (.ref C) = some false := by
  unfold PySem.W.kitOne
  rw [if_neg (by simp)]
  show (if ((PySem.W.clsIn K C).isSome && PySem.W.typeIn K (.ref C) == some (.type "type")) = true then PySem.W.subIn K (.type T) (.ref C) else none) = _
  rw [h.cd, h.ty, if_pos (by rfl)]
  show (PySem.fastBuiltinMro T).map (·.contains (.ref C)) = _
  unfold PySem.fastBuiltinMro
  cases e : PySem.fastFind? T with
  | none =>
    rw [e] at hT
    cases hT
  | some t =>
    show some _ = _
    congr 1
    exact no_ref C _
section
variable {K : PySem.W.Frag} {C : Addr} {σ : L2.St} {H : Hp} {i : Nat} {x : V} {Q : VK}
/-- isinstance(x, C) -/
theorem rd_own (c : Cls K C) (m : InsM K C) {a dx : Addr} {fs : List (Str × V)} (hs : σ[i]? = some (some (.ref a))) (ha : H a = some (.ins C dx fs)) (q : Q (.bl true) H) : tCB (rIsi K) (tCons (tVar i) (tCons (tC (.ref C)) tNil)) σ H Q :=
  ⟨_, hs, .ref a, .ref C, .ref C, .ref C, true, rfl, .own C, .base (.ins ha c m.ha m.hn m.htk m.hm), kit_self, q⟩
theorem rd_not (m : InsM K C) {T : String} (hs : σ[i]? = some (some x)) (hx : TyX K H x (.type T)) (hT : (PySem.fastFind? T).isSome = true) (q : Q (.bl false) H) : tCB (rIsi K) (tCons (tVar i) (tCons (tC (.ref C)) tNil)) σ H Q :=
  ⟨_, hs, x, .ref C, .type T, .ref C, false, rfl, .own C, hx, kit_no m hT, q⟩
end
end XM

set_option Elab.async false
set_option linter.all false
set_option maxRecDepth 100000
set_option maxHeartbeats 4000000
namespace K77
open PySem PySem.Spec PyProof.Rows L2
/-! ### what the head tells -/
def top (i : Nat) : Stmt := PySem.Challenge.pw_steadynets_k77_whole_log_texts.main.body.getD i (.Pass ⟨0, 0, 0, 0⟩)
abbrev s_is_integer : Stmt := top 3
abbrev s_is_number : Stmt := top 4
abbrev s_is_list : Stmt := top 5
abbrev s_is_row : Stmt := top 6
abbrev s_is_pair : Stmt := top 7
abbrev s_is_text : Stmt := top 8
abbrev s_is_letters : Stmt := top 9
abbrev s_is_word : Stmt := top 10
abbrev s_is_numeral : Stmt := top 11
abbrev s_is_spelled : Stmt := top 24
abbrev s_is_any_cell : Stmt := top 25
abbrev s_wrong_names : Stmt := top 27
abbrev s_wrong_own : Stmt := top 29
abbrev s_is_long : Stmt := top 30
abbrev s_wrong_state : Stmt := top 31
abbrev s_changed : Stmt := top 32
abbrev s_within : Stmt := top 33
abbrev s_wrong_move : Stmt := top 34
abbrev s_wrong_states : Stmt := top 35
abbrev s_wrong_moves : Stmt := top 36
abbrev s_need_machine : Stmt := top 38
abbrev s_is_move_of : Stmt := top 39
abbrev s_text_of : Stmt := top 41
abbrev s_lines_in : Stmt := top 42
abbrev s_is_wave : Stmt := top 44
abbrev s_are_waves : Stmt := top 45
abbrev s_is_log_row : Stmt := top 46
abbrev s_are_rows : Stmt := top 47
abbrev s_need_log : Stmt := top 48
abbrev s_log_lines : Stmt := top 49
abbrev s_log_text : Stmt := top 50
abbrev s_read_log : Stmt := top 52
abbrev s_law_start : Stmt := top 54
abbrev s_law_pick : Stmt := top 55
abbrev s_law_one : Stmt := top 56
abbrev s_law_mixed : Stmt := top 57
abbrev s_law_same : Stmt := top 58
abbrev s_law_copy : Stmt := top 59
abbrev s_law_loose : Stmt := top 60
abbrev s_law_is_number : Stmt := top 61
abbrev s_law_free_word : Stmt := top 62
abbrev s_law_cells : Stmt := top 63
abbrev s_law_changed : Stmt := top 64
abbrev s_law_all_in : Stmt := top 65
abbrev s_law_state : Stmt := top 66
abbrev s_law_can_move : Stmt := top 67
abbrev s_law_names_for : Stmt := top 68
abbrev s_law_draw_machine : Stmt := top 69
abbrev s_law_machine_of : Stmt := top 70
abbrev s_law_draw_walk : Stmt := top 71
abbrev s_law_log_row : Stmt := top 72
abbrev s_law_is_log : Stmt := top 73
abbrev s_law_any_log : Stmt := top 74
abbrev s_law_bent_log : Stmt := top 75
abbrev s_law_text_of : Stmt := top 76
abbrev s_law_figure : Stmt := top 77
abbrev s_law_line_right : Stmt := top 78
abbrev s_law_read : Stmt := top 79
abbrev s_law_told : Stmt := top 80
abbrev s_law_bent : Stmt := top 81
abbrev s_law : Stmt := top 82
/-- the classes that keep one thing: their names, the names of what they keep -/
def xs0 : List (Str × Str) := [("BadMachine", "machine"), ("BadLamps", "index"), ("BadStates", "index"), ("BadMoves", "index"), ("BadLog", "log"), ("BadLogText", "line"), ("BadLevers", "index")]
def xs : List (Str × Str) := xs0
/-- the others, the base of all first -/
def ns : List Str := ["PanelError"]
/-- own classes that are no exceptions -/
def ows : List Str := ["Machine", "LogLines"]
def fa0 : List He.Fa := [.glo "is_integer", .glo "is_number", .glo "is_list", .glo "is_row", .glo "is_pair", .glo "is_text", .glo "is_letters", .glo "is_word", .glo "is_numeral", .glo "is_spelled", .glo "is_any_cell", .glo "wrong_names", .glo "wrong_own", .glo "is_long", .glo "wrong_state", .glo "changed", .glo "within", .glo "wrong_move", .glo "wrong_states", .glo "wrong_moves", .glo "need_machine", .glo "is_move_of", .glo "text_of", .glo "lines_in", .glo "is_wave", .glo "are_waves", .glo "is_log_row", .glo "are_rows", .glo "need_log", .glo "log_lines"]
def fa1 : List He.Fa := [.glo "log_text", .glo "read_log", .glo "_law_start", .glo "_law_pick", .glo "_law_one", .glo "_law_mixed", .glo "_law_same", .glo "_law_copy", .glo "_law_loose", .glo "_law_is_number", .glo "_law_free_word", .glo "_law_cells", .glo "_law_changed", .glo "_law_all_in", .glo "_law_state", .glo "_law_can_move", .glo "_law_names_for", .glo "_law_draw_machine", .glo "_law_machine_of", .glo "_law_draw_walk", .glo "_law_log_row", .glo "_law_is_log", .glo "_law_any_log", .glo "_law_bent_log", .glo "_law_text_of", .glo "_law_figure", .glo "_law_line_right", .glo "_law_read", .glo "_law_told", .glo "_law_bent"]
def fa2 : List He.Fa := [.glo "law", .free "abs", .free "all", .free "bool", .free "dict", .free "enumerate", .free "int", .free "isinstance", .free "len", .free "list", .free "max", .free "range", .free "str", .free "tuple", .free "zip", .glo "BadMachine", .glo "BadLamps", .glo "BadStates", .glo "BadMoves", .glo "BadLog", .glo "BadLogText", .glo "BadLevers", .glo "PanelError", .glo "Machine", .cls "Machine", .mkr "Machine", .meth "Machine" "levers", .meth "Machine" "lamps", .meth "Machine" "states", .meth "Machine" "moves"]
def fa3 : List He.Fa := [.meth "Machine" "__eq__", .noat "Machine" "_lamps", .noat "Machine" "_levers", .noat "Machine" "_moves", .noat "Machine" "_states", .glo "LogLines", .cls "LogLines", .mkr "LogLines", .meth "LogLines" "is_open", .meth "LogLines" "move", .meth "LogLines" "wave", .meth "LogLines" "take", .noat "LogLines" "machine", .noat "LogLines" "rows", .noat "LogLines" "state", .str "LETTERS" "abcdefghijklmnopqrstuvwxyz", .str "FIGURES" "0123456789"]
def fa : List He.Fa := fa0 ++ (fa1 ++ (fa2 ++ (fa3)))
def ini (x : Str) (i : Nat) : He.DefD := ⟨(x, some "__init__"), "__init__", x ++ ".__init__", defArgs (inClass (top i) 0), defBody (inClass (top i) 0), defScope (inClass (top i) 0), [], []⟩
abbrev m_Machine_init : Stmt := inClass (top 37) 0
abbrev m_Machine_levers : Stmt := inClass (top 37) 1
abbrev m_Machine_lamps : Stmt := inClass (top 37) 2
abbrev m_Machine_states : Stmt := inClass (top 37) 3
abbrev m_Machine_moves : Stmt := inClass (top 37) 4
abbrev m_Machine_eq : Stmt := inClass (top 37) 5
abbrev m_LogLines_init : Stmt := inClass (top 51) 0
abbrev m_LogLines_is_open : Stmt := inClass (top 51) 1
abbrev m_LogLines_move : Stmt := inClass (top 51) 2
abbrev m_LogLines_wave : Stmt := inClass (top 51) 3
abbrev m_LogLines_take : Stmt := inClass (top 51) 4
def fn0 : List He.DefD := [⟨("is_integer", none), "is_integer", "is_integer", defArgs s_is_integer, defBody s_is_integer, defScope s_is_integer, [], []⟩, ⟨("is_number", none), "is_number", "is_number", defArgs s_is_number, defBody s_is_number, defScope s_is_number, [], []⟩, ⟨("is_list", none), "is_list", "is_list", defArgs s_is_list, defBody s_is_list, defScope s_is_list, [], []⟩, ⟨("is_row", none), "is_row", "is_row", defArgs s_is_row, defBody s_is_row, defScope s_is_row, [], []⟩, ⟨("is_pair", none), "is_pair", "is_pair", defArgs s_is_pair, defBody s_is_pair, defScope s_is_pair, [], []⟩, ⟨("is_text", none), "is_text", "is_text", defArgs s_is_text, defBody s_is_text, defScope s_is_text, [], []⟩, ⟨("is_letters", none), "is_letters", "is_letters", defArgs s_is_letters, defBody s_is_letters, defScope s_is_letters, [], []⟩, ⟨("is_word", none), "is_word", "is_word", defArgs s_is_word, defBody s_is_word, defScope s_is_word, [], []⟩, ⟨("is_numeral", none), "is_numeral", "is_numeral", defArgs s_is_numeral, defBody s_is_numeral, defScope s_is_numeral, [], []⟩, ⟨("is_spelled", none), "is_spelled", "is_spelled", defArgs s_is_spelled, defBody s_is_spelled, defScope s_is_spelled, [], []⟩, ⟨("is_any_cell", none), "is_any_cell", "is_any_cell", defArgs s_is_any_cell, defBody s_is_any_cell, defScope s_is_any_cell, [], []⟩, ⟨("wrong_names", none), "wrong_names", "wrong_names", defArgs s_wrong_names, defBody s_wrong_names, defScope s_wrong_names, [], []⟩, ⟨("wrong_own", none), "wrong_own", "wrong_own", defArgs s_wrong_own, defBody s_wrong_own, defScope s_wrong_own, [], []⟩, ⟨("is_long", none), "is_long", "is_long", defArgs s_is_long, defBody s_is_long, defScope s_is_long, [], []⟩, ⟨("wrong_state", none), "wrong_state", "wrong_state", defArgs s_wrong_state, defBody s_wrong_state, defScope s_wrong_state, [], []⟩, ⟨("changed", none), "changed", "changed", defArgs s_changed, defBody s_changed, defScope s_changed, [], []⟩, ⟨("within", none), "within", "within", defArgs s_within, defBody s_within, defScope s_within, [], []⟩, ⟨("wrong_move", none), "wrong_move", "wrong_move", defArgs s_wrong_move, defBody s_wrong_move, defScope s_wrong_move, [], []⟩, ⟨("wrong_states", none), "wrong_states", "wrong_states", defArgs s_wrong_states, defBody s_wrong_states, defScope s_wrong_states, [], []⟩, ⟨("wrong_moves", none), "wrong_moves", "wrong_moves", defArgs s_wrong_moves, defBody s_wrong_moves, defScope s_wrong_moves, [], []⟩, ⟨("need_machine", none), "need_machine", "need_machine", defArgs s_need_machine, defBody s_need_machine, defScope s_need_machine, [], []⟩, ⟨("is_move_of", none), "is_move_of", "is_move_of", defArgs s_is_move_of, defBody s_is_move_of, defScope s_is_move_of, [], []⟩, ⟨("text_of", none), "text_of", "text_of", defArgs s_text_of, defBody s_text_of, defScope s_text_of, [], []⟩, ⟨("lines_in", none), "lines_in", "lines_in", defArgs s_lines_in, defBody s_lines_in, defScope s_lines_in, [], []⟩, ⟨("is_wave", none), "is_wave", "is_wave", defArgs s_is_wave, defBody s_is_wave, defScope s_is_wave, [], []⟩, ⟨("are_waves", none), "are_waves", "are_waves", defArgs s_are_waves, defBody s_are_waves, defScope s_are_waves, [], []⟩, ⟨("is_log_row", none), "is_log_row", "is_log_row", defArgs s_is_log_row, defBody s_is_log_row, defScope s_is_log_row, [], []⟩, ⟨("are_rows", none), "are_rows", "are_rows", defArgs s_are_rows, defBody s_are_rows, defScope s_are_rows, [], []⟩, ⟨("need_log", none), "need_log", "need_log", defArgs s_need_log, defBody s_need_log, defScope s_need_log, [], []⟩, ⟨("log_lines", none), "log_lines", "log_lines", defArgs s_log_lines, defBody s_log_lines, defScope s_log_lines, [], []⟩]
def fn1 : List He.DefD := [⟨("log_text", none), "log_text", "log_text", defArgs s_log_text, defBody s_log_text, defScope s_log_text, [], []⟩, ⟨("read_log", none), "read_log", "read_log", defArgs s_read_log, defBody s_read_log, defScope s_read_log, [], []⟩, ⟨("_law_start", none), "_law_start", "_law_start", defArgs s_law_start, defBody s_law_start, defScope s_law_start, [], []⟩, ⟨("_law_pick", none), "_law_pick", "_law_pick", defArgs s_law_pick, defBody s_law_pick, defScope s_law_pick, [], []⟩, ⟨("_law_one", none), "_law_one", "_law_one", defArgs s_law_one, defBody s_law_one, defScope s_law_one, [], []⟩, ⟨("_law_mixed", none), "_law_mixed", "_law_mixed", defArgs s_law_mixed, defBody s_law_mixed, defScope s_law_mixed, [], []⟩, ⟨("_law_same", none), "_law_same", "_law_same", defArgs s_law_same, defBody s_law_same, defScope s_law_same, [], []⟩, ⟨("_law_copy", none), "_law_copy", "_law_copy", defArgs s_law_copy, defBody s_law_copy, defScope s_law_copy, [], []⟩, ⟨("_law_loose", none), "_law_loose", "_law_loose", defArgs s_law_loose, defBody s_law_loose, defScope s_law_loose, [], []⟩, ⟨("_law_is_number", none), "_law_is_number", "_law_is_number", defArgs s_law_is_number, defBody s_law_is_number, defScope s_law_is_number, [], []⟩, ⟨("_law_free_word", none), "_law_free_word", "_law_free_word", defArgs s_law_free_word, defBody s_law_free_word, defScope s_law_free_word, [], []⟩, ⟨("_law_cells", none), "_law_cells", "_law_cells", defArgs s_law_cells, defBody s_law_cells, defScope s_law_cells, [], []⟩, ⟨("_law_changed", none), "_law_changed", "_law_changed", defArgs s_law_changed, defBody s_law_changed, defScope s_law_changed, [], []⟩, ⟨("_law_all_in", none), "_law_all_in", "_law_all_in", defArgs s_law_all_in, defBody s_law_all_in, defScope s_law_all_in, [], []⟩, ⟨("_law_state", none), "_law_state", "_law_state", defArgs s_law_state, defBody s_law_state, defScope s_law_state, [], []⟩, ⟨("_law_can_move", none), "_law_can_move", "_law_can_move", defArgs s_law_can_move, defBody s_law_can_move, defScope s_law_can_move, [], []⟩, ⟨("_law_names_for", none), "_law_names_for", "_law_names_for", defArgs s_law_names_for, defBody s_law_names_for, defScope s_law_names_for, [], []⟩, ⟨("_law_draw_machine", none), "_law_draw_machine", "_law_draw_machine", defArgs s_law_draw_machine, defBody s_law_draw_machine, defScope s_law_draw_machine, [], []⟩, ⟨("_law_machine_of", none), "_law_machine_of", "_law_machine_of", defArgs s_law_machine_of, defBody s_law_machine_of, defScope s_law_machine_of, [], []⟩, ⟨("_law_draw_walk", none), "_law_draw_walk", "_law_draw_walk", defArgs s_law_draw_walk, defBody s_law_draw_walk, defScope s_law_draw_walk, [], []⟩, ⟨("_law_log_row", none), "_law_log_row", "_law_log_row", defArgs s_law_log_row, defBody s_law_log_row, defScope s_law_log_row, [], []⟩, ⟨("_law_is_log", none), "_law_is_log", "_law_is_log", defArgs s_law_is_log, defBody s_law_is_log, defScope s_law_is_log, [], []⟩, ⟨("_law_any_log", none), "_law_any_log", "_law_any_log", defArgs s_law_any_log, defBody s_law_any_log, defScope s_law_any_log, [], []⟩, ⟨("_law_bent_log", none), "_law_bent_log", "_law_bent_log", defArgs s_law_bent_log, defBody s_law_bent_log, defScope s_law_bent_log, [], []⟩, ⟨("_law_text_of", none), "_law_text_of", "_law_text_of", defArgs s_law_text_of, defBody s_law_text_of, defScope s_law_text_of, [], []⟩, ⟨("_law_figure", none), "_law_figure", "_law_figure", defArgs s_law_figure, defBody s_law_figure, defScope s_law_figure, [], []⟩, ⟨("_law_line_right", none), "_law_line_right", "_law_line_right", defArgs s_law_line_right, defBody s_law_line_right, defScope s_law_line_right, [], []⟩, ⟨("_law_read", none), "_law_read", "_law_read", defArgs s_law_read, defBody s_law_read, defScope s_law_read, [], []⟩, ⟨("_law_told", none), "_law_told", "_law_told", defArgs s_law_told, defBody s_law_told, defScope s_law_told, [], []⟩, ⟨("_law_bent", none), "_law_bent", "_law_bent", defArgs s_law_bent, defBody s_law_bent, defScope s_law_bent, [], []⟩]
def fn2 : List He.DefD := [⟨("law", none), "law", "law", defArgs s_law, defBody s_law, defScope s_law, [], []⟩, ini "BadMachine" 15, ini "BadLamps" 16, ini "BadStates" 17, ini "BadMoves" 18, ini "BadLog" 19, ini "BadLogText" 20, ini "BadLevers" 22, ⟨("Machine", some "__init__"), "__init__", "Machine.__init__", defArgs m_Machine_init, defBody m_Machine_init, defScope m_Machine_init, [], []⟩, ⟨("Machine", some "levers"), "levers", "Machine.levers", defArgs m_Machine_levers, defBody m_Machine_levers, defScope m_Machine_levers, [], []⟩, ⟨("Machine", some "lamps"), "lamps", "Machine.lamps", defArgs m_Machine_lamps, defBody m_Machine_lamps, defScope m_Machine_lamps, [], []⟩, ⟨("Machine", some "states"), "states", "Machine.states", defArgs m_Machine_states, defBody m_Machine_states, defScope m_Machine_states, [], []⟩, ⟨("Machine", some "moves"), "moves", "Machine.moves", defArgs m_Machine_moves, defBody m_Machine_moves, defScope m_Machine_moves, [], []⟩, ⟨("Machine", some "__eq__"), "__eq__", "Machine.__eq__", defArgs m_Machine_eq, defBody m_Machine_eq, defScope m_Machine_eq, [], []⟩, ⟨("LogLines", some "__init__"), "__init__", "LogLines.__init__", defArgs m_LogLines_init, defBody m_LogLines_init, defScope m_LogLines_init, [], []⟩, ⟨("LogLines", some "is_open"), "is_open", "LogLines.is_open", defArgs m_LogLines_is_open, defBody m_LogLines_is_open, defScope m_LogLines_is_open, [], []⟩, ⟨("LogLines", some "move"), "move", "LogLines.move", defArgs m_LogLines_move, defBody m_LogLines_move, defScope m_LogLines_move, [], []⟩, ⟨("LogLines", some "wave"), "wave", "LogLines.wave", defArgs m_LogLines_wave, defBody m_LogLines_wave, defScope m_LogLines_wave, [], []⟩, ⟨("LogLines", some "take"), "take", "LogLines.take", defArgs m_LogLines_take, defBody m_LogLines_take, defScope m_LogLines_take, [], []⟩]
def fn : List He.DefD := fn0 ++ (fn1 ++ (fn2))
def exK (K : PySem.W.Frag) : Bool := (xs.all fun p => PySem.W.keepIn K (.ref (He.ga K p.1)) && (XH.exB K (He.ga K p.1) && (XH.ftB K (He.ga K p.1) p.2 && XH.lnB K (He.ga K p.1) (He.ga K "PanelError")))) &&
  ((ns.all fun x => PySem.W.keepIn K (.ref (He.ga K x)) && (XH.exB K (He.ga K x) && (PySem.W.excIn K (He.ga K x) He.veBase "ValueError.__new__" && XH.lnB K (He.ga K x) (He.ga K "PanelError")))) &&
  (decide ((xs.map fun p => He.ga K p.1) ++ ns.map fun x => He.ga K x).Nodup && ows.all fun x => XM.insB K (He.ga K x)))
/-- the world of the text -/
structure Wld (K : PySem.W.Frag) (mg : Str → Option Value) : Prop where
  in_ : ∃ h : Heap, K.In h ∧ h.Ns mainGlobals mg
  c : He.SaysD fa fn K
  b : exK K = true
/-- a class that keeps one thing -/
structure XF (K : PySem.W.Frag) (mg : Str → Option Value) (x f : Str) : Prop where
  g : mg x = some (.ref (He.ga K x))
  k : PySem.W.keepIn K (.ref (He.ga K x)) = true
  t : PySem.XV.XTxt K (He.ga K x) (He.ma K (He.ga K x) "__init__") (x ++ ".__init__") f
  c : ExcC K (He.ga K x)
  l : XH.Ln K (He.ga K x) (He.ga K "PanelError")
structure XN (K : PySem.W.Frag) (mg : Str → Option Value) (x : Str) : Prop where
  g : mg x = some (.ref (He.ga K x))
  k : PySem.W.keepIn K (.ref (He.ga K x)) = true
  q : PySem.W.excIn K (He.ga K x) He.veBase "ValueError.__new__" = true
  c : ExcC K (He.ga K x)
  l : XH.Ln K (He.ga K x) (He.ga K "PanelError")
section
variable {K : PySem.W.Frag} {mg : Str → Option Value}
theorem Wld.glo (W : Wld K mg) (i : Nat) {x : Str} (h : fa[i]? = some (.glo x)) : mg x = some (.ref (He.ga K x)) := by
  obtain ⟨hp, X, G⟩ := W.in_
  exact He.glo_ok X G (W.c.fact i h)
theorem Wld.free (W : Wld K mg) (i : Nat) {x : Str} (h : fa[i]? = some (.free x)) : mg x = none := by
  obtain ⟨hp, X, G⟩ := W.in_
  exact He.free_ok X G (W.c.fact i h)
theorem xtxt_of {C fI : Addr} {qual f : Str} {ps : Arguments} {bd : List Stmt} {sc : Scope} {p1 p2 q1 q2 q3 q4 : Pos} (b : XH.ftB K C f = true) (F : ∃ fd, FunD K "__init__" qual ps bd sc [] [] fI fd) (ef : fI = He.ma K C "__init__")
    (e1 : ps = PySem.XV.iA f p1 p2) (e2 : bd = PySem.XV.iB f q1 q2 q3 q4) (e3 : sc = PySem.XV.iS f) : PySem.XV.XTxt K C (He.ma K C "__init__") qual f := by
  subst ef e1 e2 e3
  obtain ⟨b1, b⟩ := He.ba b
  obtain ⟨b2, b⟩ := He.ba b
  obtain ⟨b3, b⟩ := He.ba b
  obtain ⟨b4, b⟩ := He.ba b
  obtain ⟨b5, b⟩ := He.ba b
  obtain ⟨b6, b7⟩ := He.ba b
  obtain ⟨fd, F⟩ := F
  obtain ⟨oc, od, dV, kV, doc, pm, an, cdv, ct, osl, e, lk, hcd, hD, hK⟩ := F.ex
  have ed : dV = .none := by
    rcases hD with ⟨_, z⟩ | ⟨z, _⟩
    · exact z
    · exact absurd rfl z
  subst ed e
  exact ⟨⟨by simpa using b6, by simpa using b7⟩, XH.mkB_ok b1, of_decide_eq_true b2, of_decide_eq_true b3, of_decide_eq_true b4, of_decide_eq_true b5, ⟨oc, od, kV, doc, pm, an, cdv, ct, osl, _, _, _, _, _, _, lk, hcd⟩⟩
theorem Wld.xf (W : Wld K mg) (i j k : Nat) {x f : Str} {n : Nat} {p1 p2 q1 q2 q3 q4 : Pos} (h : xs[i]? = some (x, f)) (hg : fa[j]? = some (.glo x)) (hd : fn[k]? = some (ini x n)) (e1 : defArgs (inClass (top n) 0) = PySem.XV.iA f p1 p2)
    (e2 : defBody (inClass (top n) 0) = PySem.XV.iB f q1 q2 q3 q4) (e3 : defScope (inClass (top n) 0) = PySem.XV.iS f) : XF K mg x f := by
  obtain ⟨b1, _⟩ := He.ba W.b
  have z := List.all_eq_true.mp b1 _ (List.mem_of_getElem? h)
  obtain ⟨z1, z⟩ := He.ba z
  obtain ⟨z2, z⟩ := He.ba z
  obtain ⟨z3, z4⟩ := He.ba z
  exact ⟨W.glo j hg, z1, xtxt_of z3 (W.c.def_ k hd) rfl e1 e2 e3, XH.exB_ok z2, XH.lnB_ok z4⟩
theorem Wld.xn (W : Wld K mg) (i j : Nat) {x : Str} (h : ns[i]? = some x) (hg : fa[j]? = some (.glo x)) : XN K mg x := by
  obtain ⟨_, b2⟩ := He.ba W.b
  obtain ⟨b3, _⟩ := He.ba b2
  have z := List.all_eq_true.mp b3 _ (List.mem_of_getElem? h)
  obtain ⟨z1, z⟩ := He.ba z
  obtain ⟨z2, z⟩ := He.ba z
  obtain ⟨z3, z4⟩ := He.ba z
  exact ⟨W.glo j hg, z1, z3, XH.exB_ok z2, XH.lnB_ok z4⟩
theorem Wld.nd (W : Wld K mg) : ((xs.map fun p => He.ga K p.1) ++ ns.map fun x => He.ga K x).Nodup := by
  obtain ⟨_, b2⟩ := He.ba W.b
  exact of_decide_eq_true (He.ba (He.ba b2).2).1
theorem Wld.ow (W : Wld K mg) (i : Nat) {x : Str} (h : ows[i]? = some x) : XM.InsM K (He.ga K x) := by
  obtain ⟨_, b2⟩ := He.ba W.b
  exact XM.insB_ok (List.all_eq_true.mp (He.ba (He.ba b2).2).2 x (List.mem_of_getElem? h))
theorem Wld.n_abs (W : Wld K mg) : mg "abs" = none := W.free 61 rfl
theorem Wld.n_all (W : Wld K mg) : mg "all" = none := W.free 62 rfl
theorem Wld.n_bool (W : Wld K mg) : mg "bool" = none := W.free 63 rfl
theorem Wld.n_dict (W : Wld K mg) : mg "dict" = none := W.free 64 rfl
theorem Wld.n_enumerate (W : Wld K mg) : mg "enumerate" = none := W.free 65 rfl
theorem Wld.n_int (W : Wld K mg) : mg "int" = none := W.free 66 rfl
theorem Wld.n_isinstance (W : Wld K mg) : mg "isinstance" = none := W.free 67 rfl
theorem Wld.n_len (W : Wld K mg) : mg "len" = none := W.free 68 rfl
theorem Wld.n_list (W : Wld K mg) : mg "list" = none := W.free 69 rfl
theorem Wld.n_max (W : Wld K mg) : mg "max" = none := W.free 70 rfl
theorem Wld.n_range (W : Wld K mg) : mg "range" = none := W.free 71 rfl
theorem Wld.n_str (W : Wld K mg) : mg "str" = none := W.free 72 rfl
theorem Wld.n_tuple (W : Wld K mg) : mg "tuple" = none := W.free 73 rfl
theorem Wld.n_zip (W : Wld K mg) : mg "zip" = none := W.free 74 rfl
theorem Wld.g_is_integer (W : Wld K mg) : mg "is_integer" = some (.ref (He.ga K "is_integer")) := W.glo 0 rfl
theorem Wld.g_is_number (W : Wld K mg) : mg "is_number" = some (.ref (He.ga K "is_number")) := W.glo 1 rfl
theorem Wld.g_is_list (W : Wld K mg) : mg "is_list" = some (.ref (He.ga K "is_list")) := W.glo 2 rfl
theorem Wld.g_is_row (W : Wld K mg) : mg "is_row" = some (.ref (He.ga K "is_row")) := W.glo 3 rfl
theorem Wld.g_is_pair (W : Wld K mg) : mg "is_pair" = some (.ref (He.ga K "is_pair")) := W.glo 4 rfl
theorem Wld.g_is_text (W : Wld K mg) : mg "is_text" = some (.ref (He.ga K "is_text")) := W.glo 5 rfl
theorem Wld.g_is_letters (W : Wld K mg) : mg "is_letters" = some (.ref (He.ga K "is_letters")) := W.glo 6 rfl
theorem Wld.g_is_word (W : Wld K mg) : mg "is_word" = some (.ref (He.ga K "is_word")) := W.glo 7 rfl
theorem Wld.g_is_numeral (W : Wld K mg) : mg "is_numeral" = some (.ref (He.ga K "is_numeral")) := W.glo 8 rfl
theorem Wld.g_is_spelled (W : Wld K mg) : mg "is_spelled" = some (.ref (He.ga K "is_spelled")) := W.glo 9 rfl
theorem Wld.g_is_any_cell (W : Wld K mg) : mg "is_any_cell" = some (.ref (He.ga K "is_any_cell")) := W.glo 10 rfl
theorem Wld.g_wrong_names (W : Wld K mg) : mg "wrong_names" = some (.ref (He.ga K "wrong_names")) := W.glo 11 rfl
theorem Wld.g_wrong_own (W : Wld K mg) : mg "wrong_own" = some (.ref (He.ga K "wrong_own")) := W.glo 12 rfl
theorem Wld.g_is_long (W : Wld K mg) : mg "is_long" = some (.ref (He.ga K "is_long")) := W.glo 13 rfl
theorem Wld.g_wrong_state (W : Wld K mg) : mg "wrong_state" = some (.ref (He.ga K "wrong_state")) := W.glo 14 rfl
theorem Wld.g_changed (W : Wld K mg) : mg "changed" = some (.ref (He.ga K "changed")) := W.glo 15 rfl
theorem Wld.g_within (W : Wld K mg) : mg "within" = some (.ref (He.ga K "within")) := W.glo 16 rfl
theorem Wld.g_wrong_move (W : Wld K mg) : mg "wrong_move" = some (.ref (He.ga K "wrong_move")) := W.glo 17 rfl
theorem Wld.g_wrong_states (W : Wld K mg) : mg "wrong_states" = some (.ref (He.ga K "wrong_states")) := W.glo 18 rfl
theorem Wld.g_wrong_moves (W : Wld K mg) : mg "wrong_moves" = some (.ref (He.ga K "wrong_moves")) := W.glo 19 rfl
theorem Wld.g_need_machine (W : Wld K mg) : mg "need_machine" = some (.ref (He.ga K "need_machine")) := W.glo 20 rfl
theorem Wld.g_is_move_of (W : Wld K mg) : mg "is_move_of" = some (.ref (He.ga K "is_move_of")) := W.glo 21 rfl
theorem Wld.g_text_of (W : Wld K mg) : mg "text_of" = some (.ref (He.ga K "text_of")) := W.glo 22 rfl
theorem Wld.g_lines_in (W : Wld K mg) : mg "lines_in" = some (.ref (He.ga K "lines_in")) := W.glo 23 rfl
theorem Wld.g_is_wave (W : Wld K mg) : mg "is_wave" = some (.ref (He.ga K "is_wave")) := W.glo 24 rfl
theorem Wld.g_are_waves (W : Wld K mg) : mg "are_waves" = some (.ref (He.ga K "are_waves")) := W.glo 25 rfl
theorem Wld.g_is_log_row (W : Wld K mg) : mg "is_log_row" = some (.ref (He.ga K "is_log_row")) := W.glo 26 rfl
theorem Wld.g_are_rows (W : Wld K mg) : mg "are_rows" = some (.ref (He.ga K "are_rows")) := W.glo 27 rfl
theorem Wld.g_need_log (W : Wld K mg) : mg "need_log" = some (.ref (He.ga K "need_log")) := W.glo 28 rfl
theorem Wld.g_log_lines (W : Wld K mg) : mg "log_lines" = some (.ref (He.ga K "log_lines")) := W.glo 29 rfl
theorem Wld.g_log_text (W : Wld K mg) : mg "log_text" = some (.ref (He.ga K "log_text")) := W.glo 30 rfl
theorem Wld.g_read_log (W : Wld K mg) : mg "read_log" = some (.ref (He.ga K "read_log")) := W.glo 31 rfl
theorem Wld.g_law_start (W : Wld K mg) : mg "_law_start" = some (.ref (He.ga K "_law_start")) := W.glo 32 rfl
theorem Wld.g_law_pick (W : Wld K mg) : mg "_law_pick" = some (.ref (He.ga K "_law_pick")) := W.glo 33 rfl
theorem Wld.g_law_one (W : Wld K mg) : mg "_law_one" = some (.ref (He.ga K "_law_one")) := W.glo 34 rfl
theorem Wld.g_law_mixed (W : Wld K mg) : mg "_law_mixed" = some (.ref (He.ga K "_law_mixed")) := W.glo 35 rfl
theorem Wld.g_law_same (W : Wld K mg) : mg "_law_same" = some (.ref (He.ga K "_law_same")) := W.glo 36 rfl
theorem Wld.g_law_copy (W : Wld K mg) : mg "_law_copy" = some (.ref (He.ga K "_law_copy")) := W.glo 37 rfl
theorem Wld.g_law_loose (W : Wld K mg) : mg "_law_loose" = some (.ref (He.ga K "_law_loose")) := W.glo 38 rfl
theorem Wld.g_law_is_number (W : Wld K mg) : mg "_law_is_number" = some (.ref (He.ga K "_law_is_number")) := W.glo 39 rfl
theorem Wld.g_law_free_word (W : Wld K mg) : mg "_law_free_word" = some (.ref (He.ga K "_law_free_word")) := W.glo 40 rfl
theorem Wld.g_law_cells (W : Wld K mg) : mg "_law_cells" = some (.ref (He.ga K "_law_cells")) := W.glo 41 rfl
theorem Wld.g_law_changed (W : Wld K mg) : mg "_law_changed" = some (.ref (He.ga K "_law_changed")) := W.glo 42 rfl
theorem Wld.g_law_all_in (W : Wld K mg) : mg "_law_all_in" = some (.ref (He.ga K "_law_all_in")) := W.glo 43 rfl
theorem Wld.g_law_state (W : Wld K mg) : mg "_law_state" = some (.ref (He.ga K "_law_state")) := W.glo 44 rfl
theorem Wld.g_law_can_move (W : Wld K mg) : mg "_law_can_move" = some (.ref (He.ga K "_law_can_move")) := W.glo 45 rfl
theorem Wld.g_law_names_for (W : Wld K mg) : mg "_law_names_for" = some (.ref (He.ga K "_law_names_for")) := W.glo 46 rfl
theorem Wld.g_law_draw_machine (W : Wld K mg) : mg "_law_draw_machine" = some (.ref (He.ga K "_law_draw_machine")) := W.glo 47 rfl
theorem Wld.g_law_machine_of (W : Wld K mg) : mg "_law_machine_of" = some (.ref (He.ga K "_law_machine_of")) := W.glo 48 rfl
theorem Wld.g_law_draw_walk (W : Wld K mg) : mg "_law_draw_walk" = some (.ref (He.ga K "_law_draw_walk")) := W.glo 49 rfl
theorem Wld.g_law_log_row (W : Wld K mg) : mg "_law_log_row" = some (.ref (He.ga K "_law_log_row")) := W.glo 50 rfl
theorem Wld.g_law_is_log (W : Wld K mg) : mg "_law_is_log" = some (.ref (He.ga K "_law_is_log")) := W.glo 51 rfl
theorem Wld.g_law_any_log (W : Wld K mg) : mg "_law_any_log" = some (.ref (He.ga K "_law_any_log")) := W.glo 52 rfl
theorem Wld.g_law_bent_log (W : Wld K mg) : mg "_law_bent_log" = some (.ref (He.ga K "_law_bent_log")) := W.glo 53 rfl
theorem Wld.g_law_text_of (W : Wld K mg) : mg "_law_text_of" = some (.ref (He.ga K "_law_text_of")) := W.glo 54 rfl
theorem Wld.g_law_figure (W : Wld K mg) : mg "_law_figure" = some (.ref (He.ga K "_law_figure")) := W.glo 55 rfl
theorem Wld.g_law_line_right (W : Wld K mg) : mg "_law_line_right" = some (.ref (He.ga K "_law_line_right")) := W.glo 56 rfl
theorem Wld.g_law_read (W : Wld K mg) : mg "_law_read" = some (.ref (He.ga K "_law_read")) := W.glo 57 rfl
theorem Wld.g_law_told (W : Wld K mg) : mg "_law_told" = some (.ref (He.ga K "_law_told")) := W.glo 58 rfl
theorem Wld.g_law_bent (W : Wld K mg) : mg "_law_bent" = some (.ref (He.ga K "_law_bent")) := W.glo 59 rfl
theorem Wld.g_law (W : Wld K mg) : mg "law" = some (.ref (He.ga K "law")) := W.glo 60 rfl
theorem Wld.x_BadMachine (W : Wld K mg) : XF K mg "BadMachine" "machine" := W.xf 0 75 61 (n := 15) rfl rfl rfl rfl rfl rfl
theorem Wld.x_BadLamps (W : Wld K mg) : XF K mg "BadLamps" "index" := W.xf 1 76 62 (n := 16) rfl rfl rfl rfl rfl rfl
theorem Wld.x_BadStates (W : Wld K mg) : XF K mg "BadStates" "index" := W.xf 2 77 63 (n := 17) rfl rfl rfl rfl rfl rfl
theorem Wld.x_BadMoves (W : Wld K mg) : XF K mg "BadMoves" "index" := W.xf 3 78 64 (n := 18) rfl rfl rfl rfl rfl rfl
theorem Wld.x_BadLog (W : Wld K mg) : XF K mg "BadLog" "log" := W.xf 4 79 65 (n := 19) rfl rfl rfl rfl rfl rfl
theorem Wld.x_BadLogText (W : Wld K mg) : XF K mg "BadLogText" "line" := W.xf 5 80 66 (n := 20) rfl rfl rfl rfl rfl rfl
theorem Wld.x_BadLevers (W : Wld K mg) : XF K mg "BadLevers" "index" := W.xf 6 81 67 (n := 22) rfl rfl rfl rfl rfl rfl
theorem Wld.x_PanelError (W : Wld K mg) : XN K mg "PanelError" := W.xn 0 82 rfl rfl
theorem Wld.g_BadMachine (W : Wld K mg) : mg "BadMachine" = some (.ref (He.ga K "BadMachine")) := (W.x_BadMachine).g
theorem Wld.g_BadLamps (W : Wld K mg) : mg "BadLamps" = some (.ref (He.ga K "BadLamps")) := (W.x_BadLamps).g
theorem Wld.g_BadStates (W : Wld K mg) : mg "BadStates" = some (.ref (He.ga K "BadStates")) := (W.x_BadStates).g
theorem Wld.g_BadMoves (W : Wld K mg) : mg "BadMoves" = some (.ref (He.ga K "BadMoves")) := (W.x_BadMoves).g
theorem Wld.g_BadLog (W : Wld K mg) : mg "BadLog" = some (.ref (He.ga K "BadLog")) := (W.x_BadLog).g
theorem Wld.g_BadLogText (W : Wld K mg) : mg "BadLogText" = some (.ref (He.ga K "BadLogText")) := (W.x_BadLogText).g
theorem Wld.g_BadLevers (W : Wld K mg) : mg "BadLevers" = some (.ref (He.ga K "BadLevers")) := (W.x_BadLevers).g
theorem Wld.g_PanelError (W : Wld K mg) : mg "PanelError" = some (.ref (He.ga K "PanelError")) := (W.x_PanelError).g
theorem Wld.g_Machine (W : Wld K mg) : mg "Machine" = some (.ref (He.ga K "Machine")) := W.glo 83 rfl
theorem Wld.c_Machine (W : Wld K mg) : Cls K (He.ga K "Machine") := He.cls_ok (W.c.fact 84 (f := .cls "Machine") rfl)
theorem Wld.mk_Machine (W : Wld K mg) : Mk K (He.ga K "Machine") (He.ma K (He.ga K "Machine") "__init__") := He.mkr_ok (W.c.fact 85 (f := .mkr "Machine") rfl)
theorem Wld.i_Machine (W : Wld K mg) : XM.InsM K (He.ga K "Machine") := W.ow 0 rfl
theorem Wld.me_Machine_levers (W : Wld K mg) : Meth K (He.ga K "Machine") "levers" (He.ma K (He.ga K "Machine") "levers") := He.meth_ok (W.c.fact 86 (f := .meth "Machine" "levers") rfl)
theorem Wld.me_Machine_lamps (W : Wld K mg) : Meth K (He.ga K "Machine") "lamps" (He.ma K (He.ga K "Machine") "lamps") := He.meth_ok (W.c.fact 87 (f := .meth "Machine" "lamps") rfl)
theorem Wld.me_Machine_states (W : Wld K mg) : Meth K (He.ga K "Machine") "states" (He.ma K (He.ga K "Machine") "states") := He.meth_ok (W.c.fact 88 (f := .meth "Machine" "states") rfl)
theorem Wld.me_Machine_moves (W : Wld K mg) : Meth K (He.ga K "Machine") "moves" (He.ma K (He.ga K "Machine") "moves") := He.meth_ok (W.c.fact 89 (f := .meth "Machine" "moves") rfl)
theorem Wld.me_Machine_eq (W : Wld K mg) : Meth K (He.ga K "Machine") "__eq__" (He.ma K (He.ga K "Machine") "__eq__") := He.meth_ok (W.c.fact 90 (f := .meth "Machine" "__eq__") rfl)
theorem Wld.na_Machine_lamps (W : Wld K mg) : NoAttr K (He.ga K "Machine") "_lamps" := He.noat_ok (W.c.fact 91 (f := .noat "Machine" "_lamps") rfl)
theorem Wld.na_Machine_levers (W : Wld K mg) : NoAttr K (He.ga K "Machine") "_levers" := He.noat_ok (W.c.fact 92 (f := .noat "Machine" "_levers") rfl)
theorem Wld.na_Machine_moves (W : Wld K mg) : NoAttr K (He.ga K "Machine") "_moves" := He.noat_ok (W.c.fact 93 (f := .noat "Machine" "_moves") rfl)
theorem Wld.na_Machine_states (W : Wld K mg) : NoAttr K (He.ga K "Machine") "_states" := He.noat_ok (W.c.fact 94 (f := .noat "Machine" "_states") rfl)
def d_Machine_init : Nat := 68
def d_Machine_levers : Nat := 69
def d_Machine_lamps : Nat := 70
def d_Machine_states : Nat := 71
def d_Machine_moves : Nat := 72
def d_Machine_eq : Nat := 73
theorem Wld.g_LogLines (W : Wld K mg) : mg "LogLines" = some (.ref (He.ga K "LogLines")) := W.glo 95 rfl
theorem Wld.c_LogLines (W : Wld K mg) : Cls K (He.ga K "LogLines") := He.cls_ok (W.c.fact 96 (f := .cls "LogLines") rfl)
theorem Wld.mk_LogLines (W : Wld K mg) : Mk K (He.ga K "LogLines") (He.ma K (He.ga K "LogLines") "__init__") := He.mkr_ok (W.c.fact 97 (f := .mkr "LogLines") rfl)
theorem Wld.i_LogLines (W : Wld K mg) : XM.InsM K (He.ga K "LogLines") := W.ow 1 rfl
theorem Wld.me_LogLines_is_open (W : Wld K mg) : Meth K (He.ga K "LogLines") "is_open" (He.ma K (He.ga K "LogLines") "is_open") := He.meth_ok (W.c.fact 98 (f := .meth "LogLines" "is_open") rfl)
theorem Wld.me_LogLines_move (W : Wld K mg) : Meth K (He.ga K "LogLines") "move" (He.ma K (He.ga K "LogLines") "move") := He.meth_ok (W.c.fact 99 (f := .meth "LogLines" "move") rfl)
theorem Wld.me_LogLines_wave (W : Wld K mg) : Meth K (He.ga K "LogLines") "wave" (He.ma K (He.ga K "LogLines") "wave") := He.meth_ok (W.c.fact 100 (f := .meth "LogLines" "wave") rfl)
theorem Wld.me_LogLines_take (W : Wld K mg) : Meth K (He.ga K "LogLines") "take" (He.ma K (He.ga K "LogLines") "take") := He.meth_ok (W.c.fact 101 (f := .meth "LogLines" "take") rfl)
theorem Wld.na_LogLines_machine (W : Wld K mg) : NoAttr K (He.ga K "LogLines") "machine" := He.noat_ok (W.c.fact 102 (f := .noat "LogLines" "machine") rfl)
theorem Wld.na_LogLines_rows (W : Wld K mg) : NoAttr K (He.ga K "LogLines") "rows" := He.noat_ok (W.c.fact 103 (f := .noat "LogLines" "rows") rfl)
theorem Wld.na_LogLines_state (W : Wld K mg) : NoAttr K (He.ga K "LogLines") "state" := He.noat_ok (W.c.fact 104 (f := .noat "LogLines" "state") rfl)
def d_LogLines_init : Nat := 74
def d_LogLines_is_open : Nat := 75
def d_LogLines_move : Nat := 76
def d_LogLines_wave : Nat := 77
def d_LogLines_take : Nat := 78
theorem Wld.str_LETTERS (W : Wld K mg) : ∃ t, mg "LETTERS" = some (.str "abcdefghijklmnopqrstuvwxyz" t) := by
  obtain ⟨hp, X, G⟩ := W.in_
  exact He.str_ok X G (W.c.fact 105 (f := .str "LETTERS" "abcdefghijklmnopqrstuvwxyz") rfl)
theorem Wld.str_FIGURES (W : Wld K mg) : ∃ t, mg "FIGURES" = some (.str "0123456789" t) := by
  obtain ⟨hp, X, G⟩ := W.in_
  exact He.str_ok X G (W.c.fact 106 (f := .str "FIGURES" "0123456789") rfl)
end
end K77

set_option Elab.async false
set_option linter.all false
set_option maxRecDepth 100000
set_option maxHeartbeats 400000
namespace XH
open PySem PySem.Spec PyProof.Rows L2 He
/-- the head's watch over the objects at some places of the heap, with a word on classes -/
def hookR (as : List Addr) (fa : List Fa) (fn : List DefD) (ex : PySem.W.Frag → Bool) : PySem.W.Hook where
  α := Bool × AlD
  obs := fun s => (ex (frG s.heap.get? as), obsD fa fn (frG s.heap.get? as))
  val := fun _ => (true, valD fn)
  says := fun _ h => ∃ K : PySem.W.Frag, K.In h ∧ SaysD fa fn K ∧ ex K = true
  of := fun _ _ e => ⟨_, frG_in, congrArg Prod.snd e, congrArg Prod.fst e⟩
  keeps := fun _ _ _ ⟨K, hK, c⟩ k => ⟨K, PySem.W.Frag.In.keeps hK k, c⟩
def obsR (as : List Addr) (fa : List Fa) (fn : List DefD) (ex : PySem.W.Frag → Bool) (g : Addr → Option Obj) : Bool × AlD := (ex (frG g as), obsD fa fn (frG g as))
theorem obsR_eq {as : List Addr} {fa : List Fa} {fn : List DefD} {ex : PySem.W.Frag → Bool} {g : Addr → Option Obj} {s : Shared} (h : ∀ a, g a = s.heap.get? a) : obsR as fa fn ex g = (hookR as fa fn ex).obs s := by
  have e : g = s.heap.get? := funext h
  rw [e] <;> rfl
end XH

set_option Elab.async false
set_option linter.all false
set_option maxRecDepth 100000
set_option maxHeartbeats 400000
namespace XW
open PySem PySem.Spec PyProof.Rows L2
/-- the law's own code object and its empty table -/
def OwnCode (h : Heap) (fa : Addr) : Prop := ∃ (o : Obj) (fd : FuncData) (c P : Addr), h.get? fa = some o ∧ o.data = .func fd ∧ fd.code = .ref c ∧ PySem.W.CodeHd h c P ∧ h.get? P = some { cls := .none, data := .fields #[] }
theorem walk_tab {l : PySem.W.OpenLaw} {n k : Nat} {q : Program} {loose : List Str} {XP : (Str → Option Value) → Heap → Prop} {YP : World → Heap → Prop} {d : DefRec} {CX : World → CXT} {x : Str}
    (hn : l.most = some n) (hn2 : n ≤ sizeLine) (hdf : d.params.defaults = []) (hr : Room k callerA) (hrec : ((recsOf q).any fun e => e.name == d.name) = true)
    (F : ∀ (w : World) (mg : Str → Option Value) (fa : Addr) (h : Heap), YP w h → h.Ns mainGlobals mg → mg d.name = some (.ref fa) → OwnCode h fa → ∃ K : PySem.W.Frag, K.In h ∧ LamX.LawAtS l w K (CX w) k n x mg fa h)
    (hCX : ∀ (w : World) (H : Hp) (s : Shared) (e : Value) (s' : Shared), CX w [] H s (fun _ _ _ => False) e s' → False) :
    PySem.W.WalkO q loose XP YP l.row.toRowW d [] (fun f vs => PySem.call f vs) := by
  refine Att.attach_callB hn hdf fun w s₀ s₁ mg mb fa o pm cd doc a vs ns G Y ho hd hcd hmg hobj hints hlen hbits hg => ?_
  have own : OwnCode s₁.heap fa := by
    obtain ⟨dL, hm, hn1⟩ := List.any_eq_true.mp hrec
    have hn2 : dL.name = d.name := beq_iff_eq.mp hn1
    obtain ⟨a', o', fd', c', P', h1, h2, h3, h4, h5, h6⟩ := G.T.tab dL hm
    rw [hn2, hmg] at h1
    cases h1
    exact ⟨o', fd', c', P', h2, h3, h4, PySem.W.CodeHd.of h5 h6, h6.2⟩
  obtain ⟨K, KX, fd, cs, sp, hT, nT, C, hb, hsp, hF⟩ := F w mg fa _ Y G.T.g hmg own
  exact LamX.law_callTs KX G.T.g G.T.b G.T.builtins G.T.nolimit hg hT nT C G.T.bmain hobj hints (Nat.le_trans hlen hn2) hr hF hb (fun H hH hS => hsp H a ns hlen hbits hH hS) fun H e s' => hCX w H s₁ e s'
/-- no empty table -/
def noTab (K : PySem.W.Frag) : Bool := K.all fun q => !He.emptyTab q.2
theorem noTab_ok {K : PySem.W.Frag} {h : Heap} {P : Addr} (b : noTab K = true) (X : K.In h) (hP : h.get? P = some { cls := .none, data := .fields #[] }) : K.lookup P = none := by
  cases e : K.lookup P with
  | none => rfl
  | some o =>
    have z := X _ _ e
    rw [hP] at z
    obtain rfl := Option.some.inj z
    have := List.all_eq_true.mp b _ (He.lookup_mem e)
    cases this
end XW

set_option Elab.async false
set_option linter.all false
set_option maxRecDepth 100000
set_option maxHeartbeats 400000
namespace K77
/-- where the classes, their names, their functions and the functions' codes stand -/
def at0 : List Nat := [0, 1, 2, 3, 4, 5, 6, 7, 9, 10, 20, 21, 27, 28, 34, 35, 41, 42, 48, 49, 55, 56, 60, 61, 67, 68, 72, 73, 82, 83, 99, 100, 102, 103, 118, 119, 121, 122, 137, 138, 140, 141, 156, 157, 159, 160, 175, 176, 178, 179, 194, 195, 197, 198, 213, 214, 216, 217, 223, 224]
def at1 : List Nat := [230, 231, 237, 238, 244, 245, 251, 252, 256, 257, 261, 262, 266, 267, 271, 272, 278, 279, 283, 284, 295, 296, 302, 303, 309, 310, 316, 317, 323, 324, 330, 331, 333, 334, 344, 345, 351, 352, 356, 357, 361, 362, 366, 367, 371, 372, 378, 379, 385, 386, 392, 393, 397, 398, 404, 405, 418, 419, 425, 426]
def at2 : List Nat := [432, 433, 437, 438, 444, 445, 447, 448, 458, 459, 465, 466, 472, 473, 479, 480, 486, 487, 491, 492, 496, 497, 501, 502, 508, 509, 515, 516, 522, 523, 527, 528, 532, 533, 537, 538, 544, 545, 549, 550, 554, 555, 561, 562, 566, 567, 571, 572, 578, 579, 585, 586, 590, 591, 595, 596, 600, 601, 605, 606]
def at3 : List Nat := [612, 613, 619, 620, 624, 625, 631, 632]
def ats : List Nat := at0 ++ (at1 ++ (at2 ++ (at3)))
end K77

set_option Elab.async false
set_option linter.all false
set_option maxRecDepth 100000
set_option maxHeartbeats 0
namespace K77
open PySem PySem.Spec PySem.W PySem.Calls PyProof.Rows L2
abbrev RS : PySem.W.OpenRow := PySem.W.OpenLaw.row PySem.Challenge.rw_steadynets_k77_whole_log_texts
abbrev qv : Program := PySem.W.view RS.prog [82]
def topName : Stmt → Option PySem.Str
  | .ClassDef n .. => some n
  | .FunctionDef n .. => some n
  | .Assign [.Name n _] _ _ => if n == ("__name__" : PySem.Str) then none else some n
  | _ => none
def names : List PySem.Str := (RS.prog.main.body.take 82).filterMap topName
theorem runS (w : World) (os : OsState) : (HandSHeadRun.endF (HandSHeadRun.stepQ (HandSHeadRun.denQ HandSHeadRun.tabQ) RS.prog w) 20000 RS.prog w os).map (fun s => (HandSHeadRun.looksF RS.prog (boot_heap w.params) s.abs, HandSHeadRun.seenQ qv names (importedModules RS.prog.main.body) (fun s => xlAt qv [] s && recOk RS.toRowW.records s) s.abs)) = some (true, openGood qv names) := by
  kernel_rfl
end K77

set_option Elab.async false
set_option linter.all false
set_option maxRecDepth 100000
set_option maxHeartbeats 0
namespace K77
open PySem PySem.Spec PySem.W PySem.Calls PyProof.Rows L2
abbrev RA : PySem.W.OpenRow := PySem.W.OpenLaw.row PySem.Challenge.rw_steadynets_k77_whole_log_texts
theorem runA (w : World) (os : OsState) : (HandSHeadRun.endF (HandSHeadRun.stepQ (HandSHeadRun.denQ HandSHeadRun.tabQ) RA.prog w) 20000 RA.prog w os).map (fun s => (exK (He.frG (HandSHeadRun.getT s) ats) && XW.noTab (He.frG (HandSHeadRun.getT s) ats) : Bool)) = some (true) := by
  kernel_rfl
end K77

set_option Elab.async false
set_option linter.all false
set_option maxRecDepth 100000
set_option maxHeartbeats 0
namespace K77
open PySem PySem.Spec PySem.W PySem.Calls PyProof.Rows L2
abbrev RB1 : PySem.W.OpenRow := PySem.W.OpenLaw.row PySem.Challenge.rw_steadynets_k77_whole_log_texts
theorem runB1 (w : World) (os : OsState) : (HandSHeadRun.endF (HandSHeadRun.stepQ (HandSHeadRun.denQ HandSHeadRun.tabQ) RB1.prog w) 20000 RB1.prog w os).map (fun s => (fa.all fun f => f.ok (He.frG (HandSHeadRun.getT s) ats) : Bool)) = some (true) := by
  kernel_rfl
end K77

set_option Elab.async false
set_option linter.all false
set_option maxRecDepth 100000
set_option maxHeartbeats 0
namespace K77
open PySem PySem.Spec PySem.W PySem.Calls PyProof.Rows L2
abbrev RD0 : PySem.W.OpenRow := PySem.W.OpenLaw.row PySem.Challenge.rw_steadynets_k77_whole_log_texts
theorem runD0 (w : World) (os : OsState) : (HandSHeadRun.endF (HandSHeadRun.stepQ (HandSHeadRun.denQ HandSHeadRun.tabQ) RD0.prog w) 20000 RD0.prog w os).map (fun s => (fn0.all fun d => d.ok (He.frG (HandSHeadRun.getT s) ats) : Bool)) = some (true) := by
  kernel_rfl
end K77

set_option Elab.async false
set_option linter.all false
set_option maxRecDepth 100000
set_option maxHeartbeats 0
namespace K77
open PySem PySem.Spec PySem.W PySem.Calls PyProof.Rows L2
abbrev RD1 : PySem.W.OpenRow := PySem.W.OpenLaw.row PySem.Challenge.rw_steadynets_k77_whole_log_texts
theorem runD1 (w : World) (os : OsState) : (HandSHeadRun.endF (HandSHeadRun.stepQ (HandSHeadRun.denQ HandSHeadRun.tabQ) RD1.prog w) 20000 RD1.prog w os).map (fun s => (fn1.all fun d => d.ok (He.frG (HandSHeadRun.getT s) ats) : Bool)) = some (true) := by
  kernel_rfl
end K77

set_option Elab.async false
set_option linter.all false
set_option maxRecDepth 100000
set_option maxHeartbeats 0
namespace K77
open PySem PySem.Spec PySem.W PySem.Calls PyProof.Rows L2
abbrev RD2 : PySem.W.OpenRow := PySem.W.OpenLaw.row PySem.Challenge.rw_steadynets_k77_whole_log_texts
theorem runD2 (w : World) (os : OsState) : (HandSHeadRun.endF (HandSHeadRun.stepQ (HandSHeadRun.denQ HandSHeadRun.tabQ) RD2.prog w) 20000 RD2.prog w os).map (fun s => (fn2.all fun d => d.ok (He.frG (HandSHeadRun.getT s) ats) : Bool)) = some (true) := by
  kernel_rfl
end K77

set_option Elab.async false
set_option linter.all false
set_option maxRecDepth 100000
set_option maxHeartbeats 0
namespace K77
open PySem PySem.Spec PySem.W PySem.Calls PyProof.Rows L2
abbrev RC : PySem.W.OpenRow := PySem.W.OpenLaw.row PySem.Challenge.rw_steadynets_k77_whole_log_texts
theorem runC (w : World) (os : OsState) : (HandSHeadRun.endF (HandSHeadRun.stepQ (HandSHeadRun.denQ HandSHeadRun.tabQ) RC.prog w) 20000 RC.prog w os).map (fun s => (fn.map fun d => He.fnW (He.frG (HandSHeadRun.getT s) ats) d.at_ : List He.FnW)) = some (fn.map He.DefD.val) := by
  kernel_rfl
end K77

set_option Elab.async false
set_option linter.all false
set_option maxRecDepth 100000
set_option maxHeartbeats 4000000
namespace DL
open PySem PySem.Spec PyProof.Rows L2
/-! ### data as trees -/
inductive Tr where
  | non | bl (b : Bool) | int (i : Int) | str (x : Str) | lst (xs : List Tr) | tup (xs : List Tr) | dic (kvs : List (Key × Tr))
noncomputable instance : DecidableEq Tr := fun a b => Classical.propDecidable (a = b)
/-- a dict that is free (it may be walked), or one that may be read -/
def DicR : Bool → Hp → Addr → List (Key × V) → Prop
  | true, H, a, kvs => H a = some (.dK kvs)
  | false, H, a, kvs => Rd H a (.dK kvs)
mutual
/-- v stands for the tree -/
inductive Den (K : PySem.W.Frag) (b : Bool) (H : Hp) : V → Tr → Prop
  | non : Den K b H .non .non
  | bl (x : Bool) : Den K b H (.bl x) (.bl x)
  | int (i : Int) : Den K b H (.int i) (.int i)
  | str (x : Str) : Den K b H (.str x) (.str x)
  | lst {a : Addr} {xs : List V} {ds : List Tr} : SqL K H a xs → Dens K b H xs ds → Den K b H (.ref a) (.lst ds)
  | tup {a : Addr} {xs : List V} {ds : List Tr} : SqT K H a xs → Dens K b H xs ds → Den K b H (.ref a) (.tup ds)
  | dic {a : Addr} {kvs : List (Key × V)} {es : List (Key × Tr)} : DicR b H a kvs → DenK K b H kvs es → Den K b H (.ref a) (.dic es)
inductive Dens (K : PySem.W.Frag) (b : Bool) (H : Hp) : List V → List Tr → Prop
  | nil : Dens K b H [] []
  | cons {v : V} {vs : List V} {d : Tr} {ds : List Tr} : Den K b H v d → Dens K b H vs ds → Dens K b H (v :: vs) (d :: ds)
inductive DenK (K : PySem.W.Frag) (b : Bool) (H : Hp) : List (Key × V) → List (Key × Tr) → Prop
  | nil : DenK K b H [] []
  | cons {k : Key} {v : V} {kvs : List (Key × V)} {d : Tr} {es : List (Key × Tr)} : Den K b H v d → DenK K b H kvs es → DenK K b H ((k, v) :: kvs) ((k, d) :: es)
end
/-- all that was tracked is as it was -/
def Ex (H H' : Hp) : Prop := ∀ a o, H a = some o → H' a = some o
/-- all that could be read can be read -/
def Er (H H' : Hp) : Prop := ∀ a o, Rd H a o → Rd H' a o
theorem Ex.refl (H : Hp) : Ex H H := fun _ _ h => h
theorem Ex.trans {H H1 H2 : Hp} (a : Ex H H1) (b : Ex H1 H2) : Ex H H2 := fun x o h => b x o (a x o h)
theorem Ex.new {H H' : Hp} {p : Addr} {o : HO} (e : Ex H H') (h : H' p = none) : Ex H (upd H' p o) := fun a u x => by
  rw [upd_ne (ne_of_none (e a u x) h)]
  exact e a u x
theorem Ex.mut {H H' : Hp} {p : Addr} {o : HO} (e : Ex H H') (h : H p = none) : Ex H (upd H' p o) := fun a u ha => by
  rw [upd_ne (ne_of_none ha h)]
  exact e a u ha
theorem Ex.er {H H' : Hp} (e : Ex H H') : Er H H' := fun a o h => by
  rcases h with h | ⟨u, h⟩
  · exact .inl (e a _ h)
  · exact .inr ⟨u, e a _ h⟩
theorem Ex.free {H H' : Hp} (e : Ex H H') {p : Addr} (h : H' p = none) : H p = none := by
  cases q : H p with
  | none => rfl
  | some o =>
    rw [e p o q] at h
    cases h
theorem Er.trans {H H1 H2 : Hp} (a : Er H H1) (b : Er H1 H2) : Er H H2 := fun x o h => b x o (a x o h)
theorem Er.l {K : PySem.W.Frag} {H H' : Hp} {a : Addr} {xs : List V} (e : Er H H') (h : SqL K H a xs) : SqL K H' a xs := by
  rcases h with h | h
  · exact .inl (e _ _ h)
  · exact .inr h
theorem Er.t {K : PySem.W.Frag} {H H' : Hp} {a : Addr} {xs : List V} (e : Er H H') (h : SqT K H a xs) : SqT K H' a xs := by
  rcases h with h | h
  · exact .inl (e _ _ h)
  · exact .inr h
/-- one that was mutable, locked -/
theorem er_lock {H : Hp} {d : Addr} {u : HO} {o : Obj} (h : H d = some u) (hm : Mut (some u)) : Er H (upd H d (.frz o u)) := fun a x r => by
  by_cases e : a = d
  · subst e
    rcases r with r | ⟨o', r⟩
    · rw [h] at r
      cases r
      exact .inr ⟨o, upd_same⟩
    · rw [h] at r
      cases r
      cases hm
  · rcases r with r | ⟨o', r⟩
    · exact .inl (by rw [upd_ne e]; exact r)
    · exact .inr ⟨o', by rw [upd_ne e]; exact r⟩
theorem ex_unlock {H H' : Hp} {d : Addr} {u : HO} {o : Obj} (h : H d = some u) (e : Ex (upd H d (.frz o u)) H') : Ex H (upd H' d u) := fun a x q => by
  by_cases r : a = d
  · subst r
    rw [h] at q
    cases q
    exact upd_same
  · rw [upd_ne r]
    exact e a x (by rw [upd_ne r]; exact q)
/-- what data lean on stands -/
structure Kp (b : Bool) (H H' : Hp) : Prop where
  er : Er H H'
  dk : b = true → ∀ a kvs, H a = some (.dK kvs) → H' a = some (.dK kvs)
theorem Ex.kp {H H' : Hp} (e : Ex H H') {b : Bool} : Kp b H H' := ⟨e.er, fun _ a kvs h => e a _ h⟩
theorem Er.kp {H H' : Hp} (e : Er H H') : Kp false H H' := ⟨e, fun h => nomatch h⟩
theorem DicR.rd {b : Bool} {H : Hp} {a : Addr} {kvs : List (Key × V)} (h : DicR b H a kvs) : Rd H a (.dK kvs) := by
  cases b with
  | true => exact .inl h
  | false => exact h
theorem Kp.d {b : Bool} {H H' : Hp} {a : Addr} {kvs : List (Key × V)} (e : Kp b H H') (h : DicR b H a kvs) : DicR b H' a kvs := by
  cases b with
  | true => exact e.dk rfl a kvs h
  | false => exact e.er _ _ h
section
variable {K : PySem.W.Frag} {b : Bool} {H H' : Hp}
mutual
theorem Den.mono (e : Kp b H H') : ∀ {v : V} {d : Tr}, Den K b H v d → Den K b H' v d
  | _, _, .non => .non
  | _, _, .bl x => .bl x
  | _, _, .int i => .int i
  | _, _, .str x => .str x
  | _, _, .lst h hs => .lst (e.er.l h) (Dens.mono e hs)
  | _, _, .tup h hs => .tup (e.er.t h) (Dens.mono e hs)
  | _, _, .dic h hs => .dic (e.d h) (DenK.mono e hs)
theorem Dens.mono (e : Kp b H H') : ∀ {vs : List V} {ds : List Tr}, Dens K b H vs ds → Dens K b H' vs ds
  | _, _, .nil => .nil
  | _, _, .cons h hs => .cons (Den.mono e h) (Dens.mono e hs)
theorem DenK.mono (e : Kp b H H') : ∀ {kvs : List (Key × V)} {es : List (Key × Tr)}, DenK K b H kvs es → DenK K b H' kvs es
  | _, _, .nil => .nil
  | _, _, .cons h hs => .cons (Den.mono e h) (DenK.mono e hs)
end
theorem Dens.length : ∀ {vs : List V} {ds : List Tr}, Dens K b H vs ds → vs.length = ds.length
  | _, _, .nil => rfl
  | _, _, .cons _ hs => by rw [List.length_cons, List.length_cons, Dens.length hs]
theorem Dens.get : ∀ {vs : List V} {ds : List Tr} {i : Nat} {v : V}, Dens K b H vs ds → vs[i]? = some v → ∃ d, ds[i]? = some d ∧ Den K b H v d
  | _, _, _, _, .nil, e => by simp at e
  | _, _, 0, _, .cons h _, e => by
    simp at e
    subst e
    exact ⟨_, rfl, h⟩
  | _, _, i + 1, v, .cons _ t, e => by
    obtain ⟨d, h1, h2⟩ := Dens.get (i := i) (v := v) t (by simpa using e)
    exact ⟨d, by simpa using h1, h2⟩
theorem Dens.get' {vs : List V} {ds : List Tr} {i : Nat} {d : Tr} (h : Dens K b H vs ds) (e : ds[i]? = some d) : ∃ v, vs[i]? = some v ∧ Den K b H v d := by
  have hi : i < vs.length := by
    rw [h.length]
    exact (List.getElem?_eq_some_iff.mp e).1
  obtain ⟨d', h1, h2⟩ := h.get (i := i) (v := vs[i]) (by simp [hi])
  rw [e] at h1
  cases h1
  exact ⟨vs[i], by simp [hi], h2⟩
theorem DenK.length : ∀ {kvs : List (Key × V)} {es : List (Key × Tr)}, DenK K b H kvs es → kvs.length = es.length
  | _, _, .nil => rfl
  | _, _, .cons _ hs => by rw [List.length_cons, List.length_cons, DenK.length hs]
theorem DenK.keys : ∀ {kvs : List (Key × V)} {es : List (Key × Tr)}, DenK K b H kvs es → kvs.map (·.1) = es.map (·.1)
  | _, _, .nil => rfl
  | _, _, .cons _ hs => by rw [List.map_cons, List.map_cons, DenK.keys hs]
/-- the built-in type -/
def tyN : Tr → String
  | .non => "NoneType"
  | .bl _ => "bool"
  | .int _ => "int"
  | .str _ => "str"
  | .lst _ => "list"
  | .tup _ => "tuple"
  | .dic _ => "dict"
theorem Den.ty {v : V} {d : Tr} (h : Den K b H v d) : TyX K H v (.type (tyN d)) := by
  cases h with
  | non => exact .base .non
  | bl x => exact .base (.bl x)
  | int i => exact .base (.int i)
  | str x => exact .base (.str x)
  | lst h _ =>
    rcases h with (h | ⟨o, h⟩) | ⟨o, its, n, h, hc, _⟩
    · exact .base (.lst h)
    · exact .base (.frz h)
    · exact .kList h hc
  | tup h _ =>
    rcases h with (h | ⟨o, h⟩) | ⟨o, its, n, h, hc, _⟩
    · exact .base (.tup h)
    · exact .fTuple h
    · exact .kTuple h hc
  | dic h _ =>
    rcases h.rd with h | ⟨o, h⟩
    · exact .base (.dK h)
    · exact .fDict h
end
/-! ### isinstance of a name against a written type -/
def isTy (d : Tr) (n : String) : Bool := (kitB (tyN d) n).getD false
section
variable {K : PySem.W.Frag} {σ : L2.St} {H : Hp} {i : Nat} {x : V} {d : Tr} {Q : VK} {n m : String} {b c e : Bool}
theorem rd_isi (hs : σ[i]? = some (some x)) (hd : Den K b H x d) (hk : kitB (tyN d) n = some c) (q : Q (.bl c) H) : tCB (rIsi K) (tCons (tVar i) (tCons (tC (.ty n)) tNil)) σ H Q :=
  ⟨x, hs, x, .ty n, .type (tyN d), .type n, c, rfl, .ty n, hd.ty, kit_ty hk, q⟩
theorem rd_isi2 (hs : σ[i]? = some (some x)) (hd : Den K b H x d) (hk : kitB (tyN d) n = some c) (hk2 : kitB (tyN d) m = some e) (q : ∀ p, H p = none → Q (.bl (c || e)) (upd H p (.tup [.ty n, .ty m]))) :
    tCB (rIsiT K) (tCons (tVar i) (tCons (tTup (tCons (tC (.ty n)) (tCons (tC (.ty m)) tNil))) tNil)) σ H Q := by
  refine ⟨x, hs, (by show 2 ≤ sizeLine; decide), fun p hp => ?_⟩
  refine ⟨x, p, [.ty n, .ty m], .type (tyN d), [.type n, .type m], c || e, rfl, upd_same, .cons (.ty n) (.cons (.ty m) .nil), (hd.mono (Ex.new (Ex.refl H) hp).kp).ty, ?_, q p hp⟩
  refine kitAny_cons (kit_ty hk) (fun z => ?_) (fun z => by rw [z]; rfl)
  rw [z, Bool.false_or]
  refine kitAny_cons (kit_ty hk2) (fun z => ?_) (fun z => z)
  rw [z]
  exact kitAny_nil
end
end DL
namespace DL
open PySem PySem.Spec PyProof.Rows L2
/-! ### isinstance: the answers -/
def isL : Tr → Bool | .lst _ => true | _ => false
def isT : Tr → Bool | .tup _ => true | _ => false
def isD : Tr → Bool | .dic _ => true | _ => false
def isB : Tr → Bool | .bl _ => true | _ => false
def isI : Tr → Bool | .int _ => true | .bl _ => true | _ => false
def isS : Tr → Bool | .str _ => true | _ => false
theorem ki_NL : kitB "NoneType" "list" = some false := by decide +kernel
theorem ki_BL : kitB "bool" "list" = some false := by decide +kernel
theorem ki_IL : kitB "int" "list" = some false := by decide +kernel
theorem ki_SL : kitB "str" "list" = some false := by decide +kernel
theorem ki_LL : kitB "list" "list" = some true := by decide +kernel
theorem ki_TL : kitB "tuple" "list" = some false := by decide +kernel
theorem ki_DL : kitB "dict" "list" = some false := by decide +kernel
theorem kL : ∀ d : Tr, kitB (tyN d) "list" = some (isL d)
  | .non => ki_NL | .bl _ => ki_BL | .int _ => ki_IL | .str _ => ki_SL | .lst _ => ki_LL | .tup _ => ki_TL | .dic _ => ki_DL
theorem ki_NT : kitB "NoneType" "tuple" = some false := by decide +kernel
theorem ki_BT : kitB "bool" "tuple" = some false := by decide +kernel
theorem ki_IT : kitB "int" "tuple" = some false := by decide +kernel
theorem ki_ST : kitB "str" "tuple" = some false := by decide +kernel
theorem ki_LT : kitB "list" "tuple" = some false := by decide +kernel
theorem ki_TT : kitB "tuple" "tuple" = some true := by decide +kernel
theorem ki_DT : kitB "dict" "tuple" = some false := by decide +kernel
theorem kT : ∀ d : Tr, kitB (tyN d) "tuple" = some (isT d)
  | .non => ki_NT | .bl _ => ki_BT | .int _ => ki_IT | .str _ => ki_ST | .lst _ => ki_LT | .tup _ => ki_TT | .dic _ => ki_DT
theorem ki_ND : kitB "NoneType" "dict" = some false := by decide +kernel
theorem ki_BD : kitB "bool" "dict" = some false := by decide +kernel
theorem ki_ID : kitB "int" "dict" = some false := by decide +kernel
theorem ki_SD : kitB "str" "dict" = some false := by decide +kernel
theorem ki_LD : kitB "list" "dict" = some false := by decide +kernel
theorem ki_TD : kitB "tuple" "dict" = some false := by decide +kernel
theorem ki_DD : kitB "dict" "dict" = some true := by decide +kernel
theorem kD : ∀ d : Tr, kitB (tyN d) "dict" = some (isD d)
  | .non => ki_ND | .bl _ => ki_BD | .int _ => ki_ID | .str _ => ki_SD | .lst _ => ki_LD | .tup _ => ki_TD | .dic _ => ki_DD
theorem ki_NB : kitB "NoneType" "bool" = some false := by decide +kernel
theorem ki_BB : kitB "bool" "bool" = some true := by decide +kernel
theorem ki_IB : kitB "int" "bool" = some false := by decide +kernel
theorem ki_SB : kitB "str" "bool" = some false := by decide +kernel
theorem ki_LB : kitB "list" "bool" = some false := by decide +kernel
theorem ki_TB : kitB "tuple" "bool" = some false := by decide +kernel
theorem ki_DB : kitB "dict" "bool" = some false := by decide +kernel
theorem kB : ∀ d : Tr, kitB (tyN d) "bool" = some (isB d)
  | .non => ki_NB | .bl _ => ki_BB | .int _ => ki_IB | .str _ => ki_SB | .lst _ => ki_LB | .tup _ => ki_TB | .dic _ => ki_DB
theorem ki_NI : kitB "NoneType" "int" = some false := by decide +kernel
theorem ki_BI : kitB "bool" "int" = some true := by decide +kernel
theorem ki_II : kitB "int" "int" = some true := by decide +kernel
theorem ki_SI : kitB "str" "int" = some false := by decide +kernel
theorem ki_LI : kitB "list" "int" = some false := by decide +kernel
theorem ki_TI : kitB "tuple" "int" = some false := by decide +kernel
theorem ki_DI : kitB "dict" "int" = some false := by decide +kernel
theorem kI : ∀ d : Tr, kitB (tyN d) "int" = some (isI d)
  | .non => ki_NI | .bl _ => ki_BI | .int _ => ki_II | .str _ => ki_SI | .lst _ => ki_LI | .tup _ => ki_TI | .dic _ => ki_DI
theorem ki_NS : kitB "NoneType" "str" = some false := by decide +kernel
theorem ki_BS : kitB "bool" "str" = some false := by decide +kernel
theorem ki_IS : kitB "int" "str" = some false := by decide +kernel
theorem ki_SS : kitB "str" "str" = some true := by decide +kernel
theorem ki_LS : kitB "list" "str" = some false := by decide +kernel
theorem ki_TS : kitB "tuple" "str" = some false := by decide +kernel
theorem ki_DS : kitB "dict" "str" = some false := by decide +kernel
theorem kS : ∀ d : Tr, kitB (tyN d) "str" = some (isS d)
  | .non => ki_NS | .bl _ => ki_BS | .int _ => ki_IS | .str _ => ki_SS | .lst _ => ki_LS | .tup _ => ki_TS | .dic _ => ki_DS
/-! ### how deep, how long; dicts of what holds no dict -/
mutual
def noDic : Tr → Prop
  | .lst xs => noDics xs
  | .tup xs => noDics xs
  | .dic _ => False
  | _ => True
def noDics : List Tr → Prop
  | [] => True
  | x :: xs => noDic x ∧ noDics xs
end
def Okd : Nat → Tr → Prop
  | _, .non => True
  | _, .bl _ => True
  | _, .int _ => True
  | _, .str _ => True
  | n + 1, .lst xs => xs.length ≤ 1000000 ∧ ∀ x ∈ xs, Okd n x
  | n + 1, .tup xs => xs.length ≤ 1000000 ∧ ∀ x ∈ xs, Okd n x
  | n + 2, .dic kvs => kvs.length ≤ 1000000 ∧ (kvs.map (·.1)).Nodup ∧ ∀ p ∈ kvs, Okd (n + 1) p.2 ∧ noDic p.2
  | 1, .dic _ => False
  | 0, _ => False
section
variable {K : PySem.W.Frag} {H : Hp}
mutual
theorem Den.flat : ∀ {v : V} {d : Tr}, noDic d → Den K false H v d → Den K true H v d
  | _, _, _, .non => .non
  | _, _, _, .bl x => .bl x
  | _, _, _, .int i => .int i
  | _, _, _, .str x => .str x
  | _, _, h, .lst q hs => .lst q (Dens.flat (by simpa [noDic] using h) hs)
  | _, _, h, .tup q hs => .tup q (Dens.flat (by simpa [noDic] using h) hs)
  | _, _, h, .dic q hs => by simp [noDic] at h
theorem Dens.flat : ∀ {vs : List V} {ds : List Tr}, noDics ds → Dens K false H vs ds → Dens K true H vs ds
  | _, _, _, .nil => .nil
  | _, _, h, .cons q hs => by
    simp only [noDics] at h
    exact .cons (Den.flat h.1 q) (Dens.flat h.2 hs)
end
mutual
theorem Den.weak : ∀ {v : V} {d : Tr}, Den K true H v d → Den K false H v d
  | _, _, .non => .non
  | _, _, .bl x => .bl x
  | _, _, .int i => .int i
  | _, _, .str x => .str x
  | _, _, .lst q hs => .lst q (Dens.weak hs)
  | _, _, .tup q hs => .tup q (Dens.weak hs)
  | _, _, .dic q hs => .dic (.inl q) (DenK.weak hs)
theorem Dens.weak : ∀ {vs : List V} {ds : List Tr}, Dens K true H vs ds → Dens K false H vs ds
  | _, _, .nil => .nil
  | _, _, .cons q hs => .cons (Den.weak q) (Dens.weak hs)
theorem DenK.weak : ∀ {kvs : List (Key × V)} {es : List (Key × Tr)}, DenK K true H kvs es → DenK K false H kvs es
  | _, _, .nil => .nil
  | _, _, .cons q hs => .cons (Den.weak q) (DenK.weak hs)
end
end
/-! ### a comprehension whose turns make values one by one -/
section
variable {J : It} {n : Nat} {G : Hp → Prop} {Y : Nat → Hp → V → Hp → Prop}
/-- what stands through the turns: the list at D holds what was made, and R of each; all that was tracked ahead stands -/
def Coll (H1 : Hp) (D : Addr) (R : Nat → V → Hp → Prop) (i : Nat) (H : Hp) : Prop := ∃ acc : List V, H D = some (.lst acc) ∧ acc.length = i ∧ Ex H1 H ∧ ∀ j v, acc[j]? = some v → R j v H
/-- R i y: the i-th is y. stable: told of a heap it stays where what was tracked stays but D's list -/
theorem lc_map (w : Walk J n G Y) {g : TG} {te : TE} {vs : List Nat} {σ : L2.St} {H1 : Hp} {D : Addr} {Qd : Hp → Prop} (R : Nat → V → Hp → Prop) (hn : n < sizeLine) (hD : H1 D = none) (hG : ∀ H, Ex H1 H → G H)
    (hR : ∀ i v (H H' : Hp), R i v H → (∀ b o, b ≠ D → H b = some o → H' b = some o) → R i v H')
    (hs : ∀ i x H H' (Q : VK), i < n → Ex H1 H → Y i H x H' → (∀ y H4, Ex H H4 → R i y H4 → Q y H4) → g x (wipe σ vs) H' fun σ2 H2 => wipe σ2 vs = wipe σ vs ∧ te σ2 H2 Q)
    (hd : ∀ H ys, H D = some (.lst ys) → ys.length = n → Ex H1 H → (∀ j v, ys[j]? = some v → R j v H) → Qd H) :
    ∃ W : Nat → Nat → Hp → Prop, (∃ m, W 0 m (upd H1 D (.lst []))) ∧ ∀ i m H, W i m H →
      (J.stop i H ∧ Qd H) ∨ (J.go i H ∧ ∃ Nx : Hp → Prop, (∀ H', Nx H' → ∃ m', m' < m ∧ W (i + 1) m' H') ∧ ∀ x H', J.yld i H x H' → g x (wipe σ vs) H' fun σ2 H2 => wipe σ2 vs = wipe σ vs ∧ tYes σ2 H2 fun b H3 =>
        if b = true then te σ2 H3 fun y H4 => ∃ acc, H4 D = some (.lst acc) ∧ acc.length < sizeLine ∧ Nx (upd H4 D (.lst (acc ++ [y]))) else Nx H3) := by
  refine lc_it w (fun i H => Coll H1 D R i H) ⟨[], upd_same, rfl, (Ex.refl H1).new hD, fun j v h => by simp at h⟩ (fun i H _ ⟨_, _, _, e, _⟩ => hG H e) (fun i x H H' hi ⟨acc, hacc, hl, e, hr⟩ y => ?_) (fun H ⟨acc, h1, h2, h3, h4⟩ => hd H acc h1 h2 h3 h4)
  show g x (wipe σ vs) H' (fun σ2 H2 => wipe σ2 vs = wipe σ vs ∧ (if true = true then te σ2 H2 (fun y H4 => ∃ acc, H4 D = some (.lst acc) ∧ acc.length < sizeLine ∧ Coll H1 D R (i + 1) (upd H4 D (.lst (acc ++ [y])))) else Coll H1 D R (i + 1) H2))
  have e0 : ∀ (A B : Prop), (if true = true then A else B) = A := fun _ _ => if_pos rfl
  simp only [e0]
  refine hs i x H H' _ hi e y (fun z H4 e4 rz => ?_)
  have hD4 : H4 D = some (.lst acc) := e4 D _ hacc
  refine ⟨acc, hD4, by omega, acc ++ [z], upd_same, by simp [hl], ?_, fun j v hj => ?_⟩
  · intro b o hb
    have nb : b ≠ D := fun q => by
      rw [q, hD] at hb
      cases hb
    rw [upd_ne nb]
    exact e4 b o (e b o hb)
  · have keep : ∀ b o, b ≠ D → H4 b = some o → upd H4 D (.lst (acc ++ [z])) b = some o := fun b o nb hb => by
      rw [upd_ne nb]
      exact hb
    by_cases hj2 : j < acc.length
    · rw [List.getElem?_append_left hj2] at hj
      exact hR j v H4 _ (hR j v H H4 (hr j v hj) fun b o _ hb => e4 b o hb) keep
    · have hj3 : j = acc.length := by
        have := (List.getElem?_eq_some_iff.mp hj).1
        simp at this
        omega
      subst hj3
      simp at hj
      subst hj
      rw [hl]
      exact hR i z H4 _ rz keep
end
end DL
namespace DL
open PySem PySem.Spec PyProof.Rows L2
theorem walk_zipT {K : PySem.W.Frag} {a b : Addr} {xs ys : List V} {n : Nat} (hn : n = min xs.length ys.length) : Walk (RZ.ItzT K a b) n (fun H => SqT K H a xs ∧ SqT K H b ys) (YPair (fun i => xs[i]?) (fun i => ys[i]?)) := by
  subst hn
  refine ⟨fun i _ hi q => ?_, fun _ q => ⟨xs, ys, q.1, q.2, by omega⟩, fun i H v H' _ q y => ?_⟩
  · have z1 : i < xs.length := by omega
    have z2 : i < ys.length := by omega
    exact ⟨xs, ys, xs[i], ys[i], q.1, q.2, by simp [z1], by simp [z2]⟩
  · obtain ⟨T, x, z, h1, h2, h3, h4, h5⟩ := y
    exact ⟨T, x, z, h1, h2, h3, h4 xs q.1, h5 ys q.2⟩
theorem all_same {α : Type} [DecidableEq α] {ds es : List α} (h : ds.length = es.length) : ((List.range ds.length).map fun i => decide (ds[i]? = es[i]?)).all id = true ↔ ds = es := by
  rw [List.all_map]
  constructor
  · intro q
    refine List.ext_getElem? fun i => ?_
    by_cases hi : i < ds.length
    · exact of_decide_eq_true (List.all_eq_true.mp q i (List.mem_range.mpr hi))
    · rw [List.getElem?_eq_none (by omega), List.getElem?_eq_none (by omega)]
  · intro e
    subst e
    exact List.all_eq_true.mpr fun i _ => decide_eq_true rfl
theorem bls_of {l : List V} {n : Nat} {f : Nat → Bool} (hl : l.length = n) (h : ∀ j v, l[j]? = some v → v = V.bl (f j)) : l = ((List.range n).map f).map V.bl := by
  refine List.ext_getElem? fun i => ?_
  by_cases hi : i < n
  · have z : i < l.length := by omega
    rw [List.getElem?_eq_getElem z]
    have q := h i l[i] (List.getElem?_eq_getElem z)
    rw [q]
    simp [hi]
  · rw [List.getElem?_eq_none (by omega), List.getElem?_eq_none (by simp; omega)]
end DL
namespace DL
open PySem PySem.Spec PyProof.Rows L2
def kTr : Key → Tr
  | .inl i => .int i
  | .inr x => .str x
theorem kTr_inj {a b : Key} (h : kTr a = kTr b) : a = b := by
  cases a <;> cases b <;> simp [kTr] at h <;> rw [h]
theorem den_key {K : PySem.W.Frag} {b : Bool} {H : Hp} (k : Key) : Den K b H (kV k) (kTr k) := by
  cases k with
  | inl i => exact .int i
  | inr x => exact .str x
theorem dens_keys {K : PySem.W.Frag} {b : Bool} {H : Hp} {α : Type} : ∀ l : List (Key × α), Dens K b H (l.map fun kv => kV kv.1) (l.map fun kv => kTr kv.1)
  | [] => .nil
  | p :: r => .cons (den_key p.1) (dens_keys r)
theorem okd_key (n : Nat) (k : Key) : Okd n (kTr k) := by
  cases k with
  | inl i => cases n <;> trivial
  | inr x => cases n <;> trivial
theorem keys_inj {α β : Type} : ∀ {l : List (Key × α)} {m : List (Key × β)}, (l.map fun kv => kTr kv.1) = (m.map fun kv => kTr kv.1) → l.map (·.1) = m.map (·.1)
  | [], [], _ => rfl
  | [], _ :: _, h => by simp at h
  | _ :: _, [], h => by simp at h
  | p :: r, q :: t, h => by
    simp only [List.map_cons, List.cons.injEq] at h ⊢
    exact ⟨kTr_inj h.1, keys_inj h.2⟩
theorem keys_same {α : Type} {l m : List (Key × α)} (h : l = m) : (l.map fun kv => kTr kv.1) = (m.map fun kv => kTr kv.1) := by rw [h]
theorem DenK.get {K : PySem.W.Frag} {b : Bool} {H : Hp} : ∀ {kvs : List (Key × V)} {es : List (Key × Tr)} {i : Nat} {k : Key} {v : V}, DenK K b H kvs es → kvs[i]? = some (k, v) → ∃ d, es[i]? = some (k, d) ∧ Den K b H v d
  | _, _, _, _, _, .nil, e => by simp at e
  | _, _, 0, _, _, .cons h _, e => by
    simp at e
    obtain ⟨rfl, rfl⟩ := e
    exact ⟨_, rfl, h⟩
  | _, _, i + 1, k, v, .cons _ t, e => by
    obtain ⟨d, h1, h2⟩ := DenK.get (i := i) (k := k) (v := v) t (by simpa using e)
    exact ⟨d, by simpa using h1, h2⟩
theorem valV_at {κ : Type} [DecidableEq κ] : ∀ {kvs : List (κ × V)} {i : Nat} {k : κ} {v : V}, (kvs.map (·.1)).Nodup → kvs[i]? = some (k, v) → valV kvs k = some v
  | [], i, k, v, _, e => by simp at e
  | p :: r, 0, k, v, _, e => by
    simp at e
    subst e
    simp [valV]
  | p :: r, i + 1, k, v, hn, e => by
    have e2 : r[i]? = some (k, v) := by simpa using e
    rw [List.map_cons, List.nodup_cons] at hn
    have hk : p.1 ≠ k := fun z => hn.1 (by
      rw [z]
      exact List.mem_map.mpr ⟨(k, v), List.mem_of_getElem? e2, rfl⟩)
    have ih := valV_at hn.2 e2
    unfold valV at ih ⊢
    rw [List.find?_cons_of_neg (by simpa using hk)]
    exact ih
theorem get_keys {κ α β : Type} {l : List (κ × α)} {m : List (κ × β)} (h : l.map (·.1) = m.map (·.1)) {i : Nat} {k : κ} {a : α} (e : l[i]? = some (k, a)) : ∃ b, m[i]? = some (k, b) := by
  have z : (l.map (·.1))[i]? = some k := by
    rw [List.getElem?_map, e]
    rfl
  rw [h, List.getElem?_map] at z
  cases q : m[i]? with
  | none =>
    rw [q] at z
    cases z
  | some p =>
    rw [q] at z
    obtain ⟨k', b⟩ := p
    have e2 : k' = k := Option.some.inj z
    rw [e2]
    exact ⟨b, rfl⟩
end DL
namespace DL
open PySem PySem.Spec PyProof.Rows L2
/-- a value's truth, as a test -/
def tTr (K : PySem.W.Frag) (ta : TE) : TT := fun σ H Q => ta σ H fun x H1 => ∃ k, TruV K x H1 k ∧ Q k H1
end DL

set_option Elab.async false
set_option linter.all false
set_option maxRecDepth 100000
set_option maxHeartbeats 4000000
namespace K77
open PySem PySem.Spec PyProof.Rows L2 DL
abbrev FnP (K : PySem.W.Frag) (x : Str) (st : Stmt) (f : Addr) (fd : FuncData) : Prop := FunD K x x (defArgs st) (defBody st) (defScope st) [] [] f fd
section
variable {P : Program} {w : World} {K : PySem.W.Frag} {mg : Str → Option Value} {base : Heap} {f : Addr} {fd : FuncData}
theorem sc_law_same : FnScope ["found", "due", "mine", "theirs", "key"] ["found", "due"] (defScope s_law_same) := ⟨rfl, rfl, rfl, by decide +kernel, rfl, by decide +kernel, by decide +kernel⟩
def spSame (K : PySem.W.Frag) : Nat → Sp
  | 0 => fun _ _ _ _ => False
  | n + 1 => fun vs H Q _ => ∃ (x y : V) (d e : Tr), vs = [x, y] ∧ Den K false H x d ∧ Den K true H y e ∧ Okd n e ∧ ∀ H', Ex H H' → Q (.bl (decide (d = e))) H'
theorem ok_same (n : Nat) (W : Wld K mg) (F : FnP K "_law_same" s_law_same f fd) (h_law_same : mg "_law_same" = some (.ref f)) (kp : PySem.W.keepIn K (.ref f) = true) (b_law_same : Binds K fd ["found", "due"] []) (G_law_same : FnOk P w K mg base CX0 n f fd ["found", "due"] (spSame K n)) : FnOk P w K mg base CX0 (n + 1) f fd ["found", "due"] (spSame K (n + 1)) := by
  refine F.ok sc_law_same (fun vs H Q E h => ?_) (fun cdv A outer s H vs Q E hr h => ?_)
  · obtain ⟨x, y, d, e, rfl, _⟩ := h
    rfl
  obtain ⟨x, y, d, e, rfl, hx, hy, hok, k⟩ := h
  have fin : ∀ (b : Bool) H', Ex H H' → (b = true ↔ d = e) → Q (.bl b) H' := fun b H' e1 hb => by
    have z : decide (d = e) = b := by
      by_cases q : d = e
      · rw [decide_eq_true q]
        exact (hb.mpr q).symm
      · rw [decide_eq_false q]
        cases b with
        | true => exact absurd (hb.mp rfl) q
        | false => rfl
    have z2 := k H' e1
    rw [z] at z2
    exact z2
  have hr_law_same := hr
  refine ⟨_, PSs.nox (pss_cons (ps_if (pt_val (pe_callB call_isiT (by rfl) W.n_isinstance (by decide +kernel) (pa_cons (pv 1) (pa_cons (pe_tup (pa_cons (pe_bltn (v := .ty "list") (by rfl) W.n_list (by decide +kernel) rfl) (pa_cons (pe_bltn (v := .ty "tuple") (by rfl) W.n_tuple (by decide +kernel) rfl) pa_nil))) pa_nil))))
    (pss_cons (ps_if (PW.pt (pw_or (pt_cmpR op_ne (pe_callB call_isi (by rfl) W.n_isinstance (by decide +kernel) (pa_cons (pv 0) (pa_cons (pe_bltn (v := .ty "list") (by rfl) W.n_list (by decide +kernel) rfl) pa_nil))) (pe_callB call_isi (by rfl) W.n_isinstance (by decide +kernel) (pa_cons (pv 1) (pa_cons (pe_bltn (v := .ty "list") (by rfl) W.n_list (by decide +kernel) rfl) pa_nil))) (nomark _)) (pw_or1 (pt_cmpR op_ne (pe_callB call_isi (by rfl) W.n_isinstance (by decide +kernel) (pa_cons (pv 0) (pa_cons (pe_bltn (v := .ty "tuple") (by rfl) W.n_tuple (by decide +kernel) rfl) pa_nil))) (pe_callB call_isi (by rfl) W.n_isinstance (by decide +kernel) (pa_cons (pv 1) (pa_cons (pe_bltn (v := .ty "tuple") (by rfl) W.n_tuple (by decide +kernel) rfl) pa_nil))) (nomark _)))))
    (pss_one (ps_ret pe_bl))
    pss_nil)
    (pss_one (ps_ret (pe_and (pe_cmpR op_eq (pe_callB call_len_seq (by rfl) W.n_len (by decide +kernel) (pa_cons (pv 0) pa_nil)) (pe_callB call_len_seq (by rfl) W.n_len (by decide +kernel) (pa_cons (pv 1) pa_nil)) (nomark _)) (pe_one (pe_callB (cr_all rfl) (by rfl) W.n_all (by decide +kernel) (pa_cons (pe_lc (own := [("mine", 2), ("theirs", 3)]) (g := gTup K 2 (gCons (gName 2) (gCons (gName 3) gNil))) (tt := tYes) rfl sc_law_same.nd (RZ.pi_zipA (by rfl) W.n_zip (pa_cons (pv 0) (pa_cons (pv 1) pa_nil))) (blkOk_by (N := ["found", "due", "mine", "theirs", "key"]) (sc := defScope s_law_same) (by decide +kernel)) (fun _ _ _ _ _ => (pg_tup rfl (pgs_cons (pg_name (i := 2) sc_law_same.nd rfl (.inl rfl)) (pgs_cons (pg_name (i := 3) sc_law_same.nd rfl (.inl rfl)) pgs_nil)))) (fun _ _ _ _ _ => pts_nil) (fun _ _ _ _ _ => (pe_call G_law_same hr_law_same rfl h_law_same kp b_law_same .nil pass0 (pa_cons (pv 2) (pa_cons (pv 3) pa_nil))))) pa_nil)))))))
    pss_nil)
    (pss_cons (ps_if (pt_val (pe_callB call_isi (by rfl) W.n_isinstance (by decide +kernel) (pa_cons (pv 1) (pa_cons (pe_bltn (v := .ty "dict") (by rfl) W.n_dict (by decide +kernel) rfl) pa_nil))))
    (pss_cons (ps_if (PW.pt (pw_or (pt_not (pt_val (pe_callB call_isi (by rfl) W.n_isinstance (by decide +kernel) (pa_cons (pv 0) (pa_cons (pe_bltn (v := .ty "dict") (by rfl) W.n_dict (by decide +kernel) rfl) pa_nil))))) (pw_or1 (pt_not (pt_val (pe_call G_law_same hr_law_same rfl h_law_same kp b_law_same .nil pass0 (pa_cons (pe_callTy (call_listD rfl) (by rfl) W.n_list (by decide +kernel) (pa_cons (pv 0) pa_nil)) (pa_cons (pe_callTy (call_listD rfl) (by rfl) W.n_list (by decide +kernel) (pa_cons (pv 1) pa_nil)) pa_nil))))))))
    (pss_one (ps_ret pe_bl))
    pss_nil)
    (pss_one (ps_ret (pe_callB (cr_all rfl) (by rfl) W.n_all (by decide +kernel) (pa_cons (pe_lock (pe_lc (own := [("key", 4)]) (g := gName 4) (tt := tYes) rfl sc_law_same.nd (pi_keys (pv 1)) (blkOk_by (N := ["found", "due", "mine", "theirs", "key"]) (sc := defScope s_law_same) (by decide +kernel)) (fun _ _ _ _ _ => pg_name (i := 4) sc_law_same.nd rfl (Or.inl rfl)) (fun _ _ _ _ _ => pts_nil) (fun _ _ _ _ _ => (pe_call G_law_same hr_law_same rfl h_law_same kp b_law_same .nil pass0 (pa_cons (pe_dget (hu_of hr) (pv 0) (pv 4) (fun _ _ => rfl)) (pa_cons (pe_dget (hu_of hr) (pv 1) (pv 4) (fun _ _ => rfl)) pa_nil)))))) pa_nil)))))
    pss_nil)
    (pss_cons (ps_if (pt_cmpR op_isN (pv 1) pe_non (nomark _))
    (pss_one (ps_ret (pe_cmpR op_isN (pv 0) pe_non (nomark _))))
    pss_nil)
    (pss_cons (ps_if (pt_val (pe_callB call_isi (by rfl) W.n_isinstance (by decide +kernel) (pa_cons (pv 1) (pa_cons (pe_bltn (v := .ty "bool") (by rfl) W.n_bool (by decide +kernel) rfl) pa_nil))))
    (pss_one (ps_ret (pe_and (pe_callB call_isi (by rfl) W.n_isinstance (by decide +kernel) (pa_cons (pv 0) (pa_cons (pe_bltn (v := .ty "bool") (by rfl) W.n_bool (by decide +kernel) rfl) pa_nil))) (pe_one (pe_cmpR op_eq (pv 0) (pv 1) (nomark _))))))
    pss_nil)
    (pss_cons (ps_if (pt_val (pe_callB call_isi (by rfl) W.n_isinstance (by decide +kernel) (pa_cons (pv 1) (pa_cons (pe_bltn (v := .ty "int") (by rfl) W.n_int (by decide +kernel) rfl) pa_nil))))
    (pss_one (ps_ret (pe_and (pe_callB call_isi (by rfl) W.n_isinstance (by decide +kernel) (pa_cons (pv 0) (pa_cons (pe_bltn (v := .ty "int") (by rfl) W.n_int (by decide +kernel) rfl) pa_nil))) (pe_and (pe_not (pe_callB call_isi (by rfl) W.n_isinstance (by decide +kernel) (pa_cons (pv 0) (pa_cons (pe_bltn (v := .ty "bool") (by rfl) W.n_bool (by decide +kernel) rfl) pa_nil)))) (pe_one (pe_cmpR op_eq (pv 0) (pv 1) (nomark _)))))))
    pss_nil)
    (pss_one (ps_ret (pe_and (pe_callB call_isi (by rfl) W.n_isinstance (by decide +kernel) (pa_cons (pv 0) (pa_cons (pe_bltn (v := .ty "str") (by rfl) W.n_str (by decide +kernel) rfl) pa_nil))) (pe_one (pe_cmpR op_eq (pv 0) (pv 1) (nomark _))))))))))), ?_⟩
  refine rd_isi2 rfl hy (kL e) (kT e) fun p hp => ⟨_, rfl, ?_⟩
  have e1 : Ex H (upd H p (.tup [.ty "list", .ty "tuple"])) := (Ex.refl H).new hp
  generalize upd H p (.tup [.ty "list", .ty "tuple"]) = H1 at e1 ⊢
  have hx1 := hx.mono e1.kp
  have hy1 := hy.mono e1.kp
  cases e with
  | non =>
    cases hy1
    refine iteF (rd_isi rfl .non (b := true) (K := K) ki_ND ⟨_, rfl, iteF ?_⟩)
    refine ⟨_, rfl, rfl, _, rfl, iteT ?_⟩
    refine ⟨_, rfl, rfl, fin _ _ e1 ?_⟩
    cases hx1 <;> simp
  | bl b =>
    cases hy1
    refine iteF (rd_isi rfl (Den.bl b) (b := true) (K := K) ki_BD ⟨_, rfl, iteF ?_⟩)
    refine ⟨_, rfl, rfl, _, rfl, iteF ?_⟩
    refine rd_isi rfl (Den.bl b) (b := true) (K := K) ki_BB ⟨_, rfl, iteT ?_⟩
    refine rd_isi rfl hx1 (kB _) ⟨_, rfl, ?_⟩
    cases hx1 with
    | bl c => exact iteT ⟨_, rfl, _, rfl, rfl, fin _ _ e1 (by simp)⟩
    | _ => exact iteF (fin _ _ e1 (by simp))
  | int m =>
    cases hy1
    refine iteF (rd_isi rfl (Den.int m) (b := true) (K := K) ki_ID ⟨_, rfl, iteF ?_⟩)
    refine ⟨_, rfl, rfl, _, rfl, iteF ?_⟩
    refine rd_isi rfl (Den.int m) (b := true) (K := K) ki_IB ⟨_, rfl, iteF ?_⟩
    refine rd_isi rfl (Den.int m) (b := true) (K := K) ki_II ⟨_, rfl, iteT ?_⟩
    refine rd_isi rfl hx1 (kI _) ⟨_, rfl, ?_⟩
    cases hx1 with
    | int c => exact iteT (rd_isi rfl (Den.int c) (b := true) (K := K) ki_IB ⟨_, rfl, _, rfl, iteT ⟨_, rfl, _, rfl, rfl, fin _ _ e1 (by simp)⟩⟩)
    | bl c => exact iteT (rd_isi rfl (Den.bl c) (b := true) (K := K) ki_BB ⟨_, rfl, _, rfl, iteF (fin _ _ e1 (by simp))⟩)
    | _ => exact iteF (fin _ _ e1 (by simp))
  | str z =>
    cases hy1
    refine iteF (rd_isi rfl (Den.str z) (b := true) (K := K) ki_SD ⟨_, rfl, iteF ?_⟩)
    refine ⟨_, rfl, rfl, _, rfl, iteF ?_⟩
    refine rd_isi rfl (Den.str z) (b := true) (K := K) ki_SB ⟨_, rfl, iteF ?_⟩
    refine rd_isi rfl (Den.str z) (b := true) (K := K) ki_SI ⟨_, rfl, iteF ?_⟩
    refine rd_isi rfl hx1 (kS _) ⟨_, rfl, ?_⟩
    cases hx1 with
    | str c => exact iteT ⟨_, rfl, _, rfl, rfl, fin _ _ e1 (by simp)⟩
    | _ => exact iteF (fin _ _ e1 (by simp))
  | lst es =>
    obtain ⟨m, rfl⟩ : ∃ m, n = m + 1 := by
      cases n with
      | zero => exact hok.elim
      | succ m => exact ⟨m, rfl⟩
    obtain ⟨hz, hok⟩ := hok
    refine iteT (rd_isi rfl hx1 (kL _) (rd_isi rfl hy1 ki_LL ⟨rfl, _, rfl, ?_⟩))
    cases hx1 with
    | lst hq hs => 
      rename_i a xs ds
      cases hy1 with
      | lst hq' hs' =>
        rename_i b ys
        refine iteNS rfl (rd_isi rfl (Den.lst hq hs) ki_LT (rd_isi rfl (Den.lst hq' hs') ki_LT ⟨rfl, _, rfl, iteNS rfl ?_⟩))
        refine ⟨_, rfl, a, xs, rfl, .inl hq, _, rfl, b, ys, rfl, .inl hq', rfl, _, rfl, ?_⟩
        have l1 := hs.length
        have l2 := hs'.length
        refine ite2 (fun hl => ?_) (fun hl => ?_)
        · have hl : xs.length = ys.length := by
            have z := of_decide_eq_true hl
            have z2 := V.int.inj z
            omega
          have hmin : ds.length = min xs.length ys.length := by omega
          refine ⟨_, rfl, _, rfl, a, b, xs, ys, rfl, .inl ⟨hq, hq', fun D hD => ?_⟩⟩
          refine lc_map (walk_zip hmin) (fun i v _ => v = .bl (decide (ds[i]? = es[i]?))) (by rw [sizeLine_eq]; omega) hD (fun H2 e2 => ⟨e2.er.l hq, e2.er.l hq'⟩) (fun _ _ _ _ q _ => q) ?_ ?_
          · rintro i z H2 H3 Q2 hi e2 ⟨T, u, v, rfl, hT, rfl, hu, hv⟩ q
            obtain ⟨di, hdi, hud⟩ := hs.get hu
            obtain ⟨ei, hei, hve⟩ := hs'.get hv
            have e3 : Ex H1 (upd H2 T (.tup [u, v])) := e2.new hT
            refine ⟨T, [u, v], rfl, SqT.of upd_same, rfl, u, [v], rfl, v, [], rfl, rfl, rfl, ?_⟩
            refine ⟨_, rfl, _, rfl, u, v, di, ei, rfl, hud.mono e3.kp, hve.mono e3.kp, hok ei (List.mem_of_getElem? hei), fun H4 e4 => q _ _ (((Ex.refl H2).new hT).trans e4) ?_⟩
            rw [hdi, hei]
            simp
          · intro H2 l hD2 hl2 e2 hr2
            have el := bls_of hl2 hr2
            refine ⟨D, _, rfl, SqL.of (by rw [hD2, el]), fin _ _ (e1.trans e2) ?_⟩
            rw [all_same (by omega)]
            simp
        · refine fin _ _ e1 ⟨(fun z => nomatch z), fun z => absurd ?_ hl⟩
          have z2 : ds = es := by simpa using z
          refine decide_eq_true ?_
          rw [l1, l2, z2]
    | _ => exact iteT (fin _ _ e1 (by simp))
  | tup es =>
    obtain ⟨m, rfl⟩ : ∃ m, n = m + 1 := by
      cases n with
      | zero => exact hok.elim
      | succ m => exact ⟨m, rfl⟩
    obtain ⟨hz, hok⟩ := hok
    refine iteT (rd_isi rfl hx1 (kL _) (rd_isi rfl hy1 ki_TL ⟨rfl, _, rfl, ?_⟩))
    have hx2 := hx1
    cases hx1 with
    | tup hq hs => 
      rename_i a xs ds
      cases hy1 with
      | tup hq' hs' =>
        rename_i b ys
        refine iteNS rfl (rd_isi rfl (Den.tup hq hs) ki_TT (rd_isi rfl (Den.tup hq' hs') ki_TT ⟨rfl, _, rfl, iteNS rfl ?_⟩))
        refine ⟨_, rfl, a, xs, rfl, .inr hq, _, rfl, b, ys, rfl, .inr hq', rfl, _, rfl, ?_⟩
        have l1 := hs.length
        have l2 := hs'.length
        refine ite2 (fun hl => ?_) (fun hl => ?_)
        · have hl : xs.length = ys.length := by
            have z := of_decide_eq_true hl
            have z2 := V.int.inj z
            omega
          have hmin : ds.length = min xs.length ys.length := by omega
          refine ⟨_, rfl, _, rfl, a, b, xs, ys, rfl, .inr ⟨hq, hq', fun D hD => ?_⟩⟩
          refine lc_map (DL.walk_zipT hmin) (fun i v _ => v = .bl (decide (ds[i]? = es[i]?))) (by rw [sizeLine_eq]; omega) hD (fun H2 e2 => ⟨e2.er.t hq, e2.er.t hq'⟩) (fun _ _ _ _ q _ => q) ?_ ?_
          · rintro i z H2 H3 Q2 hi e2 ⟨T, u, v, rfl, hT, rfl, hu, hv⟩ q
            obtain ⟨di, hdi, hud⟩ := hs.get hu
            obtain ⟨ei, hei, hve⟩ := hs'.get hv
            have e3 : Ex H1 (upd H2 T (.tup [u, v])) := e2.new hT
            refine ⟨T, [u, v], rfl, SqT.of upd_same, rfl, u, [v], rfl, v, [], rfl, rfl, rfl, ?_⟩
            refine ⟨_, rfl, _, rfl, u, v, di, ei, rfl, hud.mono e3.kp, hve.mono e3.kp, hok ei (List.mem_of_getElem? hei), fun H4 e4 => q _ _ (((Ex.refl H2).new hT).trans e4) ?_⟩
            rw [hdi, hei]
            simp
          · intro H2 l hD2 hl2 e2 hr2
            have el := bls_of hl2 hr2
            refine ⟨D, _, rfl, SqL.of (by rw [hD2, el]), fin _ _ (e1.trans e2) ?_⟩
            rw [all_same (by omega)]
            simp
        · refine fin _ _ e1 ⟨(fun z => nomatch z), fun z => absurd ?_ hl⟩
          have z2 : ds = es := by simpa using z
          refine decide_eq_true ?_
          rw [l1, l2, z2]
    | lst _ _ => exact iteT (fin _ _ e1 (by simp))
    | _ => exact iteNS rfl (rd_isi rfl hx2 (kT _) (rd_isi rfl hy1 ki_TT ⟨rfl, _, rfl, iteT (fin _ _ e1 (by simp))⟩))
  | dic es =>
    obtain ⟨m, rfl⟩ : ∃ m, n = m + 2 := by
      cases n with
      | zero => exact hok.elim
      | succ m =>
        cases m with
        | zero => exact hok.elim
        | succ m => exact ⟨m, rfl⟩
    obtain ⟨hz, hnd, hok⟩ := hok
    cases hy1 with
    | dic hq' hs' =>
      rename_i b ys
      have hqb : H1 b = some (.dK ys) := hq'
      refine iteF (rd_isi rfl (Den.dic (b := true) hq' hs') ki_DD ⟨_, rfl, iteT ?_⟩)
      refine rd_isi rfl hx1 (kD _) ⟨_, rfl, ?_⟩
      cases hx1 with
      | dic hq hs =>
        rename_i a xs gs
        have l1 := hs.length
        have l2 := hs'.length
        refine iteF ?_
        refine ⟨_, rfl, a, xs, rfl, hq.rd, fun p1 hp1 => ?_⟩
        have e2 : Ex H1 (upd H1 p1 (.lst (xs.map fun kv => kV kv.1))) := (Ex.refl H1).new hp1
        refine ⟨_, rfl, b, ys, rfl, (e2.er _ _ (.inl hqb)), fun p2 hp2 => ?_⟩
        have e3 : Ex H1 (upd (upd H1 p1 (.lst (xs.map fun kv => kV kv.1))) p2 (.lst (ys.map fun kv => kV kv.1))) := e2.new hp2
        have n12 : p1 ≠ p2 := ne_of_none upd_same hp2
        refine ⟨.ref p1, .ref p2, .lst (xs.map fun kv => kTr kv.1), .lst (ys.map fun kv => kTr kv.1), rfl, .lst (SqL.of (by rw [upd_ne n12]; exact upd_same)) (dens_keys xs), .lst (SqL.of upd_same) (dens_keys ys), ⟨by simp; omega, fun z hz => ?_⟩, fun H4 e4 => ⟨_, rfl, ?_⟩⟩
        · obtain ⟨p, _, rfl⟩ := List.mem_map.mp hz
          exact okd_key _ _
        have e5 := e3.trans e4
        by_cases hk : (Tr.lst (xs.map fun kv => kTr kv.1)) = .lst (ys.map fun kv => kTr kv.1)
        · have hk2 : xs.map (·.1) = ys.map (·.1) := keys_inj (by simpa using hk)
          have hnd2 : (ys.map (·.1)).Nodup := by
            rw [hs'.keys]
            exact hnd
          have hnd1 : (xs.map (·.1)).Nodup := by
            rw [hk2]
            exact hnd2
          rw [decide_eq_true hk]
          refine iteF ?_
          have hb4 : H4 b = some (.dK ys) := e5 b _ hqb
          refine ⟨b, _, hb4, trivial, fun od => ?_⟩
          have er4 : Er H1 (upd H4 b (.frz od (.dK ys))) := e5.er.trans (er_lock hb4 trivial)
          refine ⟨_, rfl, b, od, rfl, .inl ⟨ys, upd_same, fun D hD => ?_⟩⟩
          refine lc_map walk_keys (fun i v _ => v = V.bl (decide (gs[i]? = es[i]?))) (by rw [sizeLine_eq]; omega) hD (fun H2 e2 => e2 _ _ upd_same) (fun _ _ _ _ q _ => q) ?_ ?_
          · rintro i z H2 H3 Q2 hi e6 ⟨eh, ky, vy, hky, rfl⟩ q
            obtain rfl : H2 = H3 := eh.symm
            obtain ⟨ei, hei, hve⟩ := hs'.get hky
            obtain ⟨vx, hkx⟩ := get_keys hk2.symm hky
            obtain ⟨di, hdi, hud⟩ := hs.get hkx
            have er6 : Er H1 H2 := er4.trans e6.er
            have ok2 := hok _ (List.mem_of_getElem? hei)
            refine ⟨rfl, _, rfl, _, rfl, a, vx, rfl, .inl ⟨xs, ky, er6 _ _ hq.rd, rfl, (valV_at hnd1 hkx).symm⟩, ?_⟩
            refine ⟨_, rfl, _, rfl, b, vy, rfl, .inl ⟨ys, ky, er6 _ _ (.inl hqb), rfl, (valV_at hnd2 hky).symm⟩, ?_⟩
            refine ⟨vx, vy, di, ei, rfl, hud.mono er6.kp, (hve.weak.mono er6.kp).flat ok2.2, ok2.1, fun H4 e4 => q _ _ e4 ?_⟩
            rw [hdi, hei]
            simp
          · intro H2 l hD2 hl2 e6 hr2
            have el := bls_of hl2 hr2
            have hb2 : H2 b = some (.frz od (.dK ys)) := e6 _ _ upd_same
            have nDb : D ≠ b := fun z => by
              rw [z, upd_same] at hD
              cases hD
            refine ⟨hb2, D, _, rfl, SqL.of (by rw [upd_ne nDb, hD2, el]), fin _ _ (e1.trans (e5.trans (ex_unlock hb4 e6))) ?_⟩
            have lg : ys.length = gs.length := by
              have z := congrArg List.length hk2
              simp at z
              omega
            rw [lg, all_same (by omega)]
            simp
        · rw [decide_eq_false hk]
          refine iteT (fin _ _ (e1.trans e5) ⟨(fun z => nomatch z), fun z => absurd ?_ hk⟩)
          have z2 : gs = es := by simpa using z
          have z3 : xs.map (·.1) = ys.map (·.1) := by rw [hs.keys, hs'.keys, z2]
          have z4 := congrArg (List.map kTr) z3
          simp only [List.map_map] at z4
          exact congrArg Tr.lst z4
      | _ => exact iteT (fin _ _ e1 (by simp))
end
end K77

set_option Elab.async false
set_option linter.all false
set_option maxRecDepth 100000
set_option maxHeartbeats 4000000
namespace XL
open PySem PySem.Spec PyProof.Rows L2 DL
/-! lists of exceptions made, asked -/
/-- at e: an exception of the class at C that keeps v as f -/
def Mde (H : Hp) (e C : Addr) (f : Str) (v : V) : Prop := ∃ d, H e = some (exo e C (some d)) ∧ H d = some (.xd [(f, v)])
theorem Mde.exd {H : Hp} {e C : Addr} {f : Str} {v : V} (h : Mde H e C f v) : Exd H e C := by
  obtain ⟨d, h1, h2⟩ := h
  exact ⟨some d, h1, fun dx q => by
    cases q
    exact ⟨_, h2⟩⟩
theorem Mde.mono {H H' : Hp} {e C : Addr} {f : Str} {v : V} (x : Ex H H') (h : Mde H e C f v) : Mde H' e C f v := by
  obtain ⟨d, h1, h2⟩ := h
  exact ⟨d, x _ _ h1, x _ _ h2⟩
theorem exd_mono {H H' : Hp} {e C : Addr} (x : Ex H H') (h : Exd H e C) : Exd H' e C := by
  obtain ⟨d, h1, h2⟩ := h
  refine ⟨d, x _ _ h1, fun dx q => ?_⟩
  obtain ⟨fs, h3⟩ := h2 dx q
  exact ⟨fs, x _ _ h3⟩
def xvs (i : Nat) : List (Addr × Str) → TA
  | [] => tNil
  | p :: r => tCons (tXv p.1 p.2 (tCons (tVar i) tNil)) (xvs i r)
/-- isinstance(e, D) for each of some classes -/
def iss (K : PySem.W.Frag) (i : Nat) : List Addr → TA
  | [] => tNil
  | D :: r => tCons (tCB (rIsX K) (tCons (tVar i) (tCons (tC (.ref D)) tNil))) (iss K i r)
/-- some classes, as values -/
def cls : List Addr → TA
  | [] => tNil
  | D :: r => tCons (tC (.ref D)) (cls r)
section
variable {K : PySem.W.Frag} {σ : L2.St} {i : Nat} {x : V}
theorem ex_two {H : Hp} {e d : Addr} {o u : HO} (he : H e = none) (hd : H d = none) : Ex H (upd (upd H d o) e u) := fun b z q => by
  rw [upd_ne (ne_of_none q he), upd_ne (ne_of_none q hd)]
  exact q
theorem mde_new {H : Hp} {e d C : Addr} {f : Str} {v : V} (n : d ≠ e) : Mde (upd (upd H d (.xd [(f, v)])) e (exo e C (some d))) e C f v := ⟨d, upd_same, by rw [upd_ne n, upd_same]⟩
theorem rd_xvs (hs : σ[i]? = some (some x)) : ∀ (l : List (Addr × Str)) (H : Hp) (Q : List V → Hp → Prop), (∀ (es : List Addr) H', Ex H H' → Paired (fun e p => Mde H' e p.1 p.2 x) es l → Q (es.map V.ref) H') → xvs i l σ H Q
  | [], H, Q, q => q [] H (Ex.refl H) .nil
  | p :: r, H, Q, q => by
    refine ⟨x, hs, x, rfl, fun e d he hd n => ?_⟩
    refine rd_xvs hs r _ _ fun es H' h1 h2 => ?_
    exact q (e :: es) H' ((ex_two he hd).trans h1) (.cons ((mde_new n).mono h1) h2)
theorem rd_iss {e C P : Addr} (hs : σ[i]? = some (some (.ref e))) (c : ExcC K C) (l : XH.Ln K C P) : ∀ (Ds : List Addr) (H : Hp) (Q : List V → Hp → Prop), Exd H e C → (∀ D ∈ Ds, XH.Ln K D P) → Q (Ds.map fun D => V.bl (decide (D = C) || decide (D = P))) H → iss K i Ds σ H Q
  | [], H, Q, _, _, q => q
  | D :: r, H, Q, hx, hD, q => by
    refine ⟨.ref e, hs, ⟨e, C, .ref D, .ref D, _, rfl, hx, c, .own D, XH.kit_own l (hD D List.mem_cons_self), ?_⟩⟩
    exact rd_iss hs c l r H _ hx (fun E hE => hD E (List.mem_cons_of_mem _ hE)) q
theorem rd_cls : ∀ (Ds : List Addr) (H : Hp) (Q : List V → Hp → Prop), Q (Ds.map V.ref) H → cls Ds σ H Q
  | [], H, Q, q => q
  | D :: r, H, Q, q => rd_cls r H (fun vs H' => Q (.ref D :: vs) H') q
theorem clsV_all : ∀ Ds : List Addr, Paired ClsV (Ds.map V.ref) (Ds.map Value.ref)
  | [] => .nil
  | D :: r => .cons (.own D) (clsV_all r)
/-- isinstance(e, (C1, ..)) -/
theorem rd_isXT {e C P : Addr} {H : Hp} {Q : VK} (hs : σ[i]? = some (some (.ref e))) (c : ExcC K C) (l : XH.Ln K C P) (Ds : List Addr) (hl : Ds.length ≤ sizeLine) (hx : Exd H e C) (hD : ∀ D ∈ Ds, XH.Ln K D P)
    (q : ∀ H', Ex H H' → Q (.bl (Ds.any fun D => decide (D = C) || decide (D = P))) H') : tCB (rIsXT K) (tCons (tVar i) (tCons (tTup (cls Ds)) tNil)) σ H Q := by
  refine ⟨.ref e, hs, rd_cls Ds H _ ⟨(by rw [List.length_map]; exact hl), fun p hp => ?_⟩⟩
  exact ⟨e, C, p, Ds.map V.ref, Ds.map Value.ref, _, rfl, exd_mono ((Ex.refl H).new hp) hx, c, upd_same, clsV_all Ds, XH.kit_any l Ds hD, q _ ((Ex.refl H).new hp)⟩
end
end XL
namespace XL
open PySem PySem.Spec PyProof.Rows L2 DL
/-! peeling readings -/
section
variable {K : PySem.W.Frag} {t : TA} {i : Nat} {u : TS} {D : Ends} {σ : L2.St} {H : Hp}
/-- x = [..]; .. -/
theorem p_lst (h : t σ H fun xs H1 => xs.length ≤ sizeLine ∧ ∀ p, H1 p = none → u D (σ.set i (some (.ref p))) (upd H1 p (.lst xs))) : tSeq (tAsg (tLst t) (gName i)) u D σ H := h
/-- x.extend([..]); .. (x's list known) -/
theorem p_ext {p : Addr} {ys : List V} (hs : σ[i]? = some (some (.ref p))) (hp : H p = some (.lst ys))
    (h : t σ H fun xs H1 => xs.length ≤ sizeLine ∧ H1 p = some (.lst ys) ∧ ys.length + xs.length ≤ sizeLine ∧ ∀ q, H1 q = none → u D σ (upd (upd H1 q (.lst xs)) p (.lst (ys ++ xs))))
    (mono : ∀ (Q Q' : List V → Hp → Prop), (∀ xs H1, Q xs H1 → Q' xs H1) → t σ H Q → t σ H Q') :
    tSeq (tDrop (tBM K "list" rExtend (tVar i) (tCons (tLst t) tNil))) u D σ H := by
  refine ⟨_, hs, .inl ⟨rfl, _, SqL.of hp⟩, ?_⟩
  refine mono _ _ (fun xs H1 q => ⟨q.1, fun q2 hq => ?_⟩) h
  have n : p ≠ q2 := ne_of_none q.2.1 hq
  exact ⟨p, q2, ys, xs, rfl, rfl, by rw [upd_ne n]; exact q.2.1, upd_same, q.2.2.1, q.2.2.2 q2 hq⟩
theorem iss_mono {σ : L2.St} {i : Nat} : ∀ (Ds : List Addr) (H : Hp) (Q Q' : List V → Hp → Prop), (∀ xs H1, Q xs H1 → Q' xs H1) → iss K i Ds σ H Q → iss K i Ds σ H Q'
  | [], H, Q, Q', h, q => h _ _ q
  | D :: r, H, Q, Q', h, q => by
    obtain ⟨x, hx, a, C, c, cv, b, e1, e2, e3, e4, e5, q⟩ := q
    exact ⟨x, hx, a, C, c, cv, b, e1, e2, e3, e4, e5, iss_mono r H _ _ (fun xs H1 z => h _ _ z) q⟩
theorem xvs_mono {σ : L2.St} {i : Nat} : ∀ (l : List (Addr × Str)) (H : Hp) (Q Q' : List V → Hp → Prop), (∀ xs H1, Q xs H1 → Q' xs H1) → xvs i l σ H Q → xvs i l σ H Q'
  | [], H, Q, Q', h, q => h _ _ q
  | p :: r, H, Q, Q', h, q => by
    obtain ⟨x, hx, v, e1, q⟩ := q
    exact ⟨x, hx, v, e1, fun e d h1 h2 h3 => xvs_mono r _ _ _ (fun xs H1 z => h _ _ z) (q e d h1 h2 h3)⟩
/-- told = [isinstance ..]; .. -/
theorem p_iss {e C P : Addr} {j : Nat} {Ds : List Addr} (hs : σ[j]? = some (some (.ref e))) (c : ExcC K C) (l : XH.Ln K C P) (he : Exd H e C) (hD : ∀ D ∈ Ds, XH.Ln K D P) (hl : Ds.length ≤ 100)
    (h : ∀ p, H p = none → u D (σ.set i (some (.ref p))) (upd H p (.lst (Ds.map fun D => V.bl (decide (D = C) || decide (D = P)))))) : tSeq (tAsg (tLst (iss K j Ds)) (gName i)) u D σ H :=
  p_lst (rd_iss hs c l Ds H _ he hD ⟨by rw [List.length_map, sizeLine_eq]; omega, h⟩)
/-- told.extend([isinstance ..]); .. -/
theorem p_issE {e C P p : Addr} {j : Nat} {Ds : List Addr} {ys : List V} (hp : H p = some (.lst ys)) (hi : σ[i]? = some (some (.ref p))) (hs : σ[j]? = some (some (.ref e))) (c : ExcC K C) (l : XH.Ln K C P) (he : Exd H e C) (hD : ∀ D ∈ Ds, XH.Ln K D P)
    (hl : Ds.length ≤ 100) (hy : ys.length ≤ 1000) (h : ∀ H', (∀ b o, b ≠ p → H b = some o → H' b = some o) → H' p = some (.lst (ys ++ Ds.map fun D => V.bl (decide (D = C) || decide (D = P)))) → u D σ H') :
    tSeq (tDrop (tBM K "list" rExtend (tVar i) (tCons (tLst (iss K j Ds)) tNil))) u D σ H :=
  p_ext hi hp (rd_iss hs c l Ds H _ he hD ⟨by rw [List.length_map, sizeLine_eq]; omega, hp, by rw [List.length_map, sizeLine_eq]; omega, fun q hq => h _ (fun b o e z => by
    rw [upd_ne e, upd_ne (ne_of_none z hq)]
    exact z) upd_same⟩) fun Q Q' => iss_mono Ds H Q Q'
end
end XL
namespace XL
open PySem PySem.Spec PyProof.Rows L2 DL
/-- the list at p holds new errors of these classes, one each, that keep x -/
def ToldX (K : PySem.W.Frag) (H : Hp) (p : Addr) (l : List (Str × Str)) (x : V) : Prop := ∃ es : List Addr, H p = some (.lst (es.map V.ref)) ∧ Paired (fun e (q : Str × Str) => Mde H e (He.ga K q.1) q.2 x) es l
theorem Mde.upd {H : Hp} {e C p : Addr} {f : Str} {v : V} {ys zs : List V} (h : Mde H e C f v) (hp : H p = some (.lst ys)) : Mde (upd H p (.lst zs)) e C f v := by
  obtain ⟨d, h1, h2⟩ := h
  have n1 : e ≠ p := ne_of h1 hp (by intro z; cases z)
  have n2 : d ≠ p := ne_of h2 hp (by intro z; cases z)
  exact ⟨d, by rw [upd_ne n1]; exact h1, by rw [upd_ne n2]; exact h2⟩
theorem paired_app {α β : Type} {F : α → β → Prop} : ∀ {l1 l2 : List α} {m1 m2 : List β}, Paired F l1 m1 → Paired F l2 m2 → Paired F (l1 ++ l2) (m1 ++ m2)
  | _, _, _, _, .nil, h => h
  | _, _, _, _, .cons a r, h => .cons a (paired_app r h)
theorem paired_map {α β γ : Type} {F : α → γ → Prop} {g : β → γ} : ∀ {l : List α} {m : List β}, Paired F l (m.map g) → Paired (fun a b => F a (g b)) l m
  | _, [], .nil => .nil
  | _, _ :: _, .cons a r => .cons a (paired_map r)
section
variable {K : PySem.W.Frag} {i j : Nat} {u : TS} {D : Ends} {σ : L2.St} {H : Hp} {x : V}
theorem p_xvs {l : List (Str × Str)} (hs : σ[j]? = some (some x)) (hl : l.length ≤ 100) (h : ∀ p H', Ex H H' → H p = none → ToldX K H' p l x → u D (σ.set i (some (.ref p))) H') :
    tSeq (tAsg (tLst (xvs j (l.map fun q => (He.ga K q.1, q.2)))) (gName i)) u D σ H :=
  p_lst (rd_xvs hs _ H _ fun es H1 e1 hm => by
    have hlen := Paired.length hm
    rw [List.length_map] at hlen
    exact ⟨by rw [List.length_map, sizeLine_eq]; omega, fun p hp => h p _ (e1.new hp) (e1.free hp) ⟨es, upd_same, L2.Paired.mapP (paired_map hm) fun a b q => q.mono ((Ex.refl H1).new hp)⟩⟩)
theorem p_xvsE {p : Addr} {l0 l : List (Str × Str)} (ht : ToldX K H p l0 x) (hi : σ[i]? = some (some (.ref p))) (hs : σ[j]? = some (some x)) (hl : l.length ≤ 100) (hl0 : l0.length ≤ 1000)
    (h : ∀ H', (∀ b o, b ≠ p → H b = some o → H' b = some o) → ToldX K H' p (l0 ++ l) x → u D σ H') : tSeq (tDrop (tBM K "list" rExtend (tVar i) (tCons (tLst (xvs j (l.map fun q => (He.ga K q.1, q.2)))) tNil))) u D σ H := by
  obtain ⟨es0, hp, hm0⟩ := ht
  have len0 := Paired.length hm0
  refine p_ext hi hp (rd_xvs hs _ H _ fun es H1 e1 hm => ?_) fun Q Q' => xvs_mono _ H Q Q'
  have hlen := Paired.length hm
  rw [List.length_map] at hlen
  refine ⟨by rw [List.length_map, sizeLine_eq]; omega, e1 _ _ hp, by rw [List.length_map, List.length_map, sizeLine_eq]; omega, fun q hq => h _ (fun b o nb hb => ?_) ⟨es0 ++ es, ?_, ?_⟩⟩
  · rw [upd_ne nb, upd_ne (ne_of_none (e1 _ _ hb) hq)]
    exact e1 _ _ hb
  · rw [upd_same, List.map_append]
  · have e2 : Ex H1 (L2.upd H1 q (.lst (es.map V.ref))) := (Ex.refl H1).new hq
    have hp2 := e2 _ _ (e1 _ _ hp)
    exact paired_app (L2.Paired.mapP hm0 fun a b z => (z.mono (e1.trans e2)).upd hp2) (L2.Paired.mapP (paired_map hm) fun a b z => (z.mono e2).upd hp2)
end
end XL

set_option Elab.async false
set_option linter.all false
set_option maxRecDepth 100000
set_option maxHeartbeats 4000000
namespace K77
open PySem PySem.Spec PyProof.Rows L2 DL
/-! ### calls -/
/-- a def that keeps a promise, as a caller sees it -/
structure Cal (P : Program) (w : World) (K : PySem.W.Frag) (mg : Str → Option Value) (base : Heap) (k : Nat) (x : Str) (ps : List Str) (sp : Sp) : Prop where
  ex : ∃ fd, FnOk P w K mg base CX0 k (He.ga K x) fd ps sp ∧ Binds K fd ps []
  gl : mg x = some (.ref (He.ga K x))
  kp : PySem.W.keepIn K (.ref (He.ga K x)) = true
theorem pe_c {X : Cx} {k : Nat} {x : Str} {ps : List Str} {sp : Sp} {p pos : Pos} {e : Expr} {es : List Expr} {t : TA} (C : Cal X.prog X.w X.K X.mg X.base k x ps sp) (hr : Room k X.A) (ha : PA X (e :: es) t) (hg : Gl X x := by rfl)
    (hdb : (x == ("__debug__" : Str)) = false := by decide) (he : starEach (e :: es) X.env = (false, eval e X.env) :: starEach es X.env := by rfl) (hpl : (backTo pos (starEach es X.env)).any (·.1) = false := by rfl) :
    PE X (.Call (.Name x p) (e :: es) [] pos) (tCall sp [] E0 t) := by
  obtain ⟨fd, F, b⟩ := C.ex
  exact pe_call F hr hg C.gl C.kp b .nil pass0 ha hdb he hpl
/-! ### the drawn numbers -/
/-- the state of the draws at a, its cells at c -/
def StAt (H : Hp) (a c : Addr) (N : Nat) : Prop := ∃ (ns : List Int) (cur cnt mix : Int), H a = some (.lst [.ref c, .int cur, .int cnt, .int mix]) ∧ H c = some (.lst (ns.map V.int)) ∧ ns.length ≤ 63 ∧ 0 ≤ cur ∧ 0 ≤ cnt ∧ cnt ≤ N ∧ 0 ≤ mix ∧ mix < 2147483647
/-- all but the draws as it was -/
def Bar (a c : Addr) (H H' : Hp) : Prop := ∀ b o, b ≠ a → b ≠ c → H b = some o → H' b = some o
theorem Bar.refl {a c : Addr} {H : Hp} : Bar a c H H := fun _ _ _ _ h => h
theorem Bar.trans {a c : Addr} {H H1 H2 : Hp} (x : Bar a c H H1) (y : Bar a c H1 H2) : Bar a c H H2 := fun b o h1 h2 h => y b o h1 h2 (x b o h1 h2 h)
theorem Bar.new {a c p : Addr} {H H' : Hp} {o : HO} (x : Bar a c H H') (h : H' p = none) : Bar a c H (upd H' p o) := fun b u h1 h2 e => by
  rw [upd_ne (ne_of_none (x b u h1 h2 e) h)]
  exact x b u h1 h2 e
theorem Bar.atA {a c : Addr} {H H' : Hp} {o : HO} (x : Bar a c H H') : Bar a c H (upd H' a o) := fun b u h1 h2 e => by
  rw [upd_ne h1]
  exact x b u h1 h2 e
theorem Bar.atC {a c : Addr} {H H' : Hp} {o : HO} (x : Bar a c H H') : Bar a c H (upd H' c o) := fun b u h1 h2 e => by
  rw [upd_ne h2]
  exact x b u h1 h2 e
def spPick : Sp := fun vs H Q _ => ∃ (a c : Addr) (N : Nat) (many : Int), vs = [.ref a, .int many] ∧ StAt H a c N ∧ N < 1099511627776 ∧ 0 < many ∧ many < 1073741824 ∧
  ∀ (r : Int) H', 0 ≤ r → r < many → StAt H' a c (N + 1) → Bar a c H H' → Q (.int r) H'
theorem sc_law_pick : FnScope ["state", "many", "cell", "digit", "mixed"] ["state", "many"] (defScope s_law_pick) := ⟨rfl, rfl, rfl, by decide +kernel, rfl, by decide +kernel, by decide +kernel⟩
theorem ne_ac {H : Hp} {a c : Addr} {cur cnt mix : Int} {ns : List Int} (h1 : H a = some (.lst [.ref c, .int cur, .int cnt, .int mix])) (h2 : H c = some (.lst (ns.map V.int))) : a ≠ c := by
  refine ne_of h1 h2 fun z => ?_
  have e := HO.lst.inj z
  cases ns with
  | nil => cases e
  | cons n r =>
    have e1 := (List.cons.inj e).1
    cases e1
section
variable {P : Program} {w : World} {K : PySem.W.Frag} {mg : Str → Option Value} {base : Heap} {f : Addr} {fd : FuncData}
theorem dp_ints {K : PySem.W.Frag} {H : Hp} : ∀ ns : List Int, DpAll K H (ns.map V.int) (ns.map PyData.int)
  | [] => .nil
  | n :: r => .cons (.int n) (dp_ints r)
/-- one continuation for several ways -/
theorem with_key {T F : Hp → Prop} {G : Prop} (key : ∀ H, F H → T H) (main : (∀ H, F H → T H) → G) : G := main key
/-- between two cells -/
def PickW (a c : Addr) (many cnt : Int) (H : Hp) : Nat → L2.St → Hp → Prop := fun m σ H' => ∃ (ns : List Int) (cur mix : Int) (oc : Option V), ns.length = m ∧ σ = [some (.ref a), some (.int many), oc, none, none] ∧
  H' a = some (.lst [.ref c, .int cur, .int (cnt + 1), .int mix]) ∧ H' c = some (.lst (ns.map V.int)) ∧ ns.length ≤ 63 ∧ 0 ≤ cur ∧ 0 ≤ mix ∧ mix < 2147483647 ∧ Bar a c H H'
theorem ok_pick (W : Wld K mg) (F : FnP K "_law_pick" s_law_pick f fd) : FnOk P w K mg base CX0 2 f fd ["state", "many"] spPick := by
  refine F.ok sc_law_pick (fun vs H Q E h => ?_) (fun cdv A outer s H vs Q E hr h => ?_)
  · obtain ⟨a, c, N, many, rfl, _⟩ := h
    rfl
  refine ⟨_, PSs.nox (pss_cons (ps_asg (pe_op op_add (pe_ix ix_list (pv 0) pe_int (fun _ _ => rfl)) pe_int) (pg_sub (pv 0) pe_int set_list))
    (pss_cons (ps_while PassesOwn.never (PW.pt (pw_and (pt_cmpR op_eq (pe_ix ix_list (pv 0) pe_int (fun _ _ => rfl)) pe_int (nomark _)) (pw_and1 (pt_cmpR (op_neD hr.units) (pe_ix ix_list (pv 0) pe_int (fun _ _ => rfl)) (pe_lst pa_nil) (nomark _)))))
      (pss_cons (ps_set (i := 2) sc_law_pick.nd rfl (.inl rfl) (pe_callB call_abs (by rfl) W.n_abs (by decide +kernel) (pa_cons (pe_bm PySem.F.plainAttrs_list PySem.F.slot_list_pop PySem.F.type_list_pop mt_popAt (pe_ix ix_list (pv 0) pe_int (fun _ _ => rfl)) (pa_cons pe_int pa_nil)) pa_nil)))
      (pss_cons (ps_asg (pe_op op_mod (pe_callTy call_int1 (by rfl) W.n_int (by decide +kernel) (pa_cons (pe_op op_add (pe_op op_add (pe_op op_mul (pe_ix ix_list (pv 0) pe_int (fun _ _ => rfl)) pe_int) (pv 2)) pe_int) pa_nil)) pe_int) (pg_sub (pv 0) pe_int set_list))
      (pss_one (ps_asg (pe_ifExp (pt_cmpR op_ge (pv 2) (pe_op op_pow pe_int pe_int) (nomark _)) (pv 2) pe_int) (pg_sub (pv 0) pe_int set_list))))))
    (pss_cons (ps_if (pt_cmpR op_gt (pe_ix ix_list (pv 0) pe_int (fun _ _ => rfl)) pe_int (nomark _))
      (pss_cons (ps_set (i := 3) sc_law_pick.nd rfl (.inl rfl) (pe_op op_mod (pe_callTy call_int1 (by rfl) W.n_int (by decide +kernel) (pa_cons (pe_ix ix_list (pv 0) pe_int (fun _ _ => rfl)) pa_nil)) (pv 1)))
      (pss_cons (ps_asg (pe_op op_fdiv (pe_ix ix_list (pv 0) pe_int (fun _ _ => rfl)) (pv 1)) (pg_sub (pv 0) pe_int set_list))
      (pss_one (ps_ret (pv 3))))) pss_nil)
    (pss_cons (ps_set (i := 4) sc_law_pick.nd rfl (.inl rfl) (pe_op op_mod (pe_callTy call_int1 (by rfl) W.n_int (by decide +kernel) (pa_cons (pe_op op_pow (pe_op op_add (pe_op op_add (pe_ix ix_list (pv 0) pe_int (fun _ _ => rfl)) (pe_op op_mul pe_int (pe_ix ix_list (pv 0) pe_int (fun _ _ => rfl)))) pe_int) pe_int) pa_nil)) pe_int))
    (pss_one (ps_ret (pe_op op_mod (pe_op op_mod (pe_callTy call_int1 (by rfl) W.n_int (by decide +kernel) (pa_cons (pe_op op_pow (pe_op op_add (pe_op op_add (pe_op op_mul (pv 4) pe_int) (pe_op op_mul pe_int (pe_ix ix_list (pv 0) pe_int (fun _ _ => rfl)))) pe_int) pe_int) pa_nil)) pe_int) (pv 1)))))))), ?_⟩
  obtain ⟨a, c, N, many, rfl, ⟨ns, cur, cnt, mix, ha, hc, hl, h1, h2, h3, h4, h5⟩, hN, m1, m2, k⟩ := h
  have nac : a ≠ c := ne_ac ha hc
  refine ⟨_, rfl, a, _, _, _, rfl, rfl, SqL.of ha, rfl, _, _, rfl, rfl, _, rfl, a, _, _, _, rfl, rfl, ha, rfl, ?_⟩
  -- the cells are taken one by one
  refine ⟨PickW a c many cnt H, ⟨ns.length, ns, cur, mix, none, rfl, rfl, upd_same, by rw [upd_ne nac.symm]; exact hc, hl, h1, h4, h5, Bar.refl.atA⟩, ?_⟩
  rintro m σ H' ⟨ns, cur, mix, oc, rfl, rfl, ha, hc, hl, h1, h4, h5, fr⟩
  refine' with_key (F := fun H2 => H2 a = some (.lst [.ref c, .int cur, .int (cnt + 1), .int mix]) ∧ H2 c = some (.lst (ns.map V.int)) ∧ Bar a c H H2) ?tail (fun key => ?main)
  case main =>
   refine ⟨_, rfl, a, _, _, _, rfl, rfl, SqL.of ha, rfl, rfl, _, rfl, ?_⟩
   refine ite2 (fun e0 => ?more) (fun e0 => iteF (key _ ⟨ha, hc, fr⟩))
   case more =>
     refine ⟨_, rfl, a, _, _, _, rfl, rfl, SqL.of ha, rfl, Nat.zero_le _, fun l hl0 => ?_⟩
     have nal : a ≠ l := ne_of_none ha hl0
     have ncl : c ≠ l := ne_of_none hc hl0
     have ha' : upd H' l (.lst []) a = some (.lst [.ref c, .int cur, .int (cnt + 1), .int mix]) := by
       rw [upd_ne nal]
       exact ha
     have hc' : upd H' l (.lst []) c = some (.lst (ns.map V.int)) := by
       rw [upd_ne ncl]
       exact hc
     refine ⟨.list (ns.map PyData.int), .list [], .lst (SqL.of hc') (dp_ints ns), .lst (SqL.of upd_same) .nil, PySem.W.ke_shaped_ints ns, by decide, _, rfl, ?_⟩
     refine ite2 (fun e1 => ?body) (fun e1 => ?oo)
     case oo =>
       exact key _ ⟨ha', hc', fr.new hl0⟩
     case body =>
       cases ns with
       | nil => exact absurd e1 (by decide)
       | cons n r =>
         have hr2 : r.length ≤ 63 := Nat.le_of_succ_le hl
         refine ⟨PickW a c many cnt H r.length, fun _ _ h => ⟨r.length, Nat.lt_succ_self _, h⟩, ?_⟩
         refine ⟨_, rfl, a, _, _, _, rfl, rfl, SqL.of ha', rfl, .inl ⟨rfl, _, SqL.of hc'⟩, c, _, _, 0, _, rfl, rfl, hc', by decide, by decide, (by simp [seqIndex?]), rfl, _, rfl, ?_⟩
         have ha2 : upd (upd H' l (.lst [])) c (.lst (r.map V.int)) a = some (.lst [.ref c, .int cur, .int (cnt + 1), .int mix]) := by
           rw [upd_ne nac]
           exact ha'
         have q1 : 0 ≤ (if n < 0 then -n else n) := by
           split <;> omega
         refine ⟨_, rfl, a, _, _, _, rfl, rfl, SqL.of ha2, rfl, _, _, rfl, rfl, .inl ⟨by omega, by omega⟩, _, rfl, _, _, rfl, rfl, _, _, rfl, rfl, .inl ⟨_, rfl, _, _, rfl, rfl, (by show (0 : Int) < 2147483647; decide), _, rfl, a, _, _, _, rfl, rfl, ha2, rfl, ?_⟩⟩
         have b1 : 0 ≤ (mix * 6151 + (if n < 0 then -n else n) + 5) % 2147483647 := Int.emod_nonneg _ (by decide)
         have b2 : (mix * 6151 + (if n < 0 then -n else n) + 5) % 2147483647 < 2147483647 := Int.emod_lt_of_pos _ (by decide)
         have fin : ∀ z : Int, 0 ≤ z → PickW a c many cnt H r.length [some (.ref a), some (.int many), some (.int (if n < 0 then -n else n)), none, none]
             (upd (upd (upd (upd H' l (.lst [])) c (.lst (r.map V.int))) a (.lst [.ref c, .int cur, .int (cnt + 1), .int ((mix * 6151 + (if n < 0 then -n else n) + 5) % 2147483647)])) a
               (.lst [.ref c, .int z, .int (cnt + 1), .int ((mix * 6151 + (if n < 0 then -n else n) + 5) % 2147483647)])) := fun z hz =>
           ⟨r, z, _, _, rfl, rfl, upd_same, by rw [upd_ne nac.symm, upd_ne nac.symm, upd_same], hr2, hz, b1, b2, ((fr.new hl0).atC.atA).atA⟩
         refine ⟨_, rfl, _, _, rfl, rfl, ⟨by decide, by decide, by decide⟩, _, _, rfl, rfl, _, rfl, ?_⟩
         refine ite2 (fun _ => ?_) (fun _ => ?_)
         · refine ⟨_, rfl, _, rfl, a, _, _, _, rfl, rfl, upd_same, rfl, ?_⟩
           exact fin _ q1
         · refine ⟨_, rfl, a, _, _, _, rfl, rfl, upd_same, rfl, ?_⟩
           exact fin _ (by decide)
  case tail =>
    rintro H2 ⟨ha, hc, fr⟩
    have c3 : cnt + 1 ≤ ((N + 1 : Nat) : Int) := by omega
    refine ⟨_, rfl, a, _, _, _, rfl, rfl, SqL.of ha, rfl, _, _, rfl, rfl, _, rfl, ?_⟩
    refine ite2 (fun e0 => ?_) (fun e0 => ?_)
    · have e1 : 0 < cur := of_decide_eq_true e0
      refine ⟨_, rfl, a, _, _, _, rfl, rfl, SqL.of ha, rfl, .inl ⟨_, rfl, _, rfl, _, _, rfl, rfl, m1, ?_⟩⟩
      refine ⟨_, rfl, a, _, _, _, rfl, rfl, SqL.of ha, rfl, _, rfl, _, _, rfl, rfl, ⟨m1, m2⟩, _, rfl, a, _, _, _, rfl, rfl, ha, rfl, ?_⟩
      refine ⟨_, rfl, ?_⟩
      exact k _ _ (Int.emod_nonneg _ (by omega)) (Int.emod_lt_of_pos _ m1) ⟨ns, cur / many, cnt + 1, mix, upd_same, by rw [upd_ne nac.symm]; exact hc, hl, Int.ediv_nonneg h1 (by omega), by omega, c3, h4, h5⟩ fr.atA
    · refine ⟨_, rfl, a, _, _, _, rfl, rfl, SqL.of ha, rfl, _, rfl, a, _, _, _, rfl, rfl, SqL.of ha, rfl, _, _, rfl, rfl, .inl ⟨by decide, by decide⟩, _, _, rfl, rfl, _, _, rfl, rfl, _, _, rfl, rfl, ⟨by decide, by decide, by omega⟩, .inl ⟨_, rfl, _, _, rfl, rfl, (by show (0 : Int) < 2147483629; decide), ?_⟩⟩
      have b1 : 0 ≤ ((mix + 7907 * (cnt + 1) + 104723) ^ (5 : Int).toNat) % 2147483629 := Int.emod_nonneg _ (by decide)
      have b2 : ((mix + 7907 * (cnt + 1) + 104723) ^ (5 : Int).toNat) % 2147483629 < 2147483629 := Int.emod_lt_of_pos _ (by decide)
      refine ⟨_, rfl, _, _, rfl, rfl, .inr ⟨by decide, by decide⟩, _, rfl, a, _, _, _, rfl, rfl, SqL.of ha, rfl, _, _, rfl, rfl, .inl ⟨by decide, by decide⟩, _, _, rfl, rfl, _, _, rfl, rfl, _, _, rfl, rfl, ⟨by decide, by decide, by omega⟩, .inl ⟨_, rfl, _, _, rfl, rfl, (by show (0 : Int) < 1000000007; decide), _, rfl, _, _, rfl, rfl, m1, ?_⟩⟩
      exact k _ _ (Int.emod_nonneg _ (by omega)) (Int.emod_lt_of_pos _ m1) ⟨ns, cur, cnt + 1, mix, ha, hc, hl, h1, by omega, c3, h4, h5⟩ fr
theorem c_law_pick (W : Wld K mg) : Cal P w K mg base 2 "_law_pick" ["state", "many"] spPick := by
  obtain ⟨fd, F⟩ := W.c.def_ 33 rfl
  exact ⟨⟨fd, ok_pick W F, F.bindsN fun _ _ _ _ _ _ us hl => match us, hl with | [_, _], _ => rfl⟩, W.g_law_pick, F.kp⟩
end
end K77

set_option Elab.async false
set_option linter.all false
set_option maxRecDepth 100000
set_option maxHeartbeats 4000000
namespace K77
open PySem PySem.Spec PyProof.Rows L2 DL
section
variable {P : Program} {w : World} {K : PySem.W.Frag} {mg : Str → Option Value} {base : Heap} {f : Addr} {fd : FuncData}
/-! ### start -/
def spStart (K : PySem.W.Frag) : Sp := fun vs H Q _ => ∃ (s : Addr) (ns : List Int), vs = [.ref s] ∧ SqL K H s (ns.map V.int) ∧ ns.length ≤ 63 ∧ ∀ a c H', StAt H' a c 0 → Ex H H' → H a = none → H c = none → Q (.ref a) H'
theorem sc_law_start : FnScope ["script"] ["script"] (defScope s_law_start) := ⟨rfl, rfl, rfl, by decide +kernel, rfl, by decide +kernel, by decide +kernel⟩
theorem ok_start (W : Wld K mg) (F : FnP K "_law_start" s_law_start f fd) : FnOk P w K mg base CX0 1 f fd ["script"] (spStart K) := by
  refine F.ok sc_law_start (fun vs H Q E h => ?_) (fun cdv A outer s H vs Q E hr h => ?_)
  · obtain ⟨a, ns, rfl, _⟩ := h
    rfl
  obtain ⟨a, ns, rfl, hS, hl, k⟩ := h
  refine ⟨_, PSs.nox (pss_one (ps_ret (pe_lst (pa_cons (pe_callTy call_list_of (by rfl) W.n_list (by decide +kernel) (pa_cons (pv 0) pa_nil)) (pa_cons pe_int (pa_cons pe_int (pa_cons pe_int pa_nil))))))), ?_⟩
  refine ⟨_, rfl, a, _, rfl, .inl hS, fun c hc => ⟨(by show 4 ≤ sizeLine; decide), fun b hb => ?_⟩⟩
  have nbc : b ≠ c := fun z => by
    rw [z, upd_same] at hb
    cases hb
  refine k b c _ ⟨ns, 0, 0, 29, upd_same, by rw [upd_ne nbc.symm, upd_same], hl, by decide, by decide, by decide, by decide, by decide⟩ (((Ex.refl H).new hc).new hb) ?_ hc
  rw [upd_ne nbc] at hb
  exact hb
theorem c_law_start (W : Wld K mg) : Cal P w K mg base 1 "_law_start" ["script"] (spStart K) := by
  obtain ⟨fd, F⟩ := W.c.def_ 32 rfl
  exact ⟨⟨fd, ok_start W F, F.bindsN fun _ _ _ _ _ _ us hl => match us, hl with | [_], _ => rfl⟩, W.g_law_start, F.kp⟩
end
end K77

set_option Elab.async false
set_option linter.all false
set_option maxRecDepth 100000
set_option maxHeartbeats 400000
namespace K77
open PySem PySem.Spec PyProof.Rows L2 DL
/-! ### parts of the heap -/
/-- the heap without some places -/
noncomputable def hid (S : Addr → Prop) (H : Hp) : Hp := fun b => open Classical in if S b then none else H b
theorem hid_some {S : Addr → Prop} {H : Hp} {b : Addr} {o : HO} : hid S H b = some o ↔ ¬ S b ∧ H b = some o := by
  unfold hid
  by_cases h : S b
  · rw [if_pos h]
    exact ⟨(fun z => nomatch z), fun z => absurd h z.1⟩
  · rw [if_neg h]
    exact ⟨fun z => ⟨h, z⟩, fun z => z.2⟩
theorem hid_ex {S : Addr → Prop} {H : Hp} : Ex (hid S H) H := fun b o h => (hid_some.mp h).2
/-- what H' holds that H does not -/
noncomputable abbrev nw (H H' : Hp) : Hp := hid (fun b => H b ≠ none) H'
/-- the heap without one place -/
noncomputable abbrev wo (D : Addr) (H : Hp) : Hp := hid (fun b => b = D) H
theorem nw_ex {H H1 H2 : Hp} (e : Ex H1 H2) : Ex (nw H H1) (nw H H2) := fun b o h => hid_some.mpr ⟨(hid_some.mp h).1, e _ _ (hid_some.mp h).2⟩
theorem nw_up {H H1 H2 : Hp} (e : Ex H H1) : Ex (nw H1 H2) (nw H H2) := fun b o h => by
  obtain ⟨h1, h2⟩ := hid_some.mp h
  refine hid_some.mpr ⟨fun z => h1 ?_, h2⟩
  cases q : H b with
  | none => exact absurd q z
  | some u =>
    rw [e _ _ q]
    exact fun w => nomatch w
theorem nw_at {H H' : Hp} {p : Addr} {o : HO} (h : H p = none) (h2 : H' p = some o) : nw H H' p = some o := hid_some.mpr ⟨fun z => z h, h2⟩
theorem nw_wo {H H' : Hp} {D : Addr} (h : H D ≠ none) : Ex (nw H H') (wo D H') := fun b o q => by
  obtain ⟨h1, h2⟩ := hid_some.mp q
  exact hid_some.mpr ⟨fun z => h1 (by rw [z]; exact h), h2⟩
theorem wo_ex {H H' : Hp} {D : Addr} (e : ∀ b o, b ≠ D → H b = some o → H' b = some o) : Ex (wo D H) (wo D H') := fun b o q => by
  obtain ⟨h1, h2⟩ := hid_some.mp q
  exact hid_some.mpr ⟨h1, e b o h1 h2⟩
/-! ### what is asked of any object -/
def lenT : Tr → Nat
  | .lst xs => xs.length
  | .tup xs => xs.length
  | _ => 0
def isNum : Tr → Bool
  | .int i => decide (0 ≤ i)
  | _ => false
def isInt : Tr → Bool
  | .int _ => true
  | _ => false
def isSeq : Tr → Bool
  | .lst _ => true
  | .tup _ => true
  | _ => false
section
variable {P : Program} {w : World} {K : PySem.W.Frag} {mg : Str → Option Value} {base : Heap} {f : Addr} {fd : FuncData}
/-- a question to one object -/
def sp1 (K : PySem.W.Frag) (g : Tr → Bool) : Sp := fun vs H Q _ => ∃ (v : V) (d : Tr), vs = [v] ∧ Den K true H v d ∧ ∀ H', Ex H H' → Q (.bl (g d)) H'
theorem sc_is_integer : FnScope ["thing"] ["thing"] (defScope s_is_integer) := ⟨rfl, rfl, rfl, by decide +kernel, rfl, by decide +kernel, by decide +kernel⟩
theorem ok_is_integer (W : Wld K mg) (F : FnP K "is_integer" s_is_integer f fd) : FnOk P w K mg base CX0 1 f fd ["thing"] (sp1 K isInt) := by
  refine F.ok sc_is_integer (fun vs H Q E h => ?_) (fun cdv A outer s H vs Q E hr h => ?_)
  · obtain ⟨v, d, rfl, _⟩ := h
    rfl
  obtain ⟨v, d, rfl, hd, k⟩ := h
  refine ⟨_, PSs.nox (pss_one (ps_ret (pe_and (pe_callB call_isi (by rfl) W.n_isinstance (by decide +kernel) (pa_cons (pv 0) (pa_cons (pe_bltn (v := .ty "int") (by rfl) W.n_int (by decide +kernel) rfl) pa_nil))) (pe_one (pe_not (pe_callB call_isi (by rfl) W.n_isinstance (by decide +kernel) (pa_cons (pv 0) (pa_cons (pe_bltn (v := .ty "bool") (by rfl) W.n_bool (by decide +kernel) rfl) pa_nil)))))))), ?_⟩
  refine rd_isi rfl hd (kI d) ⟨_, rfl, ?_⟩
  have k0 := k H (Ex.refl H)
  cases d with
  | int i => exact iteT (rd_isi rfl hd (kB _) ⟨_, rfl, k0⟩)
  | bl b => exact iteT (rd_isi rfl hd (kB _) ⟨_, rfl, k0⟩)
  | _ => exact iteF k0
theorem cis_integer (W : Wld K mg) : Cal P w K mg base 1 "is_integer" ["thing"] (sp1 K isInt) := by
  obtain ⟨fd, F⟩ := W.c.def_ 0 rfl
  exact ⟨⟨fd, ok_is_integer W F, F.bindsN fun _ _ _ _ _ _ us hl => match us, hl with | [_], _ => rfl⟩, W.g_is_integer, F.kp⟩
theorem sc_is_number : FnScope ["thing"] ["thing"] (defScope s_is_number) := ⟨rfl, rfl, rfl, by decide +kernel, rfl, by decide +kernel, by decide +kernel⟩
theorem ok_is_number (W : Wld K mg) (F : FnP K "is_number" s_is_number f fd) : FnOk P w K mg base CX0 2 f fd ["thing"] (sp1 K isNum) := by
  have Cis_integer : Cal P w K mg base 1 "is_integer" ["thing"] (sp1 K isInt) := cis_integer W
  refine F.ok sc_is_number (fun vs H Q E h => ?_) (fun cdv A outer s H vs Q E hr h => ?_)
  · obtain ⟨v, d, rfl, _⟩ := h
    rfl
  obtain ⟨v, d, rfl, hd, k⟩ := h
  refine ⟨_, PSs.nox (pss_one (ps_ret (pe_and (pe_c Cis_integer (hr.mono (by decide)) (pa_cons (pv 0) pa_nil)) (pe_one (pe_cmpR op_ge (pv 0) pe_int (nomark _)))))), ?_⟩
  refine ⟨_, rfl, v, d, rfl, hd, fun H' e' => ⟨_, rfl, ?_⟩⟩
  have k0 := k H' e'
  cases hd with
  | int i => exact iteT ⟨_, rfl, _, _, rfl, rfl, k0⟩
  | _ => exact iteF k0
theorem cis_number (W : Wld K mg) : Cal P w K mg base 2 "is_number" ["thing"] (sp1 K isNum) := by
  obtain ⟨fd, F⟩ := W.c.def_ 1 rfl
  exact ⟨⟨fd, ok_is_number W F, F.bindsN fun _ _ _ _ _ _ us hl => match us, hl with | [_], _ => rfl⟩, W.g_is_number, F.kp⟩
theorem sc_is_list : FnScope ["thing"] ["thing"] (defScope s_is_list) := ⟨rfl, rfl, rfl, by decide +kernel, rfl, by decide +kernel, by decide +kernel⟩
theorem ok_is_list (W : Wld K mg) (F : FnP K "is_list" s_is_list f fd) : FnOk P w K mg base CX0 1 f fd ["thing"] (sp1 K isSeq) := by
  refine F.ok sc_is_list (fun vs H Q E h => ?_) (fun cdv A outer s H vs Q E hr h => ?_)
  · obtain ⟨v, d, rfl, _⟩ := h
    rfl
  obtain ⟨v, d, rfl, hd, k⟩ := h
  refine ⟨_, PSs.nox (pss_one (ps_ret (pe_callB call_isiT (by rfl) W.n_isinstance (by decide +kernel) (pa_cons (pv 0) (pa_cons (pe_tup (pa_cons (pe_bltn (v := .ty "list") (by rfl) W.n_list (by decide +kernel) rfl) (pa_cons (pe_bltn (v := .ty "tuple") (by rfl) W.n_tuple (by decide +kernel) rfl) pa_nil))) pa_nil))))), ?_⟩
  refine rd_isi2 rfl hd (kL d) (kT d) fun p hp => ?_
  have k0 := k _ ((Ex.refl H).new (o := .tup [.ty "list", .ty "tuple"]) hp)
  cases d <;> exact k0
theorem cis_list (W : Wld K mg) : Cal P w K mg base 1 "is_list" ["thing"] (sp1 K isSeq) := by
  obtain ⟨fd, F⟩ := W.c.def_ 2 rfl
  exact ⟨⟨fd, ok_is_list W F, F.bindsN fun _ _ _ _ _ _ us hl => match us, hl with | [_], _ => rfl⟩, W.g_is_list, F.kp⟩
theorem sc_is_text : FnScope ["thing"] ["thing"] (defScope s_is_text) := ⟨rfl, rfl, rfl, by decide +kernel, rfl, by decide +kernel, by decide +kernel⟩
theorem ok_is_text (W : Wld K mg) (F : FnP K "is_text" s_is_text f fd) : FnOk P w K mg base CX0 1 f fd ["thing"] (sp1 K isS) := by
  refine F.ok sc_is_text (fun vs H Q E h => ?_) (fun cdv A outer s H vs Q E hr h => ?_)
  · obtain ⟨v, d, rfl, _⟩ := h
    rfl
  obtain ⟨v, d, rfl, hd, k⟩ := h
  refine ⟨_, PSs.nox (pss_one (ps_ret (pe_callB call_isi (by rfl) W.n_isinstance (by decide +kernel) (pa_cons (pv 0) (pa_cons (pe_bltn (v := .ty "str") (by rfl) W.n_str (by decide +kernel) rfl) pa_nil))))), ?_⟩
  exact rd_isi rfl hd (kS d) (k H (Ex.refl H))
theorem cis_text (W : Wld K mg) : Cal P w K mg base 1 "is_text" ["thing"] (sp1 K isS) := by
  obtain ⟨fd, F⟩ := W.c.def_ 5 rfl
  exact ⟨⟨fd, ok_is_text W F, F.bindsN fun _ _ _ _ _ _ us hl => match us, hl with | [_], _ => rfl⟩, W.g_is_text, F.kp⟩
/-! ### rows -/
theorem dec_i {i j : Int} : decide (V.int i = V.int j) = decide (i = j) := by
  by_cases h : i = j
  · rw [decide_eq_true h, decide_eq_true (congrArg V.int h)]
  · rw [decide_eq_false h, decide_eq_false fun z => h (V.int.inj z)]
theorem dec_s {i j : Str} : decide (V.str i = V.str j) = decide (i = j) := by
  by_cases h : i = j
  · rw [decide_eq_true h, decide_eq_true (congrArg V.str h)]
  · rw [decide_eq_false h, decide_eq_false fun z => h (V.str.inj z)]
theorem den_seq {b : Bool} {H : Hp} {v : V} {d : Tr} (h : Den K b H v d) (hs : isSeq d = true) : ∃ p ys ds, v = .ref p ∧ (SqL K H p ys ∨ SqT K H p ys) ∧ Dens K b H ys ds ∧ (d = .lst ds ∨ d = .tup ds) := by
  cases h with
  | lst h1 h2 => exact ⟨_, _, _, rfl, .inl h1, h2, .inl rfl⟩
  | tup h1 h2 => exact ⟨_, _, _, rfl, .inr h1, h2, .inr rfl⟩
  | _ => cases hs
def isRow (n : Int) (d : Tr) : Bool := isSeq d && decide ((lenT d : Int) = n)
def spRow (K : PySem.W.Frag) : Sp := fun vs H Q _ => ∃ (v : V) (d : Tr) (n : Int), vs = [v, .int n] ∧ Den K true H v d ∧ ∀ H', Ex H H' → Q (.bl (isRow n d)) H'
theorem sc_is_row : FnScope ["thing", "many"] ["thing", "many"] (defScope s_is_row) := ⟨rfl, rfl, rfl, by decide +kernel, rfl, by decide +kernel, by decide +kernel⟩
theorem ok_is_row (W : Wld K mg) (F : FnP K "is_row" s_is_row f fd) : FnOk P w K mg base CX0 2 f fd ["thing", "many"] (spRow K) := by
  have Cis_list : Cal P w K mg base 1 "is_list" ["thing"] (sp1 K isSeq) := cis_list W
  refine F.ok sc_is_row (fun vs H Q E h => ?_) (fun cdv A outer s H vs Q E hr h => ?_)
  · obtain ⟨v, d, n, rfl, _⟩ := h
    rfl
  obtain ⟨v, d, n, rfl, hd, k⟩ := h
  refine ⟨_, PSs.nox (pss_one (ps_ret (pe_and (pe_c Cis_list (hr.mono (by decide)) (pa_cons (pv 0) pa_nil)) (pe_one (pe_cmpR op_eq (pe_callB call_len_seq (by rfl) W.n_len (by decide +kernel) (pa_cons (pv 0) pa_nil)) (pv 1) (nomark _)))))), ?_⟩
  refine ⟨_, rfl, v, d, rfl, hd, fun H' e' => ⟨_, rfl, ?_⟩⟩
  have k0 := k H' e'
  unfold isRow at k0
  cases hs : isSeq d with
  | false =>
    rw [hs] at k0
    exact iteF k0
  | true =>
    obtain ⟨p, ys, ds, rfl, hq, hds, e⟩ := den_seq hd hs
    rw [hs] at k0
    have hl : lenT d = ys.length := by
      rw [hds.length]
      rcases e with rfl | rfl <;> rfl
    rw [hl] at k0
    refine iteT ⟨_, rfl, p, ys, rfl, hq.imp e'.er.l e'.er.t, _, rfl, rfl, ?_⟩
    rw [dec_i]
    exact k0
theorem cis_row (W : Wld K mg) : Cal P w K mg base 2 "is_row" ["thing", "many"] (spRow K) := by
  obtain ⟨fd, F⟩ := W.c.def_ 3 rfl
  exact ⟨⟨fd, ok_is_row W F, F.bindsN fun _ _ _ _ _ _ us hl => match us, hl with | [_, _], _ => rfl⟩, W.g_is_row, F.kp⟩
end
end K77

set_option Elab.async false
set_option linter.all false
set_option maxRecDepth 100000
set_option maxHeartbeats 2000000
/-! enumerate of a tuple; of a list or a tuple; a list or a tuple walked -/
namespace PySem
theorem xe_new {v : Value} {o : Obj} {G : Heap → Prop} (B : Begins v o G) :
    Meets (Builtin.«enumerate.__new__» ⟨[.type "enumerate", v], []⟩) (fun _ R s => G s.heap ∧
      R (.ok (.ret (.ref (s.heap.push o).objs.size))) { s with heap := (s.heap.push o).push { cls := .type "enumerate", data := .fields #[.none, .bool false, .ref s.heap.objs.size, rawInt 0, .none, .none] } }) :=
  .of_wp fun prog w A R s h => by
    obtain ⟨hp, g, d, tk, os⟩ := s
    obtain ⟨hG, hR⟩ := h
    have hsub := sub_enumerate
    have it1 : ∀ {A' : Around} {E : Value → Shared → Prop} {Q : Value → Shared → Prop}, Q (.ref hp.objs.size) ⟨hp.push o, g, d, tk, os⟩ → wpAny (model prog w) A' (pyIter v) Q E ⟨hp, g, d, tk, os⟩ :=
      fun q => B.iter prog w _ _ ⟨hp, g, d, tk, os⟩ _ hG q
    wp_walk using it1
    refine wpAny_stack_any fun st => wpAny_pure ?_
    split
    · rename_i c _ _ _ _ _
      cases (c == Value.type "enumerate")
      · wp_walk using it1
        exact ⟨_, rfl, hR⟩
      · wp_walk using it1
        exact ⟨_, rfl, hR⟩
    · wp_walk using it1
      exact ⟨_, rfl, hR⟩
theorem xe_call {prog : Program} {w : World} {A : Around} {E : Value → Shared → Prop} {s : Shared} {v : Value} {o : Obj} {G : Heap → Prop} {Q : Value → Shared → Prop} (B : Begins v o G) (hG : G s.heap)
    (h : ∀ h', IsEnum h' (s.heap.objs.size + 1) s.heap.objs.size 0 .none → h'.get? s.heap.objs.size = some o → (∀ b u, s.heap.get? b = some u → h'.get? b = some u) → Q (.ref (s.heap.objs.size + 1)) { s with heap := h' }) :
    wpAny (model prog w) A (call (.type "enumerate") [v]) Q E s := by
  refine callType_new F.called_enumerate (by decide) (F.typeCall_enumerate_1 _) (F.newCall_enumerate_1 _) (fun obj => F.args_object_init_2 obj _) F.entry_enumerate_new (xe_new B) ⟨hG, ?_⟩
  have sz : (s.heap.push o).objs.size = s.heap.objs.size + 1 := Heap.size_push ..
  show _ ∧ _
  rw [sz]
  have he : IsEnum ((s.heap.push o).push { cls := .type "enumerate", data := .fields #[.none, .bool false, .ref s.heap.objs.size, rawInt 0, .none, .none] }) (s.heap.objs.size + 1) s.heap.objs.size 0 .none := by
    have z := Heap.get?_push_size (s.heap.push o) (o := { cls := .type "enumerate", data := .fields #[.none, .bool false, .ref s.heap.objs.size, rawInt 0, .none, .none] }) rfl
    rw [sz] at z
    exact z
  exact ⟨⟨_, he, rfl⟩, h _ he (Heap.get?_push_of_some _ (Heap.get?_push_size _ B.free)) fun b u x => Heap.get?_push_of_some _ (Heap.get?_push_of_some _ x)⟩
theorem xe_end {prog : Program} {w : World} {A : Around} {E : Value → Shared → Prop} {s : Shared} {e it t : Addr} {i : Nat} {c : Int} {its : Array Value} {old : Value} {Q : Option Value → Shared → Prop} (hh : A.handled = none) (he : IsEnum s.heap e it c old) (hit : s.heap.IsTupleIter it t i) (ht : s.heap.IsTuple t its) (hx : its[i]? = none)
    (hQ : ∀ h', Heap.ExtBut it s.heap h' → Q none { s with heap := h' }) : wpAny (model prog w) A (pyNext (.ref e)) Q E s := by
  unfold pyNext
  have ty : s.TypeIs (.ref e) "enumerate" := ⟨_, he, rfl⟩
  refine wpAny_bind (wpAny_attempt (wpAny_callSpecial?_slot (name := Str.ofString "__next__") ty F.slot_enumerate_next (wpAny_call_entry F.slot_enumerate_next ty F.entry_enumerate_next ?_ (F.args_enumerate_next_1 _))))
  show wpAny _ _ (field (.ref e) 2 >>= _) _ _ s
  refine wpAny_bind (wpAny_field he rfl (x := .ref it) rfl (wpAny_bind (wpAny_nextOf_tuple_end (show A.in1.handled = none from hh) hit ht hx fun h' x kp hx' => ?_)))
  obtain ⟨o, ho, hc⟩ := hx'
  exact wpAny_bind (wpAny_isInstance (T := "StopIteration") (b := true) ⟨o, ho, hc⟩ isSubtype_stop (wpAny_pure (hQ _ kp)))
end PySem
namespace XN
open PySem PySem.Spec PyProof.Rows L2
/-- the tuple at a, each item in a new pair with its place -/
def Itn (K : PySem.W.Frag) (a : Addr) : It :=
  ⟨fun i H => ∃ (xs : List V) (x : V), SqT K H a xs ∧ xs[i]? = some x, fun i H v H' => ∃ T x, v = .ref T ∧ H T = none ∧ H' = upd H T (.tup [.int (i : Nat), x]) ∧ ∀ xs, SqT K H a xs → xs[i]? = some x, fun i H => ∃ xs : List V, SqT K H a xs ∧ xs.length ≤ i⟩
theorem turn_enumT {P : Program} {w : World} {K : PySem.W.Frag} {elts : List Expr} {kk : Nat} {tpos : Pos} (a e it : Addr) :
    Turn P w K (.Tuple elts kk tpos) (Itn K a) [e, it] e (fun i h => (∃ old, IsEnum h e it ((i : Nat) : Int) old) ∧ h.IsTupleIter it a i ∧ e ≠ it ∧ a ≠ it ∧ a ≠ e) where
  mem := by simp
  obj := by
    rintro i h ⟨⟨old, he⟩, ⟨o, ho, hc, hd⟩, _⟩ b hb
    rcases (show b = e ∨ b = it by simpa using hb) with rfl | rfl
    · exact ⟨_, he, fun v q => nomatch q⟩
    · exact ⟨o, ho, fun v q => by rw [hd] at q; cases q⟩
  keep := by
    rintro i h h' ⟨⟨old, he⟩, hi, hne⟩ k
    exact ⟨⟨old, k e (by simp) _ he⟩, hi.at fun o q => k it (by simp) o q, hne⟩
  item := by
    intro X hP hw hK hc i pins s σ H E I hf st hg
    subst hP hw hK
    obtain ⟨⟨old, he⟩, hit, hne, nai, nae⟩ := st
    obtain ⟨xs, x, hq, hx⟩ := hg
    obtain ⟨its, rv, p, hz⟩ := I.tuple hq
    obtain ⟨u, hu, ru⟩ := rv.get hx
    have lt1 : e < s.heap.objs.size := Heap.lt_size he
    have lt2 : it < s.heap.objs.size := by
      obtain ⟨_, q, _⟩ := hit
      exact Heap.lt_size q
    have pt : s.heap.IsTuple a its.toArray := p
    have li : i < its.toArray.size := by
      have := (List.getElem?_eq_some_iff.mp hu).1
      simpa using this
    refine wpAny_pyNext_enum_itemD (n := its.toArray.size) (Draws.tuple (A := X.A.in1) (show X.A.in1.handled = none from I.ok.hd hc) it a nai its.toArray) he ⟨hit, pt⟩ li hne (by simp [hne, Ne.symm nae]) fun y h' tk hy ho hst hT hsz hk => ?_
    obtain rfl : y = u := by
      have z : its.toArray[i]? = some y := hy
      have z2 : its.toArray[i]? = some u := by simpa using hu
      rw [z2] at z
      exact (Option.some.inj z).symm
    refine ⟨_, rfl, wpAny_letOwnedTupleGo_enum (s := { s with heap := h', toks := tk + 1 }) ho fun h'' he' sb => ?_⟩
    have hT2 : h''.get? s.heap.objs.size = some { cls := .type "tuple", data := .seq #[.int i tk, y] } := (sb.2 _ (Nat.ne_of_gt lt1)).trans hT
    have new : ObjOk X.prog X.w (upd H s.heap.objs.size (.tup [.int (i : Nat), x])) h'' s.heap.objs.size (.tup [.int (i : Nat), x]) :=
      ⟨by show 2 ≤ sizeLine; decide, [.int i tk, y], .cons ⟨_, rfl⟩ (.cons ru .nil), ⟨_, hT2, rfl, _, rfl⟩⟩
    have I1 : Inv X pins σ (upd H s.heap.objs.size (.tup [.int (i : Nat), x])) { s with heap := h'', toks := tk + 1 } :=
      I.turnedNew (ch := [e, it]) (fun b ob hb q => (sb.2 b (fun z => hb (by simp [z]))).trans (hk b ob (fun z => hb (by simp [z])) (fun z => hb (by simp [z])) q)) hf (Nat.le_refl _) new
    refine ⟨.ref s.heap.objs.size, _, I1, rfl, ⟨_, x, rfl, I.hok.fresh (Nat.le_refl _), rfl, fun ys hy => by rw [I.tuple_inj hy hq]; exact hx⟩, ⟨⟨y, ?_⟩, hst.1.at fun o q => (sb.2 it (Ne.symm hne)).trans q, hne, nai, nae⟩, fun b hb => ?_⟩
    · rw [show ((i + 1 : Nat) : Int) = (i : Int) + 1 by omega]
      exact he'
    · have hb' : b < s.heap.objs.size := by
        rcases (show b = e ∨ b = it by simpa using hb) with z | z <;> rw [z] <;> assumption
      rw [upd_ne (Nat.ne_of_lt hb')]
      exact (hf b hb).1
  done := by
    intro X hP hw hK hc i pins s σ H E I hf st hg
    subst hP hw hK
    obtain ⟨⟨old, he⟩, hit, hne, nai, nae⟩ := st
    obtain ⟨xs, hq, hx⟩ := hg
    obtain ⟨its, rv, p, hz⟩ := I.tuple hq
    obtain ⟨f0, f1, f2, f3, f4, f5⟩ := hf it (by simp)
    have hl := rv.length
    have pt : s.heap.IsTuple a its.toArray := p
    have none_ : its.toArray[i]? = none := by simp; omega
    exact xe_end (I.ok.hd hc) he hit pt none_ fun h' eb => ⟨rfl, I.turned (t' := s.toks) (fun b o hb q => eb b o hb q) f0 f1 f3 f4 f5⟩
  self := fun A i s Q E st h => by
    obtain ⟨⟨_, he⟩, _⟩ := st
    exact wpAny_pyIter_enum he h
/-- the list or the tuple at a gone through .. -/
def SeqR (K : PySem.W.Frag) (a : Addr) (R : It → Hp → Prop) (H : Hp) : Prop := (∃ xs, SqL K H a xs ∧ R (Itl K a) H) ∨ ∃ xs, SqT K H a xs ∧ R (Itt K a) H
/-- .. with the places -/
def EnuR (K : PySem.W.Frag) (a : Addr) (R : It → Hp → Prop) (H : Hp) : Prop := (∃ xs, SqL K H a xs ∧ R (Ite K a) H) ∨ ∃ xs, SqT K H a xs ∧ R (Itn K a) H
section
variable {X : Cx} {tg : Expr}
/-- enumerate of a list or a tuple -/
def iEnumA (K : PySem.W.Frag) (ta : TA) : TI := fun σ H R => ta σ H fun vs H1 => ∃ a, vs = [.ref a] ∧ EnuR K a R H1
theorem pi_enumA {e : Expr} {ta : TA} {p pos tpos : Pos} {elts : List Expr} {kk : Nat} (hg : Gl X "enumerate") (hm : X.mg "enumerate" = none) (ha : PA X [e] ta) (hs : starEach [e] X.env = [(false, eval e X.env)] := by rfl) :
    PI X (.Tuple elts kk tpos) (.Call (.Name "enumerate" p) [e] [] pos) (iEnumA X.K ta) := by
  refine ⟨fun pins s σ H R I h => Call_ (ld_blt I hg hm boot_enumerate (PyProof.Rows.callWith_type1 (thn (ha.run pos pins s σ H _ I h) fun us s1 hh => ?_) hs rfl))⟩
  obtain ⟨vs, H1, I1, r1, a, ex, q⟩ := hh
  subst ex
  cases r1 with
  | cons r rr =>
    cases rr
    cases r
    have fp : ∀ b ∈ [s1.heap.objs.size + 1, s1.heap.objs.size], FpOk X pins H1 b := fun b hb => by
      have hle : s1.heap.objs.size ≤ b := by
        rcases (show b = s1.heap.objs.size + 1 ∨ b = s1.heap.objs.size by simpa using hb) with z | z <;> rw [z]
        · exact Nat.le_succ _
        · exact Nat.le_refl _
      exact I1.fpOk hle (I1.hok.fresh hle)
    rcases q with ⟨xs, hq, q⟩ | ⟨xs, hq, q⟩
    · obtain ⟨its, rv, p', hz⟩ := I1.list hq
      refine call_enumerate_list p'.isList fun h' he hit hsz hk => wpAny_pyIter_enum he ?_
      have I2 : Inv X pins σ H1 { s1 with heap := h' } := I1.kept (t' := s1.toks) hk
      exact ⟨s1.heap.objs.size + 1, [s1.heap.objs.size + 1, s1.heap.objs.size], _, _, H1, rfl, I2, turn_enum a (s1.heap.objs.size + 1) s1.heap.objs.size, ⟨⟨.none, he⟩, hit, Nat.succ_ne_self _⟩, fp, q⟩
    · obtain ⟨its, rv, p', hz⟩ := I1.tuple hq
      have pt : s1.heap.IsTuple a its.toArray := p'
      have la : a < s1.heap.objs.size := by
        obtain ⟨o, ho, _⟩ := pt
        exact Heap.lt_size ho
      refine xe_call (begins_tuple a its.toArray) pt fun h' he hit hk => wpAny_pyIter_enum he ?_
      have I2 : Inv X pins σ H1 { s1 with heap := h' } := I1.kept (t' := s1.toks) hk
      exact ⟨s1.heap.objs.size + 1, [s1.heap.objs.size + 1, s1.heap.objs.size], _, _, H1, rfl, I2, turn_enumT a (s1.heap.objs.size + 1) s1.heap.objs.size, ⟨⟨.none, he⟩, ⟨_, hit, rfl, rfl⟩, Nat.succ_ne_self _, Nat.ne_of_lt la, Nat.ne_of_lt (Nat.lt_succ_of_lt la)⟩, fp, q⟩
/-- a list or a tuple walked -/
def iSeq (K : PySem.W.Frag) (tl : TE) : TI := fun σ H R => tl σ H fun x H1 => ∃ a, x = .ref a ∧ SeqR K a R H1
theorem pi_seq {l : Expr} {tl : TE} (hl : PE X l tl) : PI X tg l (iSeq X.K tl) := by
  refine ⟨fun pins s σ H R I h => thn (hl.run pins s σ H _ I h) fun v s1 hh => ?_⟩
  obtain ⟨x, H1, I1, r1, a, e, q⟩ := hh
  subst e
  cases r1
  have fp : ∀ b ∈ [s1.heap.objs.size], FpOk X pins H1 b := fun b hb => by
    obtain rfl : b = s1.heap.objs.size := by simpa using hb
    exact I1.fpOk (Nat.le_refl _) (I1.hok.fresh (Nat.le_refl _))
  rcases q with ⟨xs, hq, q⟩ | ⟨xs, hq, q⟩
  · obtain ⟨its, rv, p, hz⟩ := I1.list hq
    exact wpAny_pyIter_list p.isList ⟨s1.heap.objs.size, [s1.heap.objs.size], _, _, H1, rfl, I1.kept (t' := s1.toks) fun b o e => Heap.get?_push_of_some _ e, turn_list a _, ⟨_, Heap.get?_push_size _ rfl, rfl, rfl⟩, fp, q⟩
  · obtain ⟨its, rv, p, hz⟩ := I1.tuple hq
    exact wpAny_pyIter_tuple (show s1.heap.IsTuple a its.toArray from p) ⟨s1.heap.objs.size, [s1.heap.objs.size], _, _, H1, rfl, I1.kept (t' := s1.toks) fun b o e => Heap.get?_push_of_some _ e, turn_tuple a _, ⟨_, Heap.get?_push_size _ rfl, rfl, rfl⟩, fp, q⟩
end
theorem walk_enumT {K : PySem.W.Frag} {a : Addr} {xs : List V} : Walk (Itn K a) xs.length (fun H => SqT K H a xs) (YPair (fun i => some (.int (i : Nat))) (fun i => xs[i]?)) := by
  refine ⟨fun i _ hi q => ⟨xs, xs[i], q, by simp [hi]⟩, fun _ q => ⟨xs, q, Nat.le_refl _⟩, fun i H v H' _ q y => ?_⟩
  obtain ⟨T, x, z1, z2, z3, z4⟩ := y
  exact ⟨T, .int (i : Nat), x, z1, z2, z3, rfl, z4 xs q⟩
end XN

set_option Elab.async false
set_option linter.all false
set_option maxRecDepth 100000
set_option maxHeartbeats 400000
namespace K77
open PySem PySem.Spec PyProof.Rows L2 DL
/-! ### walks -/
theorem walk_either {K : PySem.W.Frag} {H : Hp} {p : Addr} {ys : List V} {R : It → Hp → Prop} (hq : SqL K H p ys ∨ SqT K H p ys) (h : ∀ J G, Walk J ys.length G (YAt ys) → (∀ H', Ex H H' → G H') → R J H) :
    XN.SeqR K p R H :=
  hq.imp (fun q => ⟨_, q, h _ _ walk_list fun _ e => e.er.l q⟩) fun q => ⟨_, q, h _ _ walk_tup fun _ e => e.er.t q⟩
theorem walk_eitherE {K : PySem.W.Frag} {H : Hp} {p : Addr} {ys : List V} {R : It → Hp → Prop} (hq : SqL K H p ys ∨ SqT K H p ys) (h : ∀ J G, Walk J ys.length G (YPair (fun i => some (.int (i : Nat))) (fun i => ys[i]?)) → (∀ H', Ex H H' → G H') → R J H) :
    XN.EnuR K p R H :=
  hq.imp (fun q => ⟨_, q, h _ _ walk_enum fun _ e => e.er.l q⟩) fun q => ⟨_, q, h _ _ XN.walk_enumT fun _ e => e.er.t q⟩
/-- a comprehension of truths -/
theorem lc_bools {J : It} {n : Nat} {G : Hp → Prop} {Y : Nat → Hp → V → Hp → Prop} (w : Walk J n G Y) (b : Nat → Bool) {g : TG} {te : TE} {vs : List Nat} {σ : L2.St} {H1 : Hp} {D : Addr} {Qd : Hp → Prop} (hn : n < sizeLine) (hD : H1 D = none) (hG : ∀ H, Ex H1 H → G H)
    (hs : ∀ i x H H' (Q : VK), i < n → Ex H1 H → Y i H x H' → (∀ H4, Ex H H4 → Q (.bl (b i)) H4) → g x (wipe σ vs) H' fun σ2 H2 => wipe σ2 vs = wipe σ vs ∧ te σ2 H2 Q)
    (hd : ∀ H, H D = some (.lst (((List.range n).map b).map V.bl)) → Ex H1 H → Qd H) :
    ∃ W : Nat → Nat → Hp → Prop, (∃ m, W 0 m (upd H1 D (.lst []))) ∧ ∀ i m H, W i m H →
      (J.stop i H ∧ Qd H) ∨ (J.go i H ∧ ∃ Nx : Hp → Prop, (∀ H', Nx H' → ∃ m', m' < m ∧ W (i + 1) m' H') ∧ ∀ x H', J.yld i H x H' → g x (wipe σ vs) H' fun σ2 H2 => wipe σ2 vs = wipe σ vs ∧ tYes σ2 H2 fun b H3 =>
        if b = true then te σ2 H3 fun y H4 => ∃ acc, H4 D = some (.lst acc) ∧ acc.length < sizeLine ∧ Nx (upd H4 D (.lst (acc ++ [y]))) else Nx H3) := by
  refine lc_map w (fun i z _ => z = .bl (b i)) hn hD hG (fun _ _ _ _ q _ => q) (fun i x H H' Q hi e y q => hs i x H H' Q hi e y fun H4 e4 => q _ H4 e4 rfl) fun H ys h1 h2 e h3 => hd H ?_ e
  rw [h1, bls_of h2 h3]
/-- p of the i-th -/
def atB {α : Type} (p : α → Bool) (ds : List α) (i : Nat) : Bool := (ds[i]?.map p).getD true
theorem atB_some {α : Type} {p : α → Bool} {ds : List α} {i : Nat} {d : α} (h : ds[i]? = some d) : atB p ds i = p d := by
  unfold atB
  rw [h]
  rfl
theorem all_at {α : Type} (p : α → Bool) (ds : List α) : ((List.range ds.length).map (atB p ds)).all id = ds.all p := by
  rw [Bool.eq_iff_iff, List.all_eq_true, List.all_eq_true]
  constructor
  · intro h d hd
    obtain ⟨i, hi, rfl⟩ := List.mem_iff_getElem.mp hd
    have z := h _ (List.mem_map.mpr ⟨i, List.mem_range.mpr hi, rfl⟩)
    rw [atB_some (List.getElem?_eq_getElem hi)] at z
    exact z
  · intro h b hb
    obtain ⟨i, hi, rfl⟩ := List.mem_map.mp hb
    have hi := List.mem_range.mp hi
    rw [atB_some (List.getElem?_eq_getElem hi)]
    exact h _ (List.getElem_mem hi)
/-! ### one text within another -/
def inS (j i : Str) : Bool := !(Builtin.Str.occurrences j i 0 j.length 1).isEmpty
def rInS : R2 := fun x y H Q => ∃ i j, x = .str i ∧ y = .str j ∧ Q (.bl (inS j i)) H
def LET : Str := "abcdefghijklmnopqrstuvwxyz"
/-- every sign of x within y -/
def AllIn (y x : Str) : Prop := 0 < x.length ∧ x.length < 1000000 ∧ ∀ c ∈ x.cps.toList, inS y ⟨#[c]⟩ = true
section
variable {P : Program} {w : World} {K : PySem.W.Frag} {mg : Str → Option Value} {base : Heap} {f : Addr} {fd : FuncData}
theorem sc_is_pair : FnScope ["thing"] ["thing"] (defScope s_is_pair) := ⟨rfl, rfl, rfl, by decide +kernel, rfl, by decide +kernel, by decide +kernel⟩
theorem ok_is_pair (W : Wld K mg) (F : FnP K "is_pair" s_is_pair f fd) : FnOk P w K mg base CX0 3 f fd ["thing"] (sp1 K (isRow 2)) := by
  have Cis_row : Cal P w K mg base 2 "is_row" ["thing", "many"] (spRow K) := cis_row W
  refine F.ok sc_is_pair (fun vs H Q E h => ?_) (fun cdv A outer s H vs Q E hr h => ?_)
  · obtain ⟨v, d, rfl, _⟩ := h
    rfl
  obtain ⟨v, d, rfl, hd, k⟩ := h
  refine ⟨_, PSs.nox (pss_one (ps_ret (pe_c Cis_row (hr.mono (by decide)) (pa_cons (pv 0) (pa_cons pe_int pa_nil))))), ?_⟩
  exact ⟨_, rfl, v, d, 2, rfl, hd, k⟩
theorem cis_pair (W : Wld K mg) : Cal P w K mg base 3 "is_pair" ["thing"] (sp1 K (isRow 2)) := by
  obtain ⟨fd, F⟩ := W.c.def_ 4 rfl
  exact ⟨⟨fd, ok_is_pair W F, F.bindsN fun _ _ _ _ _ _ us hl => match us, hl with | [_], _ => rfl⟩, W.g_is_pair, F.kp⟩
/-- a list of at least one 0 or 1 -/
def isSign : Tr → Bool
  | .int i => decide (i = 0) || decide (i = 1)
  | _ => false
theorem sign_in (i : Int) : inV (.int i) [.int 0, .int 1] = isSign (.int i) := by
  show ((0 == i) || ((1 == i) || false)) = (decide (i = 0) || decide (i = 1))
  rw [Bool.or_false]
  have e : ∀ a : Int, (a == i) = decide (i = a) := fun a => by
    rw [Bool.eq_iff_iff, beq_iff_eq, decide_eq_true_eq]
    exact eq_comm
  rw [e, e]
def kids : Tr → List Tr
  | .lst xs => xs
  | .tup xs => xs
  | _ => []
def isWave (d : Tr) : Bool := isSeq d && (!(kids d).isEmpty && (kids d).all isSign)
def shortT : Tr → Prop := fun d => (kids d).length ≤ 1000000
def spWave (K : PySem.W.Frag) : Sp := fun vs H Q _ => ∃ (v : V) (d : Tr), vs = [v] ∧ Den K true H v d ∧ shortT d ∧ ∀ H', Ex H H' → Q (.bl (isWave d)) H'
theorem sc_is_wave : FnScope ["thing", "sign"] ["thing"] (defScope s_is_wave) := ⟨rfl, rfl, rfl, by decide +kernel, rfl, by decide +kernel, by decide +kernel⟩
theorem ok_is_wave (W : Wld K mg) (F : FnP K "is_wave" s_is_wave f fd) : FnOk P w K mg base CX0 2 f fd ["thing"] (spWave K) := by
  have Cis_list : Cal P w K mg base 1 "is_list" ["thing"] (sp1 K isSeq) := cis_list W
  refine F.ok sc_is_wave (fun vs H Q E h => ?_) (fun cdv A outer s H vs Q E hr h => ?_)
  · obtain ⟨v, d, rfl, _⟩ := h
    rfl
  obtain ⟨v, d, rfl, hd, hl, k⟩ := h
  refine ⟨_, PSs.nox (pss_cons (ps_if (PW.pt (pw_or (pt_not (pt_val (pe_c Cis_list (hr.mono (by decide)) (pa_cons (pv 0) pa_nil)))) (pw_or1 (pt_cmpR op_eq (pe_callB call_len_seq (by rfl) W.n_len (by decide +kernel) (pa_cons (pv 0) pa_nil)) pe_int (nomark _)))))
    (pss_one (ps_ret pe_bl))
    pss_nil)
    (pss_one (ps_ret (pe_callB (cr_all rfl) (by rfl) W.n_all (by decide +kernel) (pa_cons (pe_lc (own := [("sign", 1)]) (g := gName 1) (tt := tYes) (te := (tAndV (tCB (rIsi K) (tCons (tVar 1) (tCons (tC (.ty "int")) tNil))) (tAndV (tNotV (tCB (rIsi K) (tCons (tVar 1) (tCons (tC (.ty "bool")) tNil)))) (tOp (rIn K false) (tVar 1) (tTup (tCons (tC (.int 0)) (tCons (tC (.int 1)) tNil))))))) rfl sc_is_wave.nd (XN.pi_seq (pv 0)) (blkOk_by (N := ["thing", "sign"]) (sc := defScope s_is_wave) (by decide +kernel)) (fun _ _ _ _ _ => pg_name (i := 1) sc_is_wave.nd rfl (Or.inl rfl)) (fun _ _ _ _ _ => pts_nil) (fun _ _ _ _ _ => (pe_and (pe_callB call_isi (by rfl) W.n_isinstance (by decide +kernel) (pa_cons (pv 1) (pa_cons (pe_bltn (v := .ty "int") (by rfl) W.n_int (by decide +kernel) rfl) pa_nil))) (pe_and (pe_not (pe_callB call_isi (by rfl) W.n_isinstance (by decide +kernel) (pa_cons (pv 1) (pa_cons (pe_bltn (v := .ty "bool") (by rfl) W.n_bool (by decide +kernel) rfl) pa_nil)))) (pe_one (pe_cmpR op_in_seq (pv 1) (pe_tup (pa_cons pe_int (pa_cons pe_int pa_nil))) (by rfl))))))) pa_nil))))), ?_⟩
  refine ⟨_, rfl, v, d, rfl, hd, fun H1 e1 => ⟨_, rfl, ?_⟩⟩
  have k0 := fun H' e' => k H' (e1.trans e')
  unfold isWave at k0
  cases hs : isSeq d with
  | false =>
    rw [hs] at k0
    exact iteT (k0 H1 (Ex.refl H1))
  | true =>
    refine iteF ?_
    obtain ⟨p, ys, ds, rfl, hq, hds, e⟩ := den_seq hd hs
    have ek : kids d = ds := by rcases e with rfl | rfl <;> rfl
    rw [hs, ek] at k0
    unfold shortT at hl
    rw [ek, ← hds.length] at hl
    have hq1 := hq.imp e1.er.l e1.er.t
    have hd1 := hds.mono e1.kp
    refine ⟨_, rfl, p, ys, rfl, hq1, rfl, _, rfl, ?_⟩
    rw [dec_i]
    refine ite2 (fun z => ?_) (fun z => ?_)
    · have z := of_decide_eq_true z
      have z2 : ds = [] := List.eq_nil_of_length_eq_zero (by rw [← hds.length]; omega)
      rw [z2] at k0
      exact k0 H1 (Ex.refl H1)
    have z0 : ds.isEmpty = false := by
      cases ds with
      | nil =>
        have e0 := hds.length
        exact absurd (decide_eq_true (by rw [e0]; rfl)) z
      | cons _ _ => rfl
    rw [z0] at k0
    refine ⟨_, rfl, p, rfl, walk_either hq1 fun J G wk hG D hD => ?_⟩
    refine lc_bools wk (atB isSign ds) (by rw [sizeLine_eq]; omega) hD hG ?_ ?_
    · rintro i x H2 H3 Q2 hi e2 ⟨rfl, hx⟩ q
      obtain ⟨dx, hdx, hx2⟩ := (hd1.mono e2.kp).get hx
      rw [atB_some hdx] at q
      refine ⟨rfl, ?_⟩
      refine rd_isi rfl hx2 (kI dx) ⟨_, rfl, ?_⟩
      cases hx2 with
      | int i =>
        refine iteT (rd_isi rfl (.int i) (b := true) (K := K) (kB (.int i)) ⟨_, rfl, _, rfl, iteT ?_⟩)
        refine ⟨_, rfl, by show 2 ≤ sizeLine; decide, fun p hp => ?_⟩
        refine ⟨p, _, rfl, .inr (SqT.of upd_same), rfl, rfl, ?_⟩
        have q2 := q _ ((Ex.refl H3).new (o := .tup [.int 0, .int 1]) hp)
        show Q2 (.bl (inV (.int i) [.int 0, .int 1])) _
        rw [sign_in]
        exact q2
      | bl b => exact iteT (rd_isi rfl (.bl b) (b := true) (K := K) (kB (.bl b)) ⟨_, rfl, _, rfl, iteF (q H3 (Ex.refl H3))⟩)
      | _ => exact iteF (q H3 (Ex.refl H3))
    · intro H5 h5 e5
      refine ⟨D, _, rfl, SqL.of h5, ?_⟩
      rw [hds.length, all_at isSign ds]
      exact k0 H5 e5
theorem cis_wave (W : Wld K mg) : Cal P w K mg base 2 "is_wave" ["thing"] (spWave K) := by
  obtain ⟨fd, F⟩ := W.c.def_ 24 rfl
  exact ⟨⟨fd, ok_is_wave W F, F.bindsN fun _ _ _ _ _ _ us hl => match us, hl with | [_], _ => rfl⟩, W.g_is_wave, F.kp⟩
end
end K77

set_option Elab.async false
set_option linter.all false
set_option maxRecDepth 100000
set_option maxHeartbeats 400000
namespace K77
open PySem PySem.Spec PyProof.Rows L2 DL
section
variable {P : Program} {w : World} {K : PySem.W.Frag} {mg : Str → Option Value} {base : Heap} {f : Addr} {fd : FuncData}
theorem all_true (n : Nat) : ((List.range n).map fun _ => true).all id = true := by
  rw [List.all_eq_true]
  intro b hb
  obtain ⟨_, _, rfl⟩ := List.mem_map.mp hb
  rfl
def spYes (R : Str → Prop) : Sp := fun vs H Q _ => ∃ x : Str, vs = [.str x] ∧ R x ∧ ∀ H', Ex H H' → Q (.bl true) H'
theorem sc_is_letters : FnScope ["thing", "sign"] ["thing"] (defScope s_is_letters) := ⟨rfl, rfl, rfl, by decide +kernel, rfl, by decide +kernel, by decide +kernel⟩
theorem ok_is_letters (W : Wld K mg) (F : FnP K "is_letters" s_is_letters f fd) : FnOk P w K mg base CX0 2 f fd ["thing"] (spYes (AllIn LET)) := by
  have Cis_text : Cal P w K mg base 1 "is_text" ["thing"] (sp1 K isS) := cis_text W
  obtain ⟨tL, hLET⟩ := W.str_LETTERS
  refine F.ok sc_is_letters (fun vs H Q E h => ?_) (fun cdv A outer s H vs Q E hr h => ?_)
  · obtain ⟨x, rfl, _⟩ := h
    rfl
  obtain ⟨x, rfl, ⟨h0, h1, hx⟩, k⟩ := h
  refine ⟨_, PSs.nox (pss_one (ps_ret (pe_and (pe_c Cis_text (hr.mono (by decide)) (pa_cons (pv 0) pa_nil)) (pe_and (pe_cmpR op_gt (pe_callB call_len_str (by rfl) W.n_len (by decide +kernel) (pa_cons (pv 0) pa_nil)) pe_int (nomark _)) (pe_one (pe_callB (cr_all rfl) (by rfl) W.n_all (by decide +kernel) (pa_cons (pe_lc (own := [("sign", 1)]) (g := gName 1) (tt := tYes) (te := (tOp rInS (tVar 1) (tC (.str LET)))) rfl sc_is_letters.nd (pi_str (pv 0)) (blkOk_by (N := ["thing", "sign"]) (sc := defScope s_is_letters) (by decide +kernel)) (fun _ _ _ _ _ => pg_name (i := 1) sc_is_letters.nd rfl (Or.inl rfl)) (fun _ _ _ _ _ => pts_nil) (fun _ _ _ _ _ => (pe_cmpR op_in_str (pv 1) (pe_glob (v := .str LET) (by rfl) hLET ⟨tL, rfl⟩) (by rfl)))) pa_nil))))))), ?_⟩
  refine ⟨_, rfl, .str x, .str x, rfl, .str x, fun H1 e1 => ⟨_, rfl, iteT ?_⟩⟩
  have hz : x.length ≤ sizeLine := by rw [sizeLine_eq]; omega
  refine ⟨_, rfl, x, rfl, hz, _, _, rfl, rfl, _, rfl, ?_⟩
  rw [decide_eq_true (by omega : (0 : Int) < x.length)]
  refine iteT ⟨_, rfl, x, rfl, fun D hD => ?_⟩
  refine lc_bools walk_str (fun _ => true) (by rw [sizeLine_eq]; exact Nat.lt_of_lt_of_le h1 (by decide)) hD (fun _ _ => trivial) ?_ ?_
  · rintro i y H2 H3 Q2 hi e2 ⟨rfl, c, hc, rfl⟩ q
    refine ⟨rfl, ?_⟩
    refine ⟨_, rfl, _, _, rfl, rfl, ?_⟩
    rw [hx c (by
      rw [Array.getElem?_eq_some_iff] at hc
      obtain ⟨hi, rfl⟩ := hc
      exact Array.getElem_mem_toList hi)]
    exact q _ (Ex.refl _)
  · intro H5 h5 e5
    refine ⟨D, _, rfl, SqL.of h5, ?_⟩
    rw [all_true]
    exact k H5 (e1.trans e5)
theorem cis_letters (W : Wld K mg) : Cal P w K mg base 2 "is_letters" ["thing"] (spYes (AllIn LET)) := by
  obtain ⟨fd, F⟩ := W.c.def_ 6 rfl
  exact ⟨⟨fd, ok_is_letters W F, F.bindsN fun _ _ _ _ _ _ us hl => match us, hl with | [_], _ => rfl⟩, W.g_is_letters, F.kp⟩
/-- a word: letters, at most eight -/
def WordOk (x : Str) : Prop := AllIn LET x ∧ x.length ≤ 8
theorem sc_is_word : FnScope ["thing"] ["thing"] (defScope s_is_word) := ⟨rfl, rfl, rfl, by decide +kernel, rfl, by decide +kernel, by decide +kernel⟩
theorem ok_is_word (W : Wld K mg) (F : FnP K "is_word" s_is_word f fd) : FnOk P w K mg base CX0 3 f fd ["thing"] (spYes WordOk) := by
  have Cis_letters : Cal P w K mg base 2 "is_letters" ["thing"] (spYes (AllIn LET)) := cis_letters W
  refine F.ok sc_is_word (fun vs H Q E h => ?_) (fun cdv A outer s H vs Q E hr h => ?_)
  · obtain ⟨x, rfl, _⟩ := h
    rfl
  obtain ⟨x, rfl, ⟨h0, h1⟩, k⟩ := h
  refine ⟨_, PSs.nox (pss_one (ps_ret (pe_and (pe_c Cis_letters (hr.mono (by decide)) (pa_cons (pv 0) pa_nil)) (pe_one (pe_cmpR op_le (pe_callB call_len_str (by rfl) W.n_len (by decide +kernel) (pa_cons (pv 0) pa_nil)) pe_int (nomark _)))))), ?_⟩
  refine ⟨_, rfl, x, rfl, h0, fun H1 e1 => ⟨_, rfl, iteT ?_⟩⟩
  refine ⟨_, rfl, x, rfl, by rw [sizeLine_eq]; omega, _, _, rfl, rfl, ?_⟩
  show Q (.bl (decide ((x.length : Int) ≤ 8))) H1
  rw [decide_eq_true (by omega : (x.length : Int) ≤ 8)]
  exact k H1 e1
theorem cis_word (W : Wld K mg) : Cal P w K mg base 3 "is_word" ["thing"] (spYes WordOk) := by
  obtain ⟨fd, F⟩ := W.c.def_ 7 rfl
  exact ⟨⟨fd, ok_is_word W F, F.bindsN fun _ _ _ _ _ _ us hl => match us, hl with | [_], _ => rfl⟩, W.g_is_word, F.kp⟩
def spSpell : Sp := fun vs H Q _ => ∃ x y : Str, vs = [.str x, .str y] ∧ AllIn y x ∧ ∀ H', Ex H H' → Q (.bl true) H'
theorem sc_is_spelled : FnScope ["thing", "signs", "sign"] ["thing", "signs"] (defScope s_is_spelled) := ⟨rfl, rfl, rfl, by decide +kernel, rfl, by decide +kernel, by decide +kernel⟩
theorem ok_is_spelled (W : Wld K mg) (F : FnP K "is_spelled" s_is_spelled f fd) : FnOk P w K mg base CX0 2 f fd ["thing", "signs"] spSpell := by
  have Cis_text : Cal P w K mg base 1 "is_text" ["thing"] (sp1 K isS) := cis_text W
  refine F.ok sc_is_spelled (fun vs H Q E h => ?_) (fun cdv A outer s H vs Q E hr h => ?_)
  · obtain ⟨x, y, rfl, _⟩ := h
    rfl
  obtain ⟨x, y, rfl, ⟨h0, h1, hx⟩, k⟩ := h
  refine ⟨_, PSs.nox (pss_one (ps_ret (pe_and (pe_c Cis_text (hr.mono (by decide)) (pa_cons (pv 0) pa_nil)) (pe_and (pe_cmpR op_gt (pe_callB call_len_str (by rfl) W.n_len (by decide +kernel) (pa_cons (pv 0) pa_nil)) pe_int (nomark _)) (pe_one (pe_callB (cr_all rfl) (by rfl) W.n_all (by decide +kernel) (pa_cons (pe_lc (own := [("sign", 2)]) (g := gName 2) (tt := tYes) (te := (tOp rInS (tVar 2) (tVar 1))) rfl sc_is_spelled.nd (pi_str (pv 0)) (blkOk_by (N := ["thing", "signs", "sign"]) (sc := defScope s_is_spelled) (by decide +kernel)) (fun _ _ _ _ _ => pg_name (i := 2) sc_is_spelled.nd rfl (Or.inl rfl)) (fun _ _ _ _ _ => pts_nil) (fun _ _ _ _ _ => (pe_cmpR op_in_str (pv 2) (pv 1) (by rfl)))) pa_nil))))))), ?_⟩
  refine ⟨_, rfl, .str x, .str x, rfl, .str x, fun H1 e1 => ⟨_, rfl, iteT ?_⟩⟩
  have hz : x.length ≤ sizeLine := by rw [sizeLine_eq]; omega
  refine ⟨_, rfl, x, rfl, hz, _, _, rfl, rfl, _, rfl, ?_⟩
  rw [decide_eq_true (by omega : (0 : Int) < x.length)]
  refine iteT ⟨_, rfl, x, rfl, fun D hD => ?_⟩
  refine lc_bools walk_str (fun _ => true) (by rw [sizeLine_eq]; exact Nat.lt_of_lt_of_le h1 (by decide)) hD (fun _ _ => trivial) ?_ ?_
  · rintro i u H2 H3 Q2 hi e2 ⟨rfl, c, hc, rfl⟩ q
    refine ⟨rfl, ?_⟩
    refine ⟨_, rfl, _, rfl, _, _, rfl, rfl, ?_⟩
    rw [hx c (by
      rw [Array.getElem?_eq_some_iff] at hc
      obtain ⟨hi, rfl⟩ := hc
      exact Array.getElem_mem_toList hi)]
    exact q _ (Ex.refl _)
  · intro H5 h5 e5
    refine ⟨D, _, rfl, SqL.of h5, ?_⟩
    rw [all_true]
    exact k H5 (e1.trans e5)
theorem cis_spelled (W : Wld K mg) : Cal P w K mg base 2 "is_spelled" ["thing", "signs"] spSpell := by
  obtain ⟨fd, F⟩ := W.c.def_ 9 rfl
  exact ⟨⟨fd, ok_is_spelled W F, F.bindsN fun _ _ _ _ _ _ us hl => match us, hl with | [_, _], _ => rfl⟩, W.g_is_spelled, F.kp⟩
theorem sc_is_any_cell : FnScope ["thing"] ["thing"] (defScope s_is_any_cell) := ⟨rfl, rfl, rfl, by decide +kernel, rfl, by decide +kernel, by decide +kernel⟩
theorem ok_is_any_cell (W : Wld K mg) (F : FnP K "is_any_cell" s_is_any_cell f fd) : FnOk P w K mg base CX0 3 f fd ["thing"] (spYes (AllIn "01")) := by
  have Cis_spelled : Cal P w K mg base 2 "is_spelled" ["thing", "signs"] spSpell := cis_spelled W
  refine F.ok sc_is_any_cell (fun vs H Q E h => ?_) (fun cdv A outer s H vs Q E hr h => ?_)
  · obtain ⟨x, rfl, _⟩ := h
    rfl
  obtain ⟨x, rfl, h0, k⟩ := h
  refine ⟨_, PSs.nox (pss_one (ps_ret (pe_c Cis_spelled (hr.mono (by decide)) (pa_cons (pv 0) (pa_cons pe_str pa_nil))))), ?_⟩
  exact ⟨_, rfl, x, _, rfl, h0, k⟩
theorem cis_any_cell (W : Wld K mg) : Cal P w K mg base 3 "is_any_cell" ["thing"] (spYes (AllIn "01")) := by
  obtain ⟨fd, F⟩ := W.c.def_ 10 rfl
  exact ⟨⟨fd, ok_is_any_cell W F, F.bindsN fun _ _ _ _ _ _ us hl => match us, hl with | [_], _ => rfl⟩, W.g_is_any_cell, F.kp⟩
def spLong : Sp := fun vs H Q _ => ∃ x : Str, vs = [.str x, .int x.length] ∧ AllIn "01" x ∧ ∀ H', Ex H H' → Q (.bl true) H'
theorem sc_is_long : FnScope ["thing", "many"] ["thing", "many"] (defScope s_is_long) := ⟨rfl, rfl, rfl, by decide +kernel, rfl, by decide +kernel, by decide +kernel⟩
theorem ok_is_long (W : Wld K mg) (F : FnP K "is_long" s_is_long f fd) : FnOk P w K mg base CX0 4 f fd ["thing", "many"] spLong := by
  have Cis_any_cell : Cal P w K mg base 3 "is_any_cell" ["thing"] (spYes (AllIn "01")) := cis_any_cell W
  refine F.ok sc_is_long (fun vs H Q E h => ?_) (fun cdv A outer s H vs Q E hr h => ?_)
  · obtain ⟨x, rfl, _⟩ := h
    rfl
  obtain ⟨x, rfl, h0, k⟩ := h
  refine ⟨_, PSs.nox (pss_one (ps_ret (pe_and (pe_c Cis_any_cell (hr.mono (by decide)) (pa_cons (pv 0) pa_nil)) (pe_one (pe_cmpR op_eq (pe_callB call_len_str (by rfl) W.n_len (by decide +kernel) (pa_cons (pv 0) pa_nil)) (pv 1) (nomark _)))))), ?_⟩
  have hz : x.length ≤ sizeLine := by
    have := h0.2.1
    rw [sizeLine_eq]
    omega
  refine ⟨_, rfl, x, rfl, h0, fun H1 e1 => ⟨_, rfl, iteT ⟨_, rfl, x, rfl, hz, _, rfl, rfl, ?_⟩⟩⟩
  rw [decide_eq_true rfl]
  exact k H1 e1
theorem cis_long (W : Wld K mg) : Cal P w K mg base 4 "is_long" ["thing", "many"] spLong := by
  obtain ⟨fd, F⟩ := W.c.def_ 13 rfl
  exact ⟨⟨fd, ok_is_long W F, F.bindsN fun _ _ _ _ _ _ us hl => match us, hl with | [_, _], _ => rfl⟩, W.g_is_long, F.kp⟩
/-! ### places -/
/-- the places at which two texts of one length are unlike -/
def chg (x y : Str) : List Nat := (List.range x.length).filter fun i => decide (x.cps[i]? ≠ y.cps[i]?)
/-- [k for k in range(n) if ..] -/
theorem lc_keep {n j : Nat} {tt : TT} {vs : List Nat} {σ : L2.St} {H1 : Hp} {D : Addr} {Qd : Hp → Prop} (b : Nat → Bool) (hn : n < sizeLine) (hD : H1 D = none) (hj : ∀ v, ((wipe σ vs).set j (some v))[j]? = some (some v)) (hw : ∀ v, wipe ((wipe σ vs).set j (some v)) vs = wipe σ vs)
    (hs : ∀ (i : Nat) H (Q : Bool → Hp → Prop), i < n → Ex H1 H → (∀ H4, Ex H H4 → Q (b i) H4) → tt ((wipe σ vs).set j (some (.int (0 + (i : Nat))))) H Q)
    (hd : ∀ H, H D = some (.lst (((List.range n).filter b).map fun k => V.int ((k : Nat) : Int))) → Ex H1 H → Qd H) :
    ∃ W : Nat → Nat → Hp → Prop, (∃ m, W 0 m (upd H1 D (.lst []))) ∧ ∀ i m H, W i m H →
      ((Itr 0 n).stop i H ∧ Qd H) ∨ ((Itr 0 n).go i H ∧ ∃ Nx : Hp → Prop, (∀ H', Nx H' → ∃ m', m' < m ∧ W (i + 1) m' H') ∧ ∀ x H', (Itr 0 n).yld i H x H' → gName j x (wipe σ vs) H' fun σ2 H2 => wipe σ2 vs = wipe σ vs ∧ tt σ2 H2 fun b H3 =>
        if b = true then tVar j σ2 H3 fun y H4 => ∃ acc, H4 D = some (.lst acc) ∧ acc.length < sizeLine ∧ Nx (upd H4 D (.lst (acc ++ [y]))) else Nx H3) := by
  refine lc_range (lo := 0) (fun i H' => Ex H1 H' ∧ H' D = some (.lst (((List.range i).filter b).map fun k => V.int ((k : Nat) : Int)))) ⟨(Ex.refl H1).new hD, upd_same⟩ ?_ fun H h => hd H h.2 h.1
  rintro i H hi ⟨e, hDi⟩
  refine ⟨hw _, hs i H _ hi e fun H4 e4 => ?_⟩
  have step : (List.range (i + 1)).filter b = (List.range i).filter b ++ (if b i = true then [i] else []) := by
    rw [List.range_succ, List.filter_append]
    by_cases z : b i = true
    · rw [if_pos z, List.filter_cons, if_pos z]
      rfl
    · rw [if_neg z, List.filter_cons, if_neg z]
      rfl
  refine ite2 (fun z => ?_) (fun z => ?_)
  · refine ⟨_, hj _, _, e4 _ _ hDi, ?_, fun c o q => ?_, ?_⟩
    · rw [List.length_map]
      have := List.length_filter_le b (List.range i)
      rw [List.length_range] at this
      omega
    · rw [upd_ne (ne_of_none q hD)]
      exact e4 _ _ (e c o q)
    · rw [upd_same, step, if_pos z]
      simp
  · refine ⟨e.trans e4, ?_⟩
    rw [step, if_neg z, List.append_nil]
    exact e4 _ _ hDi
def spChg : Sp := fun vs H Q _ => ∃ x y : Str, vs = [.str x, .str y] ∧ x.length = y.length ∧ x.length < 1000000 ∧ ∀ D H', Ex H H' → H D = none → H' D = some (.lst ((chg x y).map fun k => V.int ((k : Nat) : Int))) → Q (.ref D) H'
theorem cps_at {x : Str} {i : Nat} (h : i < x.length) : ∃ c, x.cps[i]? = some c ∧ atI x.cps.toList (0 + (i : Nat)) = some c := by
  have hi : i < x.cps.size := h
  refine ⟨x.cps[i], Array.getElem?_eq_getElem hi, ?_⟩
  rw [Int.zero_add]
  refine atI_nat ?_
  simp [hi]
theorem sc_changed : FnScope ["cell", "other", "place"] ["cell", "other"] (defScope s_changed) := ⟨rfl, rfl, rfl, by decide +kernel, rfl, by decide +kernel, by decide +kernel⟩
theorem ok_changed (W : Wld K mg) (F : FnP K "changed" s_changed f fd) : FnOk P w K mg base CX0 1 f fd ["cell", "other"] spChg := by
  refine F.ok sc_changed (fun vs H Q E h => ?_) (fun cdv A outer s H vs Q E hr h => ?_)
  · obtain ⟨x, y, rfl, _⟩ := h
    rfl
  obtain ⟨x, y, rfl, hl, h1, k⟩ := h
  refine ⟨_, PSs.nox (pss_one (ps_ret (pe_lc (own := [("place", 2)]) (g := gName 2) (tt := (tTest (tOp rNe (tOp rIxS (tVar 0) (tVar 2)) (tOp rIxS (tVar 1) (tVar 2))))) (te := (tVar 2)) rfl sc_changed.nd (pi_range1 (by rfl) W.n_range (pa_cons (pe_callB call_len_str (by rfl) W.n_len (by decide +kernel) (pa_cons (pv 0) pa_nil)) pa_nil)) (blkOk_by (N := ["cell", "other", "place"]) (sc := defScope s_changed) (by decide +kernel)) (fun _ _ _ _ _ => pg_name (i := 2) sc_changed.nd rfl (Or.inl rfl)) (fun _ _ _ _ _ => pts_one (pt_cmpR op_ne (pe_ix ix_str (pv 0) (pv 2) (fun _ _ => rfl)) (pe_ix ix_str (pv 1) (pv 2) (fun _ _ => rfl)) (nomark _))) (fun _ _ _ _ _ => (pv 2))))), ?_⟩
  have hz : x.length ≤ sizeLine := by rw [sizeLine_eq]; omega
  refine ⟨_, rfl, x, rfl, hz, _, rfl, by omega, by omega, fun D hD => ?_⟩
  refine lc_keep (fun i => decide (x.cps[i]? ≠ y.cps[i]?)) (by rw [sizeLine_eq]; omega) hD (fun _ => rfl) (fun _ => rfl) ?_ ?_
  · intro i H2 Q2 hi e2 q
    have hi : i < x.length := hi
    obtain ⟨c, c1, c2⟩ := cps_at hi
    obtain ⟨d, d1, d2⟩ := cps_at (x := y) (i := i) (by omega)
    refine ⟨_, rfl, _, rfl, _, _, c, rfl, rfl, hz, c2, _, rfl, _, rfl, _, _, d, rfl, rfl, by rw [← hl]; exact hz, d2, rfl, _, rfl, ?_⟩
    have z := q H2 (Ex.refl H2)
    rw [c1, d1] at z
    have e : (!decide (V.str ⟨#[c]⟩ = V.str ⟨#[d]⟩)) = decide (some c ≠ some d) := by
      by_cases h : c = d
      · subst h
        simp
      · simp [h]
    rw [e]
    exact z
  · intro H5 h5 e5
    exact k D H5 e5 hD h5
theorem cchanged (W : Wld K mg) : Cal P w K mg base 1 "changed" ["cell", "other"] spChg := by
  obtain ⟨fd, F⟩ := W.c.def_ 15 rfl
  exact ⟨⟨fd, ok_changed W F, F.bindsN fun _ _ _ _ _ _ us hl => match us, hl with | [_, _], _ => rfl⟩, W.g_changed, F.kp⟩
theorem sc_law_changed : FnScope ["cell", "other", "at"] ["cell", "other"] (defScope s_law_changed) := ⟨rfl, rfl, rfl, by decide +kernel, rfl, by decide +kernel, by decide +kernel⟩
theorem ok_law_changed (W : Wld K mg) (F : FnP K "_law_changed" s_law_changed f fd) : FnOk P w K mg base CX0 1 f fd ["cell", "other"] spChg := by
  refine F.ok sc_law_changed (fun vs H Q E h => ?_) (fun cdv A outer s H vs Q E hr h => ?_)
  · obtain ⟨x, y, rfl, _⟩ := h
    rfl
  obtain ⟨x, y, rfl, hl, h1, k⟩ := h
  refine ⟨_, PSs.nox (pss_one (ps_ret (pe_lc (own := [("at", 2)]) (g := gName 2) (tt := (tTest (tOp rNe (tOp rIxS (tVar 0) (tVar 2)) (tOp rIxS (tVar 1) (tVar 2))))) (te := (tVar 2)) rfl sc_law_changed.nd (pi_range1 (by rfl) W.n_range (pa_cons (pe_callB call_len_str (by rfl) W.n_len (by decide +kernel) (pa_cons (pv 0) pa_nil)) pa_nil)) (blkOk_by (N := ["cell", "other", "at"]) (sc := defScope s_law_changed) (by decide +kernel)) (fun _ _ _ _ _ => pg_name (i := 2) sc_law_changed.nd rfl (Or.inl rfl)) (fun _ _ _ _ _ => pts_one (pt_cmpR op_ne (pe_ix ix_str (pv 0) (pv 2) (fun _ _ => rfl)) (pe_ix ix_str (pv 1) (pv 2) (fun _ _ => rfl)) (nomark _))) (fun _ _ _ _ _ => (pv 2))))), ?_⟩
  have hz : x.length ≤ sizeLine := by rw [sizeLine_eq]; omega
  refine ⟨_, rfl, x, rfl, hz, _, rfl, by omega, by omega, fun D hD => ?_⟩
  refine lc_keep (fun i => decide (x.cps[i]? ≠ y.cps[i]?)) (by rw [sizeLine_eq]; omega) hD (fun _ => rfl) (fun _ => rfl) ?_ ?_
  · intro i H2 Q2 hi e2 q
    have hi : i < x.length := hi
    obtain ⟨c, c1, c2⟩ := cps_at hi
    obtain ⟨d, d1, d2⟩ := cps_at (x := y) (i := i) (by omega)
    refine ⟨_, rfl, _, rfl, _, _, c, rfl, rfl, hz, c2, _, rfl, _, rfl, _, _, d, rfl, rfl, by rw [← hl]; exact hz, d2, rfl, _, rfl, ?_⟩
    have z := q H2 (Ex.refl H2)
    rw [c1, d1] at z
    have e : (!decide (V.str ⟨#[c]⟩ = V.str ⟨#[d]⟩)) = decide (some c ≠ some d) := by
      by_cases h : c = d
      · subst h
        simp
      · simp [h]
    rw [e]
    exact z
  · intro H5 h5 e5
    exact k D H5 e5 hD h5
theorem c_law_changed (W : Wld K mg) : Cal P w K mg base 1 "_law_changed" ["cell", "other"] spChg := by
  obtain ⟨fd, F⟩ := W.c.def_ 42 rfl
  exact ⟨⟨fd, ok_law_changed W F, F.bindsN fun _ _ _ _ _ _ us hl => match us, hl with | [_, _], _ => rfl⟩, W.g_law_changed, F.kp⟩
end
end K77

set_option Elab.async false
set_option linter.all false
set_option maxRecDepth 100000
set_option maxHeartbeats 400000
namespace K77
open PySem PySem.Spec PyProof.Rows L2 DL
/-! ### lists of numbers, of texts -/
def intsV (l : List Nat) : List V := l.map fun k => V.int ((k : Nat) : Int)
theorem inV_ints (k : Nat) (l : List Nat) : inV (.int (k : Nat)) (intsV l) = decide (k ∈ l) := by
  unfold inV intsV
  rw [List.any_map]
  induction l with
  | nil => simp
  | cons a r ih =>
    rw [List.any_cons, ih]
    show (((a : Int) == (k : Int)) || decide (k ∈ r)) = decide (k ∈ a :: r)
    by_cases h : k = a
    · subst h
      simp
    · have h2 : ¬ (a : Int) = (k : Int) := by omega
      simp [h, h2]
theorem flat_ints (l : List Nat) : (intsV l).all flatV = true := by
  unfold intsV
  rw [List.all_eq_true]
  intro v hv
  obtain ⟨_, _, rfl⟩ := List.mem_map.mp hv
  rfl
def strsV (l : List Str) : List V := l.map V.str
theorem inV_strs (x : Str) (l : List Str) : inV (.str x) (strsV l) = decide (x ∈ l) := by
  unfold inV strsV
  rw [List.any_map]
  induction l with
  | nil => simp
  | cons a r ih =>
    rw [List.any_cons, ih]
    show ((a == x) || decide (x ∈ r)) = decide (x ∈ a :: r)
    by_cases h : x = a
    · subst h
      simp
    · have h2 : (a == x) = false := by simpa using fun z => h z.symm
      rw [h2]
      simp [h]
theorem flat_strs (l : List Str) : (strsV l).all flatV = true := by
  unfold strsV
  rw [List.all_eq_true]
  intro v hv
  obtain ⟨_, _, rfl⟩ := List.mem_map.mp hv
  rfl
theorem strs_get {l : List Str} {i : Nat} {v : V} (h : (strsV l)[i]? = some v) : ∃ x, l[i]? = some x ∧ v = .str x := by
  unfold strsV at h
  rw [List.getElem?_map] at h
  cases e : l[i]? with
  | none => rw [e] at h; cases h
  | some x =>
    rw [e] at h
    exact ⟨x, rfl, (Option.some.inj h).symm⟩
theorem cutV_take (xs : List V) (i : Nat) : cutV xs none (some (i : Int)) = xs.take i := by
  unfold cutV
  rw [HT.sIx_none, HT.sIx_nat, List.drop_zero, Nat.sub_zero]
  by_cases h : i ≤ xs.length
  · rw [Nat.min_eq_left h]
  · rw [Nat.min_eq_right (by omega), List.take_length, List.take_of_length_le (by omega)]
theorem not_take {α : Type} {l : List α} {i : Nat} {x : α} (hn : l.Nodup) (hx : l[i]? = some x) : x ∉ l.take i := fun z => by
  obtain ⟨j, hj, e⟩ := List.mem_iff_getElem.mp z
  rw [List.length_take] at hj
  have hi := (List.getElem?_eq_some_iff.mp hx).1
  have ej : l[j]? = some x := by
    rw [List.getElem_take] at e
    rw [List.getElem?_eq_getElem (by omega), e]
  have := (List.getElem?_inj (by omega) hn).mp (ej.trans hx.symm)
  omega
theorem dens_strs {K : PySem.W.Frag} {b : Bool} {H : Hp} : ∀ l : List Str, Dens K b H (strsV l) (l.map Tr.str)
  | [] => .nil
  | x :: l => .cons (.str x) (dens_strs l)
section
variable {P : Program} {w : World} {K : PySem.W.Frag} {mg : Str → Option Value} {base : Heap} {f : Addr} {fd : FuncData}
def spIn (K : PySem.W.Frag) : Sp := fun vs H Q _ => ∃ (p q : Addr) (l m : List Nat), vs = [.ref p, .ref q] ∧ SqL K H p (intsV l) ∧ SqL K H q (intsV m) ∧ l.length < 1000000 ∧ ∀ H', Ex H H' → Q (.bl (l.all fun k => decide (k ∈ m))) H'
theorem sc_within : FnScope ["places", "others", "place"] ["places", "others"] (defScope s_within) := ⟨rfl, rfl, rfl, by decide +kernel, rfl, by decide +kernel, by decide +kernel⟩
theorem ok_within (W : Wld K mg) (F : FnP K "within" s_within f fd) : FnOk P w K mg base CX0 1 f fd ["places", "others"] (spIn K) := by
  refine F.ok sc_within (fun vs H Q E h => ?_) (fun cdv A outer s H vs Q E hr h => ?_)
  · obtain ⟨p, q, l, m, rfl, _⟩ := h
    rfl
  obtain ⟨p, q, l, m, rfl, hp, hq, hl, k⟩ := h
  refine ⟨_, PSs.nox (pss_one (ps_ret (pe_callB (cr_all rfl) (by rfl) W.n_all (by decide +kernel) (pa_cons (pe_lc (own := [("place", 2)]) (g := gName 2) (tt := tYes) (te := (tOp (rIn K false) (tVar 2) (tVar 1))) rfl sc_within.nd (pi_list (pv 0)) (blkOk_by (N := ["places", "others", "place"]) (sc := defScope s_within) (by decide +kernel)) (fun _ _ _ _ _ => pg_name (i := 2) sc_within.nd rfl (Or.inl rfl)) (fun _ _ _ _ _ => pts_nil) (fun _ _ _ _ _ => (pe_cmpR op_in_seq (pv 2) (pv 1) (by rfl)))) pa_nil)))), ?_⟩
  refine ⟨_, rfl, p, rfl, ⟨_, hp⟩, fun D hD => ?_⟩
  have el : (intsV l).length = l.length := by unfold intsV; rw [List.length_map]
  refine lc_bools walk_list (atB (fun k => decide (k ∈ m)) l) (by rw [el, sizeLine_eq]; omega) hD (fun H' e => e.er.l hp) ?_ ?_
  · rintro i x H2 H3 Q2 hi e2 ⟨rfl, hx⟩ z
    unfold intsV at hx
    rw [List.getElem?_map] at hx
    cases e : l[i]? with
    | none => rw [e] at hx; cases hx
    | some k =>
      rw [e] at hx
      obtain rfl := Option.some.inj hx
      rw [atB_some e] at z
      refine ⟨rfl, _, rfl, _, rfl, q, _, rfl, .inl (e2.er.l hq), rfl, flat_ints m, ?_⟩
      show Q2 (.bl (inV (.int (k : Nat)) (intsV m))) _
      rw [inV_ints]
      exact z _ (Ex.refl _)
  · intro H5 h5 e5
    refine ⟨D, _, rfl, SqL.of h5, ?_⟩
    rw [el, all_at]
    exact k H5 e5
theorem cwithin (W : Wld K mg) : Cal P w K mg base 1 "within" ["places", "others"] (spIn K) := by
  obtain ⟨fd, F⟩ := W.c.def_ 16 rfl
  exact ⟨⟨fd, ok_within W F, F.bindsN fun _ _ _ _ _ _ us hl => match us, hl with | [_, _], _ => rfl⟩, W.g_within, F.kp⟩
theorem sc_law_all_in : FnScope ["lot", "other", "one"] ["lot", "other"] (defScope s_law_all_in) := ⟨rfl, rfl, rfl, by decide +kernel, rfl, by decide +kernel, by decide +kernel⟩
theorem ok_law_all_in (W : Wld K mg) (F : FnP K "_law_all_in" s_law_all_in f fd) : FnOk P w K mg base CX0 1 f fd ["lot", "other"] (spIn K) := by
  refine F.ok sc_law_all_in (fun vs H Q E h => ?_) (fun cdv A outer s H vs Q E hr h => ?_)
  · obtain ⟨p, q, l, m, rfl, _⟩ := h
    rfl
  obtain ⟨p, q, l, m, rfl, hp, hq, hl, k⟩ := h
  refine ⟨_, PSs.nox (pss_one (ps_ret (pe_callB (cr_all rfl) (by rfl) W.n_all (by decide +kernel) (pa_cons (pe_lc (own := [("one", 2)]) (g := gName 2) (tt := tYes) (te := (tOp (rIn K false) (tVar 2) (tVar 1))) rfl sc_law_all_in.nd (pi_list (pv 0)) (blkOk_by (N := ["lot", "other", "one"]) (sc := defScope s_law_all_in) (by decide +kernel)) (fun _ _ _ _ _ => pg_name (i := 2) sc_law_all_in.nd rfl (Or.inl rfl)) (fun _ _ _ _ _ => pts_nil) (fun _ _ _ _ _ => (pe_cmpR op_in_seq (pv 2) (pv 1) (by rfl)))) pa_nil)))), ?_⟩
  refine ⟨_, rfl, p, rfl, ⟨_, hp⟩, fun D hD => ?_⟩
  have el : (intsV l).length = l.length := by unfold intsV; rw [List.length_map]
  refine lc_bools walk_list (atB (fun k => decide (k ∈ m)) l) (by rw [el, sizeLine_eq]; omega) hD (fun H' e => e.er.l hp) ?_ ?_
  · rintro i x H2 H3 Q2 hi e2 ⟨rfl, hx⟩ z
    unfold intsV at hx
    rw [List.getElem?_map] at hx
    cases e : l[i]? with
    | none => rw [e] at hx; cases hx
    | some k =>
      rw [e] at hx
      obtain rfl := Option.some.inj hx
      rw [atB_some e] at z
      refine ⟨rfl, _, rfl, _, rfl, q, _, rfl, .inl (e2.er.l hq), rfl, flat_ints m, ?_⟩
      show Q2 (.bl (inV (.int (k : Nat)) (intsV m))) _
      rw [inV_ints]
      exact z _ (Ex.refl _)
  · intro H5 h5 e5
    refine ⟨D, _, rfl, SqL.of h5, ?_⟩
    rw [el, all_at]
    exact k H5 e5
theorem c_law_all_in (W : Wld K mg) : Cal P w K mg base 1 "_law_all_in" ["lot", "other"] (spIn K) := by
  obtain ⟨fd, F⟩ := W.c.def_ 43 rfl
  exact ⟨⟨fd, ok_law_all_in W F, F.bindsN fun _ _ _ _ _ _ us hl => match us, hl with | [_, _], _ => rfl⟩, W.g_law_all_in, F.kp⟩
/-- right names so far -/
def spNames (K : PySem.W.Frag) : Sp := fun vs H Q _ => ∃ (p : Addr) (l : List Str), vs = [.ref p] ∧ SqL K H p (strsV l) ∧ l ≠ [] ∧ l.length < 1000000 ∧ l.Nodup ∧ (∀ x ∈ l, WordOk x) ∧ ∀ H', Ex H H' → Q .non H'
theorem sc_wrong_names : FnScope ["names", "index", "name"] ["names"] (defScope s_wrong_names) := ⟨rfl, rfl, rfl, by decide +kernel, rfl, by decide +kernel, by decide +kernel⟩
theorem ok_wrong_names (W : Wld K mg) (F : FnP K "wrong_names" s_wrong_names f fd) : FnOk P w K mg base CX0 4 f fd ["names"] (spNames K) := by
  have Cis_list : Cal P w K mg base 1 "is_list" ["thing"] (sp1 K isSeq) := cis_list W
  have Cis_word : Cal P w K mg base 3 "is_word" ["thing"] (spYes WordOk) := cis_word W
  refine F.ok sc_wrong_names (fun vs H Q E h => ?_) (fun cdv A outer s H vs Q E hr h => ?_)
  · obtain ⟨p, l, rfl, _⟩ := h
    rfl
  obtain ⟨p, l, rfl, hp, h0, hl, hn, hw, k⟩ := h
  refine ⟨_, PSs.nox (pss_cons (ps_if (PW.pt (pw_or (pt_not (pt_val (pe_c Cis_list (hr.mono (by decide)) (pa_cons (pv 0) pa_nil)))) (pw_or1 (pt_cmpR op_eq (pe_callB call_len_seq (by rfl) W.n_len (by decide +kernel) (pa_cons (pv 0) pa_nil)) pe_int (nomark _)))))
    (pss_one (ps_ret pe_int))
    pss_nil)
    (pss_cons (ps_for PassesOwn.never rfl (XN.pi_enumA (by rfl) W.n_enumerate (pa_cons (pv 0) pa_nil)) (pg_tup rfl (pgs_cons (pg_name (i := 1) sc_wrong_names.nd rfl (.inl rfl)) (pgs_cons (pg_name (i := 2) sc_wrong_names.nd rfl (.inl rfl)) pgs_nil)))
    (pss_one (ps_if (PW.pt (pw_or (pt_not (pt_val (pe_c Cis_word (hr.mono (by decide)) (pa_cons (pv 2) pa_nil)))) (pw_or1 (pt_cmpR op_in_seq (pv 2) (pe_callTy call_list_of (by rfl) W.n_list (by decide +kernel) (pa_cons (pe_slice sl_list (pv 0) po_none (po_some (pv 1))) pa_nil)) (by rfl)))))
    (pss_one (ps_ret (pv 1)))
    pss_nil)))
    (pss_one (ps_ret pe_non)))), ?_⟩
  have el : (strsV l).length = l.length := by unfold strsV; rw [List.length_map]
  have hd : Den K true H (.ref p) (.lst (l.map Tr.str)) := .lst hp (dens_strs l)
  refine ⟨_, rfl, .ref p, _, rfl, hd, fun H1 e1 => ⟨_, rfl, ?_⟩⟩
  refine iteF ?_
  refine ⟨_, rfl, p, _, rfl, .inl (e1.er.l hp), rfl, _, rfl, ?_⟩
  rw [dec_i, el]
  refine ite2 (fun z => ?_) (fun _ => ?_)
  · have z := of_decide_eq_true z
    exact absurd (List.eq_nil_of_length_eq_zero (by omega)) h0
  refine ⟨_, rfl, p, rfl, walk_eitherE (.inl (e1.er.l hp)) fun J G wk hG => ?_⟩
  refine for_it wk (fun i σ H' => Ex H1 H' ∧ ∃ o1 o2, σ = [some (.ref p), o1, o2]) ⟨Ex.refl _, _, _, rfl⟩ (fun i σ H' _ h => hG H' h.1) ?_ ?_
  · rintro i u σ H2 H3 hi ⟨e2, o1, o2, rfl⟩ ⟨T, a, b, rfl, hT, rfl, ha, hb⟩
    obtain rfl := Option.some.inj ha
    obtain ⟨x, hx, rfl⟩ := strs_get hb
    have e3 := e2.new (o := .tup [.int (i : Nat), .str x]) hT
    refine ⟨T, _, rfl, SqT.of upd_same, rfl, _, _, rfl, _, _, rfl, rfl, ?_⟩
    generalize upd H2 T (.tup [.int (i : Nat), .str x]) = H3 at e3 ⊢
    refine ⟨_, rfl, x, rfl, hw x (List.mem_of_getElem? hx), fun H4 e4 => ⟨_, rfl, iteF ?_⟩⟩
    have e14 := e3.trans e4
    refine ⟨_, rfl, _, rfl, _, rfl, i, rfl, p, _, rfl, (e1.trans e14).er.l hp, fun a ha => ?_⟩
    rw [cutV_take]
    have e5 := e14.new (o := .lst ((strsV l).take i)) ha
    refine ⟨a, _, rfl, .inl (SqL.of upd_same), fun b hb => ?_⟩
    have e6 := e5.new (o := .lst ((strsV l).take i)) hb
    have et : (strsV l).take i = strsV (l.take i) := by unfold strsV; rw [List.map_take]
    refine ⟨b, _, rfl, .inl (SqL.of upd_same), rfl, (by rw [et]; exact flat_strs _), ?_⟩
    rw [et]
    show ∃ c, V.bl (inV (.str x) (strsV (l.take i))) = _ ∧ _
    rw [inV_strs]
    have nx : x ∉ l.take i := not_take hn hx
    rw [decide_eq_false nx]
    refine ⟨_, rfl, iteF ?_⟩
    rw [et] at e6
    exact ⟨e6, _, _, rfl⟩
  · rintro σ H2 ⟨e2, o1, o2, rfl⟩
    exact k H2 (e1.trans e2)
theorem cwrong_names (W : Wld K mg) : Cal P w K mg base 4 "wrong_names" ["names"] (spNames K) := by
  obtain ⟨fd, F⟩ := W.c.def_ 11 rfl
  exact ⟨⟨fd, ok_wrong_names W F, F.bindsN fun _ _ _ _ _ _ us hl => match us, hl with | [_], _ => rfl⟩, W.g_wrong_names, F.kp⟩
/-- names of a machine: words that begin with no bit -/
def NameOk (x : Str) : Prop := WordOk x ∧ Txt.startswith x "bit" = false
def spOwn (K : PySem.W.Frag) : Sp := fun vs H Q _ => ∃ (p q : Addr) (l m : List Str), vs = [.ref p, .ref q] ∧ SqL K H p (strsV l) ∧ SqL K H q (strsV m) ∧ l ≠ [] ∧ l.length < 100000 ∧ l.Nodup ∧ (∀ x ∈ l, NameOk x ∧ x ∉ m) ∧ ∀ H', Ex H H' → Q .non H'
theorem sc_wrong_own : FnScope ["names", "taken", "index", "name"] ["names", "taken"] (defScope s_wrong_own) := ⟨rfl, rfl, rfl, by decide +kernel, rfl, by decide +kernel, by decide +kernel⟩
theorem ok_wrong_own (W : Wld K mg) (F : FnP K "wrong_own" s_wrong_own f fd) : FnOk P w K mg base CX0 5 f fd ["names", "taken"] (spOwn K) := by
  have Cis_list : Cal P w K mg base 1 "is_list" ["thing"] (sp1 K isSeq) := cis_list W
  have Cwrong_names : Cal P w K mg base 4 "wrong_names" ["names"] (spNames K) := cwrong_names W
  refine F.ok sc_wrong_own (fun vs H Q E h => ?_) (fun cdv A outer s H vs Q E hr h => ?_)
  · obtain ⟨p, q, l, m, rfl, _⟩ := h
    rfl
  obtain ⟨p, q, l, m, rfl, hp, hq, h0, hl, hn, hw, k⟩ := h
  refine ⟨_, PSs.nox (pss_cons (ps_if (PW.pt (pw_or (pt_not (pt_val (pe_c Cis_list (hr.mono (by decide)) (pa_cons (pv 0) pa_nil)))) (pw_or1 (pt_cmpR op_eq (pe_callB call_len_seq (by rfl) W.n_len (by decide +kernel) (pa_cons (pv 0) pa_nil)) pe_int (nomark _)))))
    (pss_one (ps_ret pe_int))
    pss_nil)
    (pss_cons (ps_for PassesOwn.never rfl (XN.pi_enumA (by rfl) W.n_enumerate (pa_cons (pv 0) pa_nil)) (pg_tup rfl (pgs_cons (pg_name (i := 2) sc_wrong_own.nd rfl (.inl rfl)) (pgs_cons (pg_name (i := 3) sc_wrong_own.nd rfl (.inl rfl)) pgs_nil)))
    (pss_one (ps_if (PW.pt (pw_or (pt_cmpR op_notN (pe_c Cwrong_names (hr.mono (by decide)) (pa_cons (pe_op op_cat (pe_callTy call_list_of (by rfl) W.n_list (by decide +kernel) (pa_cons (pe_slice sl_list (pv 0) po_none (po_some (pv 2))) pa_nil)) (pe_lst (pa_cons (pv 3) pa_nil))) pa_nil)) pe_non (nomark _)) (pw_or (pt_val (pe_bm PySem.F.plainAttrs_str PySem.F.slot_str_startswith PySem.F.type_str_startswith mt_startswith (pv 3) (pa_cons pe_str pa_nil))) (pw_or1 (pt_cmpR op_in_seq (pv 3) (pv 1) (by rfl))))))
    (pss_one (ps_ret (pv 2)))
    pss_nil)))
    (pss_one (ps_ret pe_non)))), ?_⟩
  have el : (strsV l).length = l.length := by unfold strsV; rw [List.length_map]
  have hd : Den K true H (.ref p) (.lst (l.map Tr.str)) := .lst hp (dens_strs l)
  refine ⟨_, rfl, .ref p, _, rfl, hd, fun H1 e1 => ⟨_, rfl, ?_⟩⟩
  refine iteF ?_
  refine ⟨_, rfl, p, _, rfl, .inl (e1.er.l hp), rfl, _, rfl, ?_⟩
  rw [dec_i, el]
  refine ite2 (fun z => ?_) (fun _ => ?_)
  · have z := of_decide_eq_true z
    exact absurd (List.eq_nil_of_length_eq_zero (by omega)) h0
  refine ⟨_, rfl, p, rfl, walk_eitherE (.inl (e1.er.l hp)) fun J G wk hG => ?_⟩
  refine for_it wk (fun i σ H' => Ex H1 H' ∧ ∃ o1 o2, σ = [some (.ref p), some (.ref q), o1, o2]) ⟨Ex.refl _, _, _, rfl⟩ (fun i σ H' _ h => hG H' h.1) ?_ ?_
  · rintro i u σ H2 H3 hi ⟨e2, o1, o2, rfl⟩ ⟨T, a, b, rfl, hT, rfl, ha, hb⟩
    obtain rfl := Option.some.inj ha
    obtain ⟨x, hx, rfl⟩ := strs_get hb
    have hi2 : i < l.length := (List.getElem?_eq_some_iff.mp hx).1
    have e3 := e2.new (o := .tup [.int (i : Nat), .str x]) hT
    refine ⟨T, _, rfl, SqT.of upd_same, rfl, _, _, rfl, _, _, rfl, rfl, ?_⟩
    generalize upd H2 T (.tup [.int (i : Nat), .str x]) = H3 at e3 ⊢
    obtain ⟨hx1, hx2⟩ := hw x (List.mem_of_getElem? hx)
    have et : (strsV l).take i = strsV (l.take i) := by unfold strsV; rw [List.map_take]
    refine ⟨_, rfl, _, rfl, i, rfl, p, _, rfl, (e1.trans e3).er.l hp, fun a ha => ?_⟩
    rw [cutV_take, et]
    have e4 := e3.new (o := .lst (strsV (l.take i))) ha
    refine ⟨a, _, rfl, .inl (SqL.of upd_same), fun b hb => ?_⟩
    have e5 := e4.new (o := .lst (strsV (l.take i))) hb
    have h5 : upd (upd H3 a (.lst (strsV (l.take i)))) b (.lst (strsV (l.take i))) b = some (.lst (strsV (l.take i))) := upd_same
    generalize upd (upd H3 a (.lst (strsV (l.take i)))) b (.lst (strsV (l.take i))) = H5 at e5 h5 ⊢
    refine ⟨_, rfl, by show 1 ≤ sizeLine; decide, fun c hc => ?_⟩
    have nbc : b ≠ c := ne_of_none h5 hc
    have e6 := e5.new (o := .lst [.str x]) hc
    refine ⟨b, c, _, _, rfl, rfl, by rw [upd_ne nbc]; exact h5, upd_same, ?_, fun d hd => ?_⟩
    · unfold strsV
      rw [List.length_map, List.length_take, sizeLine_eq]
      show min i l.length + 1 ≤ _
      omega
    have e7 := e6.new (o := .lst (strsV (l.take i) ++ [.str x])) hd
    have ex : strsV (l.take i) ++ [.str x] = strsV (l.take (i + 1)) := by
      unfold strsV
      rw [List.take_add_one, hx]
      simp
    have h7 : upd (upd H5 c (.lst [.str x])) d (.lst (strsV (l.take i) ++ [.str x])) d = some (.lst (strsV (l.take (i + 1)))) := by
      rw [upd_same, ex]
    generalize upd (upd H5 c (.lst [.str x])) d (.lst (strsV (l.take i) ++ [.str x])) = H7 at e7 h7 ⊢
    refine ⟨d, l.take (i + 1), rfl, SqL.of h7, ?_, ?_, hn.sublist (List.take_sublist _ _), fun y hy => (hw y (List.mem_of_mem_take hy)).1.1, fun H8 e8 => ?_⟩
    · intro z
      have := congrArg List.length z
      rw [List.length_take, List.length_nil] at this
      omega
    · rw [List.length_take]
      omega
    have e18 := e7.trans e8
    refine ⟨rfl, _, rfl, iteF ?_⟩
    refine ⟨_, rfl, rfl, _, _, rfl, rfl, _, rfl, ?_⟩
    rw [hx1.2]
    refine iteF ?_
    refine ⟨_, rfl, _, rfl, q, _, rfl, .inl ((e1.trans e18).er.l hq), rfl, flat_strs m, ?_⟩
    show ∃ c, V.bl (inV (.str x) (strsV m)) = _ ∧ _
    rw [inV_strs, decide_eq_false hx2]
    exact ⟨_, rfl, iteF ⟨e18, _, _, rfl⟩⟩
  · rintro σ H2 ⟨e2, o1, o2, rfl⟩
    exact k H2 (e1.trans e2)
theorem cwrong_own (W : Wld K mg) : Cal P w K mg base 5 "wrong_own" ["names", "taken"] (spOwn K) := by
  obtain ⟨fd, F⟩ := W.c.def_ 12 rfl
  exact ⟨⟨fd, ok_wrong_own W F, F.bindsN fun _ _ _ _ _ _ us hl => match us, hl with | [_, _], _ => rfl⟩, W.g_wrong_own, F.kp⟩
end
end K77

set_option Elab.async false
set_option linter.all false
set_option maxRecDepth 100000
set_option maxHeartbeats 400000
namespace K77
open PySem PySem.Spec PyProof.Rows L2 DL
/-! ### states: a name, a cell, lights -/
abbrev St3 : Type := Str × Str × Str
def stT (s : St3) : Tr := .tup [.str s.1, .str s.2.1, .str s.2.2]
def stV (s : St3) : List V := [.str s.1, .str s.2.1, .str s.2.2]
theorem den_st {K : PySem.W.Frag} {b : Bool} {H : Hp} {v : V} {s : St3} (h : Den K b H v (stT s)) : ∃ t, v = .ref t ∧ SqT K H t (stV s) := by
  unfold stT at h
  cases h with
  | tup h1 h2 =>
    cases h2 with
    | cons a r =>
      cases r with
      | cons b r =>
        cases r with
        | cons c r =>
          cases r
          cases a
          cases b
          cases c
          exact ⟨_, rfl, h1⟩
theorem den_stI {K : PySem.W.Frag} {b : Bool} {H : Hp} {t : Addr} {s : St3} (h : SqT K H t (stV s)) : Den K b H (.ref t) (stT s) := .tup h (.cons (.str _) (.cons (.str _) (.cons (.str _) .nil)))
theorem dens_st {K : PySem.W.Frag} {b : Bool} {H : Hp} {ys : List V} {l : List St3} {i : Nat} {v : V} (h : Dens K b H ys (l.map stT)) (e : ys[i]? = some v) : ∃ s, l[i]? = some s ∧ Den K b H v (stT s) := by
  obtain ⟨d, h1, h2⟩ := h.get e
  rw [List.getElem?_map] at h1
  cases q : l[i]? with
  | none => rw [q] at h1; cases h1
  | some s =>
    rw [q] at h1
    obtain rfl := Option.some.inj h1
    exact ⟨s, rfl, h2⟩
theorem dens_take {K : PySem.W.Frag} {b : Bool} {H : Hp} : ∀ {ys : List V} {ds : List Tr} (i : Nat), Dens K b H ys ds → Dens K b H (ys.take i) (ds.take i)
  | _, _, 0, _ => by rw [List.take_zero, List.take_zero]; exact .nil
  | _, _, i + 1, .nil => .nil
  | _, _, i + 1, .cons a r => .cons a (dens_take i r)
section
variable {P : Program} {w : World} {K : PySem.W.Frag} {mg : Str → Option Value} {base : Heap} {f : Addr} {fd : FuncData}
/-- a state behind others -/
def StOk (nl nm : Nat) (pre : List St3) (s : St3) : Prop := WordOk s.1 ∧ s.1 ∉ pre.map (·.1) ∧ (AllIn "01" s.2.1 ∧ s.2.1.length = nl) ∧ (AllIn "01" s.2.2 ∧ s.2.2.length = nm)
def spWS (K : PySem.W.Frag) : Sp := fun vs H Q _ => ∃ (nl nm : Nat) (p : Addr) (v : V) (ys : List V) (pre : List St3) (s : St3), vs = [.int nl, .int nm, .ref p, v] ∧ SqL K H p ys ∧ Dens K true H ys (pre.map stT) ∧ Den K true H v (stT s) ∧ pre.length < 100000 ∧ StOk nl nm pre s ∧ ∀ H', Ex H H' → Q (.bl false) H'
theorem sc_wrong_state : FnScope ["levers", "lamps", "states", "thing", "state"] ["levers", "lamps", "states", "thing"] (defScope s_wrong_state) := ⟨rfl, rfl, rfl, by decide +kernel, rfl, by decide +kernel, by decide +kernel⟩
theorem ok_wrong_state (W : Wld K mg) (F : FnP K "wrong_state" s_wrong_state f fd) : FnOk P w K mg base CX0 5 f fd ["levers", "lamps", "states", "thing"] (spWS K) := by
  have Cis_row : Cal P w K mg base 2 "is_row" ["thing", "many"] (spRow K) := cis_row W
  have Cis_word : Cal P w K mg base 3 "is_word" ["thing"] (spYes WordOk) := cis_word W
  have Cis_long : Cal P w K mg base 4 "is_long" ["thing", "many"] spLong := cis_long W
  refine F.ok sc_wrong_state (fun vs H Q E h => ?_) (fun cdv A outer s H vs Q E hr h => ?_)
  · obtain ⟨nl, nm, p, v, ys, pre, s, rfl, _⟩ := h
    rfl
  obtain ⟨nl, nm, p, v, ys, pre, s, rfl, hp, hds, hv, hl, ⟨h1, h2, ⟨h3, rfl⟩, h4, rfl⟩, k⟩ := h
  refine ⟨_, PSs.nox (pss_cons (ps_if (PW.pt (pw_or (pt_not (pt_val (pe_c Cis_row (hr.mono (by decide)) (pa_cons (pv 3) (pa_cons pe_int pa_nil))))) (pw_or (pt_not (pt_val (pe_c Cis_word (hr.mono (by decide)) (pa_cons (pe_ix ix_tup (pv 3) pe_int (fun _ _ => rfl)) pa_nil)))) (pw_or1 (pt_cmpR op_in_seq (pe_ix ix_tup (pv 3) pe_int (fun _ _ => rfl)) (pe_lc (own := [("state", 4)]) (g := gName 4) (tt := tYes) (te := (tOp (rIxT K) (tVar 4) (tC (.int 0)))) rfl sc_wrong_state.nd (pi_list (pv 2)) (blkOk_by (N := ["levers", "lamps", "states", "thing", "state"]) (sc := defScope s_wrong_state) (by decide +kernel)) (fun _ _ _ _ _ => pg_name (i := 4) sc_wrong_state.nd rfl (Or.inl rfl)) (fun _ _ _ _ _ => pts_nil) (fun _ _ _ _ _ => (pe_ix ix_tup (pv 4) pe_int (fun _ _ => rfl)))) (by rfl))))))
    (pss_one (ps_ret pe_bl))
    pss_nil)
    (pss_one (ps_ret (pe_or (pe_not (pe_c Cis_long (hr.mono (by decide)) (pa_cons (pe_ix ix_tup (pv 3) pe_int (fun _ _ => rfl)) (pa_cons (pv 0) pa_nil)))) (pe_one (pe_not (pe_c Cis_long (hr.mono (by decide)) (pa_cons (pe_ix ix_tup (pv 3) pe_int (fun _ _ => rfl)) (pa_cons (pv 1) pa_nil))))))))), ?_⟩
  refine ⟨_, rfl, v, _, 3, rfl, hv, fun H1 e1 => ⟨_, rfl, iteF ?_⟩⟩
  obtain ⟨t, rfl, ht⟩ := den_st hv
  refine ⟨_, rfl, t, _, 0, _, rfl, rfl, e1.er.t ht, rfl, s.1, rfl, h1, fun H2 e2 => ⟨_, rfl, iteF ?_⟩⟩
  have e02 := e1.trans e2
  have yl : ys.length = pre.length := by rw [hds.length, List.length_map]
  refine ⟨_, rfl, t, _, 0, _, rfl, rfl, e02.er.t ht, rfl, _, rfl, p, rfl, ⟨_, e02.er.l hp⟩, fun D hD => ?_⟩
  refine lc_map walk_list (fun i z _ => ∃ q, pre[i]? = some q ∧ z = .str q.1) (by rw [yl, sizeLine_eq]; omega) hD (fun H' e => (e02.trans e).er.l hp) (fun _ _ _ _ q _ => q) ?_ ?_
  · rintro i x H3 H4 Q2 hi e3 ⟨rfl, hx⟩ q
    obtain ⟨z, hz, dz⟩ := dens_st hds hx
    obtain ⟨u, rfl, hu⟩ := den_st dz
    exact ⟨rfl, _, rfl, u, _, 0, _, rfl, rfl, (e02.trans e3).er.t hu, rfl, q _ _ (Ex.refl _) ⟨z, hz, rfl⟩⟩
  · intro H3 zs hzs hlen e3 hR
    have ez : zs = strsV (pre.map (·.1)) := by
      refine List.ext_getElem? fun i => ?_
      by_cases hi : i < zs.length
      · obtain ⟨q, q1, q2⟩ := hR i _ (List.getElem?_eq_getElem hi)
        rw [List.getElem?_eq_getElem hi, q2]
        unfold strsV
        rw [List.getElem?_map, List.getElem?_map, q1]
        rfl
      · rw [List.getElem?_eq_none (by omega), List.getElem?_eq_none (by unfold strsV; rw [List.length_map, List.length_map]; omega)]
    rw [ez] at hzs
    refine ⟨D, _, rfl, .inl (SqL.of hzs), rfl, flat_strs _, ?_⟩
    show ∃ c, V.bl (inV (.str s.1) (strsV (pre.map (·.1)))) = _ ∧ _
    rw [inV_strs, decide_eq_false h2]
    have e03 := e02.trans e3
    refine ⟨_, rfl, iteF ?_⟩
    refine ⟨_, rfl, t, _, 1, _, rfl, rfl, e03.er.t ht, rfl, _, rfl, s.2.1, rfl, h3, fun H5 e5 => ⟨_, rfl, _, rfl, iteF ?_⟩⟩
    have e05 := e03.trans e5
    refine ⟨_, rfl, t, _, 2, _, rfl, rfl, e05.er.t ht, rfl, _, rfl, s.2.2, rfl, h4, fun H6 e6 => ⟨_, rfl, k _ (e05.trans e6)⟩⟩
theorem cwrong_state (W : Wld K mg) : Cal P w K mg base 5 "wrong_state" ["levers", "lamps", "states", "thing"] (spWS K) := by
  obtain ⟨fd, F⟩ := W.c.def_ 14 rfl
  exact ⟨⟨fd, ok_wrong_state W F, F.bindsN fun _ _ _ _ _ _ us hl => match us, hl with | [_, _, _, _], _ => rfl⟩, W.g_wrong_state, F.kp⟩
def StsOk (nl nm : Nat) (l : List St3) : Prop := ∀ i s, l[i]? = some s → StOk nl nm (l.take i) s
def spWSs (K : PySem.W.Frag) : Sp := fun vs H Q _ => ∃ (nl nm : Nat) (p : Addr) (ys : List V) (l : List St3), vs = [.int nl, .int nm, .ref p] ∧ SqL K H p ys ∧ Dens K true H ys (l.map stT) ∧ l ≠ [] ∧ l.length < 100000 ∧ StsOk nl nm l ∧ ∀ H', Ex H H' → Q .non H'
theorem sc_wrong_states : FnScope ["levers", "lamps", "states", "index", "state"] ["levers", "lamps", "states"] (defScope s_wrong_states) := ⟨rfl, rfl, rfl, by decide +kernel, rfl, by decide +kernel, by decide +kernel⟩
theorem ok_wrong_states (W : Wld K mg) (F : FnP K "wrong_states" s_wrong_states f fd) : FnOk P w K mg base CX0 6 f fd ["levers", "lamps", "states"] (spWSs K) := by
  have Cis_list : Cal P w K mg base 1 "is_list" ["thing"] (sp1 K isSeq) := cis_list W
  have Cwrong_state : Cal P w K mg base 5 "wrong_state" ["levers", "lamps", "states", "thing"] (spWS K) := cwrong_state W
  refine F.ok sc_wrong_states (fun vs H Q E h => ?_) (fun cdv A outer s H vs Q E hr h => ?_)
  · obtain ⟨nl, nm, p, ys, l, rfl, _⟩ := h
    rfl
  obtain ⟨nl, nm, p, ys, l, rfl, hp, hds, h0, hl, hs, k⟩ := h
  refine ⟨_, PSs.nox (pss_cons (ps_if (PW.pt (pw_or (pt_not (pt_val (pe_c Cis_list (hr.mono (by decide)) (pa_cons (pv 2) pa_nil)))) (pw_or1 (pt_cmpR op_eq (pe_callB call_len_seq (by rfl) W.n_len (by decide +kernel) (pa_cons (pv 2) pa_nil)) pe_int (nomark _)))))
    (pss_one (ps_ret pe_int))
    pss_nil)
    (pss_cons (ps_for PassesOwn.never rfl (XN.pi_enumA (by rfl) W.n_enumerate (pa_cons (pv 2) pa_nil)) (pg_tup rfl (pgs_cons (pg_name (i := 3) sc_wrong_states.nd rfl (.inl rfl)) (pgs_cons (pg_name (i := 4) sc_wrong_states.nd rfl (.inl rfl)) pgs_nil)))
    (pss_one (ps_if (pt_val (pe_c Cwrong_state (hr.mono (by decide)) (pa_cons (pv 0) (pa_cons (pv 1) (pa_cons (pe_slice sl_list (pv 2) po_none (po_some (pv 3))) (pa_cons (pv 4) pa_nil))))))
    (pss_one (ps_ret (pv 3)))
    pss_nil)))
    (pss_one (ps_ret pe_non)))), ?_⟩
  have hd : Den K true H (.ref p) (.lst (l.map stT)) := .lst hp hds
  have yl : ys.length = l.length := by rw [hds.length, List.length_map]
  refine ⟨_, rfl, .ref p, _, rfl, hd, fun H1 e1 => ⟨_, rfl, ?_⟩⟩
  refine iteF ?_
  refine ⟨_, rfl, p, _, rfl, .inl (e1.er.l hp), rfl, _, rfl, ?_⟩
  rw [dec_i, yl]
  refine ite2 (fun z => ?_) (fun _ => ?_)
  · have z := of_decide_eq_true z
    exact absurd (List.eq_nil_of_length_eq_zero (by omega)) h0
  refine ⟨_, rfl, p, rfl, walk_eitherE (.inl (e1.er.l hp)) fun J G wk hG => ?_⟩
  refine for_it wk (fun i σ H' => Ex H1 H' ∧ ∃ o1 o2, σ = [some (.int nl), some (.int nm), some (.ref p), o1, o2]) ⟨Ex.refl _, _, _, rfl⟩ (fun i σ H' _ h => hG H' h.1) ?_ ?_
  · rintro i u σ H2 H3 hi ⟨e2, o1, o2, rfl⟩ ⟨T, a, b, rfl, hT, rfl, ha, hb⟩
    obtain rfl := Option.some.inj ha
    obtain ⟨x, hx, dx⟩ := dens_st hds hb
    have e3 := e2.new (o := .tup [.int (i : Nat), b]) hT
    refine ⟨T, _, rfl, SqT.of upd_same, rfl, _, _, rfl, _, _, rfl, rfl, ?_⟩
    generalize upd H2 T (.tup [.int (i : Nat), b]) = H3 at e3 ⊢
    refine ⟨_, rfl, _, rfl, _, rfl, _, rfl, i, rfl, p, _, rfl, (e1.trans e3).er.l hp, fun c hc => ?_⟩
    rw [cutV_take]
    have e4 := e3.new (o := .lst (ys.take i)) hc
    have q := (dens_take i hds).mono (e1.trans e4).kp
    rw [← List.map_take] at q
    refine ⟨_, rfl, nl, nm, c, b, ys.take i, l.take i, x, rfl, SqL.of upd_same, q, dx.mono (e1.trans e4).kp, ?_, hs i x hx, fun H5 e5 => ⟨_, rfl, iteF ⟨e4.trans e5, _, _, rfl⟩⟩⟩
    rw [List.length_take]
    omega
  · rintro σ H2 ⟨e2, o1, o2, rfl⟩
    exact k H2 (e1.trans e2)
theorem cwrong_states (W : Wld K mg) : Cal P w K mg base 6 "wrong_states" ["levers", "lamps", "states"] (spWSs K) := by
  obtain ⟨fd, F⟩ := W.c.def_ 18 rfl
  exact ⟨⟨fd, ok_wrong_states W F, F.bindsN fun _ _ _ _ _ _ us hl => match us, hl with | [_, _, _], _ => rfl⟩, W.g_wrong_states, F.kp⟩
end
end K77

set_option Elab.async false
set_option linter.all false
set_option maxRecDepth 100000
set_option maxHeartbeats 400000
namespace K77
open PySem PySem.Spec PyProof.Rows L2 DL
/-! ### moves: a name, the cell of the following, its name -/
def cellOf (l : List St3) (n : Str) : Str := ((l.find? fun s => decide (s.1 = n)).map fun s => s.2.1).getD ""
def cellsV (l : List St3) : List (Key × V) := l.map fun s => (Sum.inr s.1, V.str s.2.1)
theorem cells_keys (l : List St3) : (cellsV l).map (·.1) = l.map fun s => (Sum.inr s.1 : Key) := by
  unfold cellsV
  rw [List.map_map]
  rfl
theorem cells_nodup {l : List St3} (h : (l.map (·.1)).Nodup) : ((cellsV l).map (·.1)).Nodup := by
  rw [cells_keys]
  have e : (l.map fun s => (Sum.inr s.1 : Key)) = (l.map (·.1)).map fun x => (Sum.inr x : Key) := by rw [List.map_map]; rfl
  rw [e]
  exact List.Pairwise.map _ (fun a b hab z => hab (Sum.inr.inj z)) h
theorem cells_val {l : List St3} {n : Str} (h : (l.map (·.1)).Nodup) (hn : n ∈ l.map (·.1)) : valV (cellsV l) (Sum.inr n) = some (.str (cellOf l n)) := by
  obtain ⟨s, hs, rfl⟩ := List.mem_map.mp hn
  obtain ⟨i, hi, rfl⟩ := List.mem_iff_getElem.mp hs
  refine valV_at (i := i) (cells_nodup h) ?_
  unfold cellsV
  rw [List.getElem?_map, List.getElem?_eq_getElem hi]
  show some _ = some _
  have e : (l.find? fun s => decide (s.1 = l[i].1)) = some l[i] := by
    rw [List.find?_eq_some_iff_getElem]
    refine ⟨by simp, i, hi, rfl, fun j hj => ?_⟩
    have : l[j].1 ≠ l[i].1 := fun z => by
      have := (List.getElem_inj (i := j) (j := i) (h₀ := by rw [List.length_map]; omega) (h₁ := by rw [List.length_map]; omega) h).mp (by rw [List.getElem_map, List.getElem_map]; exact z)
      omega
    simpa using this
  unfold cellOf
  rw [e]
  rfl
/-- a move that can stand behind others -/
def MvOk (l : List St3) (pre : List St3) (m : St3) : Prop := m.1 ∈ l.map (·.1) ∧ m.2.2 ∈ l.map (·.1) ∧ m.1 ≠ m.2.2 ∧ m.2.1 = cellOf l m.2.2 ∧ m.2.1 ≠ cellOf l m.1 ∧
  ∀ q ∈ pre, q.1 = m.1 → ((chg (cellOf l m.1) m.2.1).all fun k => decide (k ∈ chg (cellOf l q.1) q.2.1)) = false ∧ ((chg (cellOf l q.1) q.2.1).all fun k => decide (k ∈ chg (cellOf l m.1) m.2.1)) = false
/-- all cells of one length -/
def LenOk (l : List St3) (nl : Nat) : Prop := nl < 100000 ∧ ∀ n ∈ l.map (·.1), (cellOf l n).length = nl
section
variable {P : Program} {w : World} {K : PySem.W.Frag} {mg : Str → Option Value} {base : Heap} {f : Addr} {fd : FuncData}
def spWM (K : PySem.W.Frag) : Sp := fun vs H Q _ => ∃ (c p : Addr) (v : V) (ys : List V) (l pre : List St3) (m : St3) (nl : Nat), vs = [.ref c, .ref p, v] ∧ H c = some (.dK (cellsV l)) ∧ SqL K H p ys ∧ Dens K true H ys (pre.map stT) ∧ Den K true H v (stT m) ∧
  (l.map (·.1)).Nodup ∧ LenOk l nl ∧ pre.length < 100000 ∧ (∀ q ∈ pre, q.1 ∈ l.map (·.1) ∧ q.2.1.length = nl) ∧ MvOk l pre m ∧ ∀ H', Ex H H' → Q (.bl false) H'
theorem chg_len (x y : Str) : (chg x y).length ≤ x.length := by
  unfold chg
  have := List.length_filter_le (fun i => decide (x.cps[i]? ≠ y.cps[i]?)) (List.range x.length)
  rw [List.length_range] at this
  exact this
theorem sc_wrong_move : FnScope ["cells", "moves", "thing", "state", "cell", "following", "mine", "name", "other", "more", "theirs", "word"] ["cells", "moves", "thing"] (defScope s_wrong_move) := ⟨rfl, rfl, rfl, by decide +kernel, rfl, by decide +kernel, by decide +kernel⟩
theorem ok_wrong_move (W : Wld K mg) (F : FnP K "wrong_move" s_wrong_move f fd) : FnOk P w K mg base CX0 3 f fd ["cells", "moves", "thing"] (spWM K) := by
  have Cis_row : Cal P w K mg base 2 "is_row" ["thing", "many"] (spRow K) := cis_row W
  have Cis_text : Cal P w K mg base 1 "is_text" ["thing"] (sp1 K isS) := cis_text W
  have Cchanged : Cal P w K mg base 1 "changed" ["cell", "other"] spChg := cchanged W
  have Cwithin : Cal P w K mg base 1 "within" ["places", "others"] (spIn K) := cwithin W
  refine F.ok sc_wrong_move (fun vs H Q E h => ?_) (fun cdv A outer s H vs Q E hr h => ?_)
  · obtain ⟨c, p, v, ys, l, pre, m, nl, rfl, _⟩ := h
    rfl
  obtain ⟨c, p, v, ys, l, pre, m, nl, rfl, hc, hp, hds, hv, hn, ⟨hnl, hlen⟩, hl, hpre, ⟨m1, m2, m3, m4, m5, m6⟩, k⟩ := h
  refine ⟨_, PSs.nox (pss_cons (ps_if (PW.pt (pw_or (pt_not (pt_val (pe_c Cis_row (hr.mono (by decide)) (pa_cons (pv 2) (pa_cons pe_int pa_nil))))) (pw_or1 (pt_not (pt_val (pe_callB (cr_all rfl) (by rfl) W.n_all (by decide +kernel) (pa_cons (pe_lc (own := [("word", 11)]) (g := gName 11) (tt := tYes) (te := (tCall (sp1 K isS) [] E0 (tCons (tVar 11) tNil))) rfl sc_wrong_move.nd (pi_tup (pv 2)) (blkOk_by (N := ["cells", "moves", "thing", "state", "cell", "following", "mine", "name", "other", "more", "theirs", "word"]) (sc := defScope s_wrong_move) (by decide +kernel)) (fun _ _ _ _ _ => pg_name (i := 11) sc_wrong_move.nd rfl (Or.inl rfl)) (fun _ _ _ _ _ => pts_nil) (fun _ _ _ _ _ => (pe_c Cis_text (hr.mono (by decide)) (pa_cons (pv 11) pa_nil)))) pa_nil)))))))
    (pss_one (ps_ret pe_bl))
    pss_nil)
    (pss_cons (ps_asg (pv 2) (pg_tup rfl (pgs_cons (pg_name (i := 3) sc_wrong_move.nd rfl (.inl rfl)) (pgs_cons (pg_name (i := 4) sc_wrong_move.nd rfl (.inl rfl)) (pgs_cons (pg_name (i := 5) sc_wrong_move.nd rfl (.inl rfl)) pgs_nil)))))
    (pss_cons (ps_if (PW.pt (pw_or (pt_cmp (pc_dnotin (hu_of hr) (pv 3) (pv 0)) (by rfl)) (pw_or (pt_cmp (pc_dnotin (hu_of hr) (pv 5) (pv 0)) (by rfl)) (pw_or1 (pt_cmpR op_eq (pv 3) (pv 5) (nomark _))))))
    (pss_one (ps_ret pe_bl))
    pss_nil)
    (pss_cons (ps_if (PW.pt (pw_or (pt_cmpR op_ne (pv 4) (pe_dget (hu_of hr) (pv 0) (pv 5) (fun _ _ => rfl)) (nomark _)) (pw_or1 (pt_cmpR op_eq (pv 4) (pe_dget (hu_of hr) (pv 0) (pv 3) (fun _ _ => rfl)) (nomark _)))))
    (pss_one (ps_ret pe_bl))
    pss_nil)
    (pss_cons (ps_set (i := 6) sc_wrong_move.nd rfl (.inl rfl) (pe_c Cchanged (hr.mono (by decide)) (pa_cons (pe_dget (hu_of hr) (pv 0) (pv 3) (fun _ _ => rfl)) (pa_cons (pv 4) pa_nil))))
    (pss_cons (ps_for PassesOwn.never rfl (pi_list (pv 1)) (pg_tup rfl (pgs_cons (pg_name (i := 7) sc_wrong_move.nd rfl (.inl rfl)) (pgs_cons (pg_name (i := 8) sc_wrong_move.nd rfl (.inl rfl)) (pgs_cons (pg_name (i := 9) sc_wrong_move.nd rfl (.inl rfl)) pgs_nil))))
    (pss_cons (ps_set (i := 10) sc_wrong_move.nd rfl (.inl rfl) (pe_c Cchanged (hr.mono (by decide)) (pa_cons (pe_dget (hu_of hr) (pv 0) (pv 7) (fun _ _ => rfl)) (pa_cons (pv 8) pa_nil))))
    (pss_one (ps_if (PW.pt (pw_and (pt_cmpR op_eq (pv 7) (pv 3) (nomark _)) (pw_and1 (PW.pt (pw_or (pt_val (pe_c Cwithin (hr.mono (by decide)) (pa_cons (pv 6) (pa_cons (pv 10) pa_nil)))) (pw_or1 (pt_val (pe_c Cwithin (hr.mono (by decide)) (pa_cons (pv 10) (pa_cons (pv 6) pa_nil))))))))))
    (pss_one (ps_ret pe_bl))
    pss_nil))))
    (pss_one (ps_ret pe_bl)))))))), ?_⟩
  refine ⟨_, rfl, v, _, 3, rfl, hv, fun H1 e1 => ⟨_, rfl, iteF ?_⟩⟩
  obtain ⟨t, rfl, ht⟩ := den_st hv
  have yl : ys.length = pre.length := by rw [hds.length, List.length_map]
  refine ⟨_, rfl, t, rfl, ⟨_, e1.er.t ht⟩, fun D hD => ?_⟩
  refine lc_bools walk_tup (fun _ => true) (by show 3 < sizeLine; rw [sizeLine_eq]; decide) hD (fun H' e => (e1.trans e).er.t ht) ?_ ?_
  · rintro i x H2 H3 Q2 hi e2 ⟨rfl, hx⟩ q
    have hs : ∃ z, x = .str z := by
      match i, hx with
      | 0, hx => exact ⟨_, (Option.some.inj hx).symm⟩
      | 1, hx => exact ⟨_, (Option.some.inj hx).symm⟩
      | 2, hx => exact ⟨_, (Option.some.inj hx).symm⟩
    obtain ⟨z, rfl⟩ := hs
    exact ⟨rfl, _, rfl, .str z, .str z, rfl, .str z, fun H4 e4 => q H4 e4⟩
  intro H2 h2 e2
  refine ⟨D, _, rfl, SqL.of h2, _, rfl, ?_⟩
  rw [all_true]
  refine iteF ?_
  have e02 := e1.trans e2
  refine ⟨_, rfl, t, _, rfl, e02.er.t ht, rfl, _, _, rfl, _, _, rfl, _, _, rfl, rfl, ?_⟩
  have hc2 := e02 _ _ hc
  have g1 : DGet H2 c (.str m.1) (some (.str (cellOf l m.1))) := by
    have z := DGet.k (k := Sum.inr m.1) hc2
    rw [cells_val hn m1] at z
    exact z
  have g2 : DGet H2 c (.str m.2.2) (some (.str (cellOf l m.2.2))) := by
    have z := DGet.k (k := Sum.inr m.2.2) hc2
    rw [cells_val hn m2] at z
    exact z
  refine ⟨_, rfl, _, rfl, c, _, rfl, g1, _, rfl, iteF ?_⟩
  refine ⟨_, rfl, _, rfl, c, _, rfl, g2, _, rfl, iteF ?_⟩
  refine ⟨_, rfl, _, rfl, rfl, _, rfl, ?_⟩
  rw [dec_s, decide_eq_false m3]
  refine iteF ?_
  refine ⟨_, rfl, _, rfl, _, rfl, c, _, rfl, g2, rfl, _, rfl, ?_⟩
  rw [dec_s, decide_eq_true m4]
  refine iteF ?_
  refine ⟨_, rfl, _, rfl, _, rfl, c, _, rfl, g1, rfl, _, rfl, ?_⟩
  rw [dec_s, decide_eq_false m5]
  refine iteF ?_
  have lm : (cellOf l m.1).length = nl := hlen _ m1
  have lm2 : m.2.1.length = nl := by rw [m4]; exact hlen _ m2
  refine ⟨_, rfl, _, rfl, c, _, rfl, g1, _, rfl, _, _, rfl, by rw [lm, lm2], by rw [lm]; omega, fun M H3 e3 n3 h3 => ?_⟩
  have e03 := e02.trans e3
  refine ⟨_, rfl, p, rfl, ⟨_, e03.er.l hp⟩, ?_⟩
  refine for_it walk_list (fun i σ H' => Ex H3 H' ∧ ∃ o7 o8 o9 o10, σ = [some (.ref c), some (.ref p), some (.ref t), some (.str m.1), some (.str m.2.1), some (.str m.2.2), some (.ref M), o7, o8, o9, o10, none]) ⟨Ex.refl _, _, _, _, _, rfl⟩ (fun i σ H' _ h => (e03.trans h.1).er.l hp) ?_ ?_
  · rintro i x σ H4 H5 hi ⟨e4, o7, o8, o9, o10, rfl⟩ ⟨rfl, hx⟩
    obtain ⟨q, hq, dq⟩ := dens_st hds hx
    obtain ⟨u, rfl, hu⟩ := den_st dq
    have hqm := List.mem_of_getElem? hq
    obtain ⟨q1, q2⟩ := hpre q hqm
    have e05 := e03.trans e4
    refine ⟨u, _, rfl, e05.er.t hu, rfl, _, _, rfl, _, _, rfl, _, _, rfl, rfl, ?_⟩
    have g3 : DGet H5 c (.str q.1) (some (.str (cellOf l q.1))) := by
      have z := DGet.k (k := Sum.inr q.1) (e05 _ _ hc)
      rw [cells_val hn q1] at z
      exact z
    have lq : (cellOf l q.1).length = nl := hlen _ q1
    refine ⟨_, rfl, _, rfl, c, _, rfl, g3, _, rfl, _, _, rfl, by rw [lq, q2], by rw [lq]; omega, fun T H6 e6 n6 h6 => ?_⟩
    have e46 := e4.trans e6
    refine ⟨_, rfl, _, rfl, rfl, _, rfl, ?_⟩
    rw [dec_s]
    by_cases z : q.1 = m.1
    · obtain ⟨y1, y2⟩ := m6 q hqm z
      rw [decide_eq_true z]
      refine iteT ?_
      refine ⟨_, rfl, _, rfl, M, T, _, _, rfl, SqL.of (e46 _ _ h3), SqL.of h6, Nat.lt_of_le_of_lt (chg_len _ _) (by rw [lm]; omega), fun H7 e7 => ⟨_, rfl, ?_⟩⟩
      rw [y1]
      refine iteF ?_
      refine ⟨_, rfl, _, rfl, T, M, _, _, rfl, SqL.of (e7 _ _ h6), SqL.of (e7 _ _ (e46 _ _ h3)), Nat.lt_of_le_of_lt (chg_len _ _) (by rw [lq]; omega), fun H8 e8 => ⟨_, rfl, ?_⟩⟩
      rw [y2]
      exact iteF ⟨e46.trans (e7.trans e8), _, _, _, _, rfl⟩
    · rw [decide_eq_false z]
      exact iteF ⟨e46, _, _, _, _, rfl⟩
  · rintro σ H4 ⟨e4, o7, o8, o9, o10, rfl⟩
    exact k H4 (e03.trans e4)
theorem cwrong_move (W : Wld K mg) : Cal P w K mg base 3 "wrong_move" ["cells", "moves", "thing"] (spWM K) := by
  obtain ⟨fd, F⟩ := W.c.def_ 17 rfl
  exact ⟨⟨fd, ok_wrong_move W F, F.bindsN fun _ _ _ _ _ _ us hl => match us, hl with | [_, _, _], _ => rfl⟩, W.g_wrong_move, F.kp⟩
end
end K77

set_option Elab.async false
set_option linter.all false
set_option maxRecDepth 100000
set_option maxHeartbeats 2000000
namespace XD
open PySem PySem.Spec PyProof.Rows L2
variable {X : Cx}
theorem sw_dict {kx vx : Expr} {gs : List Comprehension} {scope : Scope} {pos py : Pos} {y : Str} {l : Nat} {env : Env} (hk : env.scope.kind = .function) (hy : env.scope.names.lookup y = some .local) (hl : (py.line == pos.line) = true)
    (ha : (scope.names.any fun (n, k) => n == y && (k == .local || k == .cell)) = false) : swapsWith (.DictComp kx vx gs scope pos) (some (.Name y py)) l env = pure true := by
  have h1 : env.blockKind = .function := by
    unfold Env.blockKind
    rw [hk] <;> rfl
  have h2 : env.kindOf y = some .local := hy
  unfold swapsWith
  simp only [h1, h2, ha, Expr.pos, hl] <;> rfl
/-- name = {k: v for ..} on one line, the name a local -/
theorem ps_setDc {i : Nat} {y : Str} {py : Pos} {kx vx tg iter : Expr} {ifs : List Expr} {scope : Scope} {own : List (Str × Nat)} {pos spos : Pos} {wi : TI} {g : TG} {tt : TT} {tk tv : TE} (hc : X.calm = true) (hN : X.N.Nodup) (hy : X.N[i]? = some y) (hyl : X.env.scope.names.lookup y = some .local)
    (hsw : swapsWith (.DictComp kx vx [⟨tg, iter, ifs, 0⟩] scope pos) (some (.Name y py)) spos.line X.env = pure true) (hi : PI X tg iter wi) (ok : BlkOk X.N X.env.scope scope own)
    (hg : ∀ (s : Shared) (H : Hp) (C : Addr) (cl : List (Str × Addr)) (fp : List Addr), PG (X.blk s H scope (compEnvC scope cl C X.env) fp) tg g)
    (ht : ∀ (s : Shared) (H : Hp) (C : Addr) (cl : List (Str × Addr)) (fp : List Addr), PTs (X.blk s H scope (compEnvC scope cl C X.env) fp) ifs tt)
    (hk : ∀ (s : Shared) (H : Hp) (C : Addr) (cl : List (Str × Addr)) (fp : List Addr), PE (X.blk s H scope (compEnvC scope cl C X.env) fp) kx tk)
    (he : ∀ (s : Shared) (H : Hp) (C : Addr) (cl : List (Str × Addr)) (fp : List Addr), PE (X.blk s H scope (compEnvC scope cl C X.env) fp) vx tv) (hs : ∀ x, foldedSetIterable iter X.env x = pure x := by intro _; rfl) :
    PS X (.Assign [.Name y py] (.DictComp kx vx [⟨tg, iter, ifs, 0⟩] scope pos) spos) (tAsg (tDc wi g tt tk tv (own.map (·.2))) (gName i)) := by
  refine ⟨fun pins s σ H D I h => ?_⟩
  rw [exec_Assign_Name_used _ _ _ _ hsw]
  refine wpAny_bind (wpAny_standAt (wpAny_bind ?_))
  show wpAny _ X.A (do let _ ← comprehension (.DictComp kx vx [⟨tg, iter, ifs, 0⟩] scope pos) scope X.env (firstIterPos [⟨tg, iter, ifs, 0⟩] pos) newDict false (eval iter X.env) (some (assign (.Name y py) X.env))) _ _ s
  have h0 : tDc wi g tt tk tv (own.map (·.2)) σ H (fun x H1 => gName i x σ H1 D.nx) := h
  refine wpAny_bind (thn (dc_core (Qf := fun _ s' => SP X pins D .next s') hc hN I hi ok hg ht hk he hs h0 fun L C s' m H' J q hn fk => ?_) fun _ s' hq => wpAny_pure (wpAny_pure hq))
  obtain ⟨f0, f1, f2, f3, f4, f5⟩ := fk
  show wpAny _ _ (assign (.Name y py) X.env (.ref L)) _ _ _
  refine wpAny_assign_Name (store_ok2 (v := V.ref L) J hN hy (.inl hyl) rfl (fun s2 J2 hh => ?_) (.inr hyl))
  obtain ⟨a, sb, ha⟩ := hh
  have na : C ≠ a := by
    rcases ha with z | z
    · exact fun w => f1 (w.trans z)
    · exact fun w => f4 y a z w.symm
  exact ⟨m, hn.sameBut sb na, fun h3 sb3 => ⟨_, H', J2.turned (t' := s2.toks) (fun b o hb e => (sb3.2 b hb).trans e) f0 f1 f3 f4 f5, q⟩⟩
end XD

set_option Elab.async false
set_option linter.all false
set_option maxRecDepth 100000
set_option maxHeartbeats 400000
namespace K77
open PySem PySem.Spec PyProof.Rows L2 DL
/-- a dict comprehension over a walk -/
theorem dc_it {J : It} {n : Nat} {G : Hp → Prop} {Y : Nat → Hp → V → Hp → Prop} (w : Walk J n G Y) {g : TG} {tt : TT} {tk tv : TE} {vs : List Nat} {σ : L2.St} {H1 : Hp} {D : Addr} {Qd : Hp → Prop} (Pv : Nat → Hp → Prop) (h0 : Pv 0 (upd H1 D (.dK []))) (hG : ∀ i H, i ≤ n → Pv i H → G H)
    (hs : ∀ i x H H', i < n → Pv i H → Y i H x H' → g x (wipe σ vs) H' fun σ2 H2 => wipe σ2 vs = wipe σ vs ∧ tt σ2 H2 fun b H3 =>
      if b = true then tk σ2 H3 fun y H4 => tv σ2 H4 fun z H5 => ∃ kvs k, y = kV k ∧ H5 D = some (.dK kvs) ∧ kvs.length < sizeLine ∧ Pv (i + 1) (upd H5 D (.dK (putK kvs k z))) else Pv (i + 1) H3) (hd : ∀ H, Pv n H → Qd H) :
    ∃ W : Nat → Nat → Hp → Prop, (∃ m, W 0 m (upd H1 D (.dK []))) ∧ ∀ i m H, W i m H →
      (J.stop i H ∧ Qd H) ∨ (J.go i H ∧ ∃ Nx : Hp → Prop, (∀ H', Nx H' → ∃ m', m' < m ∧ W (i + 1) m' H') ∧ ∀ x H', J.yld i H x H' → g x (wipe σ vs) H' fun σ2 H2 => wipe σ2 vs = wipe σ vs ∧ tt σ2 H2 fun b H3 =>
        if b = true then tk σ2 H3 fun y H4 => tv σ2 H4 fun z H5 => ∃ kvs k, y = kV k ∧ H5 D = some (.dK kvs) ∧ kvs.length < sizeLine ∧ Nx (upd H5 D (.dK (putK kvs k z))) else Nx H3) := by
  refine ⟨fun i m H => i ≤ n ∧ m = n - i ∧ Pv i H, ⟨n, Nat.zero_le _, rfl, h0⟩, ?_⟩
  rintro i m H ⟨hi, rfl, p⟩
  have q := hG i H hi p
  by_cases lt : i < n
  · exact .inr ⟨w.goes i H lt q, Pv (i + 1), fun H' p' => ⟨n - (i + 1), by omega, lt, rfl, p'⟩, fun x H' y => hs i x H H' lt p (w.yields i H x H' lt q y)⟩
  · obtain rfl : i = n := by omega
    exact .inl ⟨w.stops H q, hd H p⟩
theorem put_cells {l : List St3} {s : St3} (h : s.1 ∉ l.map (·.1)) : putK (cellsV l) (Sum.inr s.1) (V.str s.2.1) = cellsV (l ++ [s]) := by
  unfold putK
  rw [if_neg]
  · unfold cellsV
    rw [List.map_append]
    rfl
  · intro z
    obtain ⟨kv, h1, h2⟩ := List.any_eq_true.mp z
    have h2 := of_decide_eq_true h2
    obtain ⟨t, ht, rfl⟩ := List.mem_map.mp h1
    exact h (List.mem_map.mpr ⟨t, ht, Sum.inr.inj h2⟩)
section
variable {P : Program} {w : World} {K : PySem.W.Frag} {mg : Str → Option Value} {base : Heap} {f : Addr} {fd : FuncData}
def MvsOk (l : List St3) (nl : Nat) (ms : List St3) : Prop := (∀ q ∈ ms, q.1 ∈ l.map (·.1) ∧ q.2.1.length = nl) ∧ ∀ i m, ms[i]? = some m → MvOk l (ms.take i) m
def spWMs (K : PySem.W.Frag) : Sp := fun vs H Q _ => ∃ (p q : Addr) (ys zs : List V) (l ms : List St3) (nl : Nat), vs = [.ref p, .ref q] ∧ SqL K H p ys ∧ Dens K true H ys (l.map stT) ∧ SqL K H q zs ∧ Dens K true H zs (ms.map stT) ∧
  (l.map (·.1)).Nodup ∧ LenOk l nl ∧ l.length < 100000 ∧ ms.length < 100000 ∧ MvsOk l nl ms ∧ ∀ H', Ex H H' → Q .non H'
theorem sc_wrong_moves : FnScope ["states", "moves", "cells", "index", "move", "state"] ["states", "moves"] (defScope s_wrong_moves) := ⟨rfl, rfl, rfl, by decide +kernel, rfl, by decide +kernel, by decide +kernel⟩
theorem ok_wrong_moves (W : Wld K mg) (F : FnP K "wrong_moves" s_wrong_moves f fd) : FnOk P w K mg base CX0 4 f fd ["states", "moves"] (spWMs K) := by
  have Cis_list : Cal P w K mg base 1 "is_list" ["thing"] (sp1 K isSeq) := cis_list W
  have Cwrong_move : Cal P w K mg base 3 "wrong_move" ["cells", "moves", "thing"] (spWM K) := cwrong_move W
  refine F.ok sc_wrong_moves (fun vs H Q E h => ?_) (fun cdv A outer s H vs Q E hr h => ?_)
  · obtain ⟨p, q, ys, zs, l, ms, nl, rfl, _⟩ := h
    rfl
  obtain ⟨p, q, ys, zs, l, ms, nl, rfl, hp, hds, hq, hms, hn, hlen, hl, hml, ⟨hm1, hm2⟩, k⟩ := h
  refine ⟨_, PSs.nox (pss_cons (ps_if (pt_not (pt_val (pe_c Cis_list (hr.mono (by decide)) (pa_cons (pv 1) pa_nil))))
    (pss_one (ps_ret pe_int))
    pss_nil)
    (pss_cons (XD.ps_setDc (i := 2) (own := [("state", 5)]) (g := gName 5) (tt := tYes) (tk := (tOp (rIxT K) (tVar 5) (tC (.int 0)))) (tv := (tOp (rIxT K) (tVar 5) (tC (.int 1)))) rfl sc_wrong_moves.nd rfl rfl (XD.sw_dict rfl rfl rfl (by decide +kernel)) (pi_list (pv 0)) (blkOk_by (N := ["states", "moves", "cells", "index", "move", "state"]) (sc := defScope s_wrong_moves) (by decide +kernel)) (fun _ _ _ _ _ => pg_name (i := 5) sc_wrong_moves.nd rfl (Or.inl rfl)) (fun _ _ _ _ _ => pts_nil) (fun _ _ _ _ _ => (pe_ix ix_tup (pv 5) pe_int (fun _ _ => rfl))) (fun _ _ _ _ _ => (pe_ix ix_tup (pv 5) pe_int (fun _ _ => rfl))))
    (pss_cons (ps_for PassesOwn.never rfl (XN.pi_enumA (by rfl) W.n_enumerate (pa_cons (pv 1) pa_nil)) (pg_tup rfl (pgs_cons (pg_name (i := 3) sc_wrong_moves.nd rfl (.inl rfl)) (pgs_cons (pg_name (i := 4) sc_wrong_moves.nd rfl (.inl rfl)) pgs_nil)))
    (pss_one (ps_if (pt_val (pe_c Cwrong_move (hr.mono (by decide)) (pa_cons (pv 2) (pa_cons (pe_slice sl_list (pv 1) po_none (po_some (pv 3))) (pa_cons (pv 4) pa_nil)))))
    (pss_one (ps_ret (pv 3)))
    pss_nil)))
    (pss_one (ps_ret pe_non))))), ?_⟩
  have hdq : Den K true H (.ref q) (.lst (ms.map stT)) := .lst hq hms
  have yl : ys.length = l.length := by rw [hds.length, List.length_map]
  refine ⟨_, rfl, .ref q, _, rfl, hdq, fun H1 e1 => ⟨_, rfl, ?_⟩⟩
  refine iteF ?_
  refine ⟨_, rfl, p, rfl, ⟨_, e1.er.l hp⟩, fun D hD => ?_⟩
  refine dc_it walk_list (fun i H' => Ex H1 H' ∧ H' D = some (.dK (cellsV (l.take i)))) ⟨(Ex.refl H1).new hD, upd_same⟩ (fun i H' _ h => (e1.trans h.1).er.l hp) ?_ ?_
  · rintro i x H2 H3 hi ⟨e2, h2⟩ ⟨rfl, hx⟩
    obtain ⟨z, hz, dz⟩ := dens_st hds hx
    obtain ⟨u, rfl, hu⟩ := den_st dz
    refine ⟨rfl, ?_⟩
    have hu3 := (e1.trans e2).er.t hu
    refine ⟨_, rfl, u, _, 0, _, rfl, rfl, hu3, rfl, ?_⟩
    refine ⟨_, rfl, u, _, 1, _, rfl, rfl, hu3, rfl, _, Sum.inr z.1, rfl, h2, ?_, fun b o hb => ?_, ?_⟩
    · unfold cellsV
      rw [List.length_map, List.length_take, sizeLine_eq]
      omega
    · rw [upd_ne (ne_of_none hb hD)]
      exact e2 b o hb
    · rw [upd_same, put_cells, List.take_add_one, hz]
      · rfl
      · have hz2 : (l.map (·.1))[i]? = some z.1 := by rw [List.getElem?_map, hz]; rfl
        have := not_take hn hz2
        rw [List.map_take]
        exact this
  intro H2 ⟨e2, h2⟩
  rw [yl, List.take_length] at h2
  have e02 := e1.trans e2
  refine ⟨_, rfl, q, rfl, walk_eitherE (.inl (e02.er.l hq)) fun J G wk hG => ?_⟩
  refine for_it wk (fun i σ H' => Ex H2 H' ∧ ∃ o1 o2, σ = [some (.ref p), some (.ref q), some (.ref D), o1, o2, none]) ⟨Ex.refl _, _, _, rfl⟩ (fun i σ H' _ h => hG H' h.1) ?_ ?_
  · rintro i u σ H3 H4 hi ⟨e3, o1, o2, rfl⟩ ⟨T, a, b, rfl, hT, rfl, ha, hb⟩
    obtain rfl := Option.some.inj ha
    obtain ⟨x, hx, dx⟩ := dens_st hms hb
    have e4 := e3.new (o := .tup [.int (i : Nat), b]) hT
    refine ⟨T, _, rfl, SqT.of upd_same, rfl, _, _, rfl, _, _, rfl, rfl, ?_⟩
    generalize upd H3 T (.tup [.int (i : Nat), b]) = H4 at e4 ⊢
    refine ⟨_, rfl, _, rfl, _, rfl, i, rfl, q, _, rfl, (e02.trans e4).er.l hq, fun c hc => ?_⟩
    rw [cutV_take]
    have e5 := e4.new (o := .lst (zs.take i)) hc
    have dq := (dens_take i hms).mono (e02.trans e5).kp
    rw [← List.map_take] at dq
    refine ⟨_, rfl, D, c, b, zs.take i, l, ms.take i, x, nl, rfl, e5 _ _ h2, SqL.of upd_same, dq, dx.mono (e02.trans e5).kp, hn, hlen, ?_, fun y hy => hm1 y (List.mem_of_mem_take hy), hm2 i x hx, fun H6 e6 => ⟨_, rfl, iteF ⟨e5.trans e6, _, _, rfl⟩⟩⟩
    rw [List.length_take]
    omega
  · rintro σ H3 ⟨e3, o1, o2, rfl⟩
    exact k H3 (e02.trans e3)
theorem cwrong_moves (W : Wld K mg) : Cal P w K mg base 4 "wrong_moves" ["states", "moves"] (spWMs K) := by
  obtain ⟨fd, F⟩ := W.c.def_ 19 rfl
  exact ⟨⟨fd, ok_wrong_moves W F, F.bindsN fun _ _ _ _ _ _ us hl => match us, hl with | [_, _], _ => rfl⟩, W.g_wrong_moves, F.kp⟩
end
end K77

set_option Elab.async false
set_option linter.all false
set_option maxRecDepth 100000
set_option maxHeartbeats 400000
namespace XR
open PySem PySem.Spec PyProof.Rows L2
section
variable {X : Cx} {C fI : Addr} {qual f : Str}
/-- raise C(v): what is made -/
def tMkX (C : Addr) (f : Str) (ta : TA) : L2.St → Hp → XK → Prop := fun σ H Q => ta σ H fun vs H1 => ∃ v, vs = [v] ∧ ∀ d, H1 d = none → Q (.ref C) (some d) (upd H1 d (.xd [(f, v)]))
theorem pmk_x {k : Nat} {x : Str} {a : Expr} {ta : TA} {p pos : Pos} (T : PySem.XV.XTxt X.K C fI qual f) (gC : X.mg x = some (.ref C)) (kC : PySem.W.keepIn X.K (.ref C) = true) (sb : PySem.W.subIn X.K (.ref C) (.type "BaseException") = some true) (ty : PySem.W.typeIn X.K (.ref C) = some (.type "type"))
    (hr : Room k X.A) (ha : PA X [a] ta) (hg : Gl X x := by rfl) (he : starEach (a :: []) X.env = (false, eval a X.env) :: starEach [] X.env := by rfl) (hpl : (backTo pos (starEach [] X.env)).any (·.1) = false := by rfl) (hdb : (x == ("__debug__" : Str)) = false := by decide) :
    PMk X (.Call (.Name x p) [a] [] pos) (tMkX C f ta) := by
  intro pins s σ H Q I h
  refine wpAny_Call_Name_kw (ld_glob I hg gC ?_ hdb)
  refine PySem.W.callWith_K (h₀ := X.base) I.ok.mod.kin kC (thn (PA.run ha pos pins s σ H _ I h) fun us s1 hh => ?_) he hpl
  obtain ⟨vs, H1, J1, r1, v, ev, q1⟩ := hh
  subst ev
  refine ⟨J1.kIn, ?_⟩
  cases r1 with
  | cons rv rn =>
    rename_i v' us'
    cases rn
    show wpAny _ _ (call (.ref C) [v']) _ _ _
    have lim := J1.nolimit
    obtain ⟨hp, g, dr, tk, os⟩ := s1
    refine wpAny_call (PySem.XV.x_made T .pos J1.kIn lim (by have := hr.dp; omega) fun h' tk' e d M => ?_)
    show MkP X pins σ Q (.ref e) ⟨h', g, dr, tk', os⟩
    obtain ⟨t1, ho⟩ := M.obj
    obtain ⟨G, g1, g2⟩ := restrict h' fun b => decide (b ≠ e)
    have same : ∀ b, b ≠ e → G.get? b = h'.get? b := fun b hb => g1 b (decide_eq_true hb)
    have ge : G.get? e = none := g2 e (by simp)
    have old : ∀ b o, hp.get? b = some o → G.get? b = some o := fun b o q => by
      rw [same b (Nat.ne_of_lt (Nat.lt_of_lt_of_le (Heap.lt_size q) M.ne))]
      exact M.keep b o q
    have ob : ObjOk X.prog X.w (upd H1 d (.xd [(f, v)])) G d (.xd [(f, v)]) := ⟨_, M.ns.at (fun o q => (same d M.dne).trans q), fun y => relO_one rv f y⟩
    have J : Inv X pins σ (upd H1 d (.xd [(f, v)])) ⟨G, g, dr, tk', os⟩ := J1.laid (t' := tk') old M.nd ob
    refine ⟨e, _, _, ⟨G, g, dr, tk', os⟩, _, .ref C, some d, rfl, J, fun b o q => ?_, ge, ho, ⟨rfl, rfl⟩, rfl, rfl, ?_, rfl, J1.bare, raises_own sb ty, q1 d (J1.hok.fresh M.nd)⟩
    · have nb : b ≠ e := fun z => by
        have q' : G.get? b = some o := q
        rw [z, ge] at q'
        cases q'
      exact (same b nb).symm.trans q
    · rw [upd_ne M.dne.symm]
      exact J1.hok.fresh M.ne
end
end XR

set_option Elab.async false
set_option linter.all false
set_option maxRecDepth 100000
set_option maxHeartbeats 400000
namespace K77
open PySem PySem.Spec PyProof.Rows L2 DL
/-! ### the machine -/
structure Raw where
  lev : List Str
  lam : List Str
  sts : List St3
  mvs : List St3
structure RawOk (r : Raw) : Prop where
  l0 : r.lev ≠ []
  ln : r.lev.Nodup
  lw : ∀ x ∈ r.lev, NameOk x
  ll : r.lev.length < 10000
  m0 : r.lam ≠ []
  mn : r.lam.Nodup
  mw : ∀ x ∈ r.lam, NameOk x ∧ x ∉ r.lev
  ml : r.lam.length < 10000
  s0 : r.sts ≠ []
  so : StsOk r.lev.length r.lam.length r.sts
  sn : (r.sts.map (·.1)).Nodup
  sl : r.sts.length < 10000
  le : LenOk r.sts r.lev.length
  mo : MvsOk r.sts r.lev.length r.mvs
  vl : r.mvs.length < 10000
/-- the parts of a raw machine -/
def Parts (K : PySem.W.Frag) (H : Hp) (r : Raw) (a b c d : Addr) : Prop := H a = some (.lst (strsV r.lev)) ∧ H b = some (.lst (strsV r.lam)) ∧ ∃ ys zs, H c = some (.lst ys) ∧ Dens K true H ys (r.sts.map stT) ∧ H d = some (.lst zs) ∧ Dens K true H zs (r.mvs.map stT)
theorem Parts.mono {K : PySem.W.Frag} {H H' : Hp} {r : Raw} {a b c d : Addr} (h : Parts K H r a b c d) (e : Ex H H') : Parts K H' r a b c d := by
  obtain ⟨h1, h2, ys, zs, h3, h4, h5, h6⟩ := h
  exact ⟨e _ _ h1, e _ _ h2, ys, zs, e _ _ h3, h4.mono e.kp, e _ _ h5, h6.mono e.kp⟩
def MacAt (K : PySem.W.Frag) (H : Hp) (m : Addr) (r : Raw) : Prop := ∃ dx a b c d, H m = some (.ins (He.ga K "Machine") dx [("_levers", .ref a), ("_lamps", .ref b), ("_states", .ref c), ("_moves", .ref d)]) ∧ Parts K H r a b c d
theorem MacAt.mono {K : PySem.W.Frag} {H H' : Hp} {m : Addr} {r : Raw} (h : MacAt K H m r) (e : Ex H H') : MacAt K H' m r := by
  obtain ⟨dx, a, b, c, d, h1, h2⟩ := h
  exact ⟨dx, a, b, c, d, e _ _ h1, h2.mono e⟩
theorem wo_new {H0 H : Hp} {x p : Addr} {o u : HO} (e : Ex H0 (wo x H)) (hx : H x = some u) (hp : H p = none) : Ex H0 (wo x (upd H p o)) := fun b z q => by
  obtain ⟨h1, h2⟩ := hid_some.mp (e b z q)
  exact hid_some.mpr ⟨h1, by rw [upd_ne (ne_of_none h2 hp)]; exact h2⟩
theorem wo_at {H0 H : Hp} {x : Addr} {o : HO} (e : Ex H0 (wo x H)) : Ex H0 (wo x (upd H x o)) := fun b z q => by
  obtain ⟨h1, h2⟩ := hid_some.mp (e b z q)
  exact hid_some.mpr ⟨h1, by rw [upd_ne h1]; exact h2⟩
theorem wo_go {H0 H H' : Hp} {x : Addr} (e : Ex H0 (wo x H)) (e2 : Ex H H') : Ex H0 (wo x H') := e.trans (wo_ex fun b o _ h => e2 b o h)
/-- a method of the class at C, as a caller sees it -/
structure Mtd (P : Program) (w : World) (K : PySem.W.Frag) (mg : Str → Option Value) (base : Heap) (k : Nat) (C : Addr) (m : Str) (ps : List Str) (sp : Sp) : Prop where
  ex : ∃ (f : Addr) (fd : FuncData), Cls K C ∧ Meth K C m f ∧ FnOk P w K mg base CX0 k f fd ps sp ∧ Binds K fd ps []
theorem pe_mc0 {X : Cx} {k : Nat} {C : Addr} {m : Str} {ps : List Str} {sp : Sp} {o : Expr} {ta : TE} {pos apos : Pos} {pl : Sem Bool} (M : Mtd X.prog X.w X.K X.mg X.base k C m ps sp) (hr : Room k X.A) (he : PE X o ta)
    (ht : eval (.Call (.Attribute o m apos) [] [] pos) X.env = (do
      let ov ← eval o X.env
      standAt apos.atName
      let (f, first) ← holding [ov] (getMethod ov m pl)
      callWith pos f first (backTo pos (starEach [] X.env)) (backToKw pos (keywordEach [] X.env))) := by rfl) :
    PE X (.Call (.Attribute o m apos) [] [] pos) (tMeth C m sp [] E0 ta tNil) := by
  obtain ⟨f, fd, c, h, F, b⟩ := M.ex
  exact pe_meth0 (pl := pl) he c h F hr b .nil pass0 ht
def rTupT (K : PySem.W.Frag) : List V → Hp → VK → Prop := fun xs H Q => ∃ a ys, xs = [.ref a] ∧ SqT K H a ys ∧ Q (.ref a) H
section
variable {P : Program} {w : World} {K : PySem.W.Frag} {mg : Str → Option Value} {base : Heap} {f : Addr} {fd : FuncData}
abbrev FnM (K : PySem.W.Frag) (m qual : Str) (st : Stmt) (f : Addr) (fd : FuncData) : Prop := FunD K m qual (defArgs st) (defBody st) (defScope st) [] [] f fd
def spGet_levers (K : PySem.W.Frag) : Sp := fun vs H Q _ => ∃ (x : Addr) (r : Raw), vs = [.ref x] ∧ MacAt K H x r ∧ ∀ l H', Ex H H' → H l = none → H' l = some (.lst (strsV r.lev)) → Q (.ref l) H'
theorem sc_Machine_levers : FnScope ["self"] ["self"] (defScope m_Machine_levers) := ⟨rfl, rfl, rfl, by decide +kernel, rfl, by decide +kernel, by decide +kernel⟩
theorem ok_Machine_levers (W : Wld K mg) (F : FnM K "levers" "Machine.levers" m_Machine_levers f fd) : FnOk P w K mg base CX0 1 f fd ["self"] (spGet_levers K) := by
  refine F.ok sc_Machine_levers (fun vs H Q E h => ?_) (fun cdv A outer s H vs Q E hr h => ?_)
  · obtain ⟨x, r, rfl, _⟩ := h
    rfl
  obtain ⟨x, r, rfl, ⟨dx, a, b, c, d, hx, h1, h2, ys, zs, h3, h4, h5, h6⟩, k⟩ := h
  refine ⟨_, PSs.nox (pss_one (ps_ret (pe_callTy call_list_of (by rfl) W.n_list (by decide +kernel) (pa_cons (pe_fld (pv 0) rfl) pa_nil)))), ?_⟩
  refine ⟨_, rfl, x, _, dx, _, .ref a, rfl, hx, W.c_Machine, W.na_Machine_levers, rfl, a, _, rfl, .inl (SqL.of h1), fun l hl => ?_⟩
  have e1 := fun o => (Ex.refl H).new (o := o) hl
  exact k l _ (e1 _) hl upd_same
theorem cMachine_levers (W : Wld K mg) : Mtd P w K mg base 1 (He.ga K "Machine") "levers" ["self"] (spGet_levers K) := by
  obtain ⟨fd, F⟩ := W.c.def_ d_Machine_levers rfl
  exact ⟨_, fd, W.c_Machine, W.me_Machine_levers, ok_Machine_levers W F, F.bindsN fun _ _ _ _ _ _ us hl => match us, hl with | [_], _ => rfl⟩
def spGet_lamps (K : PySem.W.Frag) : Sp := fun vs H Q _ => ∃ (x : Addr) (r : Raw), vs = [.ref x] ∧ MacAt K H x r ∧ ∀ l H', Ex H H' → H l = none → H' l = some (.lst (strsV r.lam)) → Q (.ref l) H'
theorem sc_Machine_lamps : FnScope ["self"] ["self"] (defScope m_Machine_lamps) := ⟨rfl, rfl, rfl, by decide +kernel, rfl, by decide +kernel, by decide +kernel⟩
theorem ok_Machine_lamps (W : Wld K mg) (F : FnM K "lamps" "Machine.lamps" m_Machine_lamps f fd) : FnOk P w K mg base CX0 1 f fd ["self"] (spGet_lamps K) := by
  refine F.ok sc_Machine_lamps (fun vs H Q E h => ?_) (fun cdv A outer s H vs Q E hr h => ?_)
  · obtain ⟨x, r, rfl, _⟩ := h
    rfl
  obtain ⟨x, r, rfl, ⟨dx, a, b, c, d, hx, h1, h2, ys, zs, h3, h4, h5, h6⟩, k⟩ := h
  refine ⟨_, PSs.nox (pss_one (ps_ret (pe_callTy call_list_of (by rfl) W.n_list (by decide +kernel) (pa_cons (pe_fld (pv 0) rfl) pa_nil)))), ?_⟩
  refine ⟨_, rfl, x, _, dx, _, .ref b, rfl, hx, W.c_Machine, W.na_Machine_lamps, rfl, b, _, rfl, .inl (SqL.of h2), fun l hl => ?_⟩
  have e1 := fun o => (Ex.refl H).new (o := o) hl
  exact k l _ (e1 _) hl upd_same
theorem cMachine_lamps (W : Wld K mg) : Mtd P w K mg base 1 (He.ga K "Machine") "lamps" ["self"] (spGet_lamps K) := by
  obtain ⟨fd, F⟩ := W.c.def_ d_Machine_lamps rfl
  exact ⟨_, fd, W.c_Machine, W.me_Machine_lamps, ok_Machine_lamps W F, F.bindsN fun _ _ _ _ _ _ us hl => match us, hl with | [_], _ => rfl⟩
def spGet_states (K : PySem.W.Frag) : Sp := fun vs H Q _ => ∃ (x : Addr) (r : Raw), vs = [.ref x] ∧ MacAt K H x r ∧ ∀ l H', Ex H H' → H l = none → (∃ ys, H' l = some (.lst ys) ∧ Dens K true H' ys (r.sts.map stT)) → Q (.ref l) H'
theorem sc_Machine_states : FnScope ["self"] ["self"] (defScope m_Machine_states) := ⟨rfl, rfl, rfl, by decide +kernel, rfl, by decide +kernel, by decide +kernel⟩
theorem ok_Machine_states (W : Wld K mg) (F : FnM K "states" "Machine.states" m_Machine_states f fd) : FnOk P w K mg base CX0 1 f fd ["self"] (spGet_states K) := by
  refine F.ok sc_Machine_states (fun vs H Q E h => ?_) (fun cdv A outer s H vs Q E hr h => ?_)
  · obtain ⟨x, r, rfl, _⟩ := h
    rfl
  obtain ⟨x, r, rfl, ⟨dx, a, b, c, d, hx, h1, h2, ys, zs, h3, h4, h5, h6⟩, k⟩ := h
  refine ⟨_, PSs.nox (pss_one (ps_ret (pe_callTy call_list_of (by rfl) W.n_list (by decide +kernel) (pa_cons (pe_fld (pv 0) rfl) pa_nil)))), ?_⟩
  refine ⟨_, rfl, x, _, dx, _, .ref c, rfl, hx, W.c_Machine, W.na_Machine_states, rfl, c, _, rfl, .inl (SqL.of h3), fun l hl => ?_⟩
  have e1 := fun o => (Ex.refl H).new (o := o) hl
  exact k l _ (e1 _) hl ⟨_, upd_same, h4.mono (e1 _).kp⟩
theorem cMachine_states (W : Wld K mg) : Mtd P w K mg base 1 (He.ga K "Machine") "states" ["self"] (spGet_states K) := by
  obtain ⟨fd, F⟩ := W.c.def_ d_Machine_states rfl
  exact ⟨_, fd, W.c_Machine, W.me_Machine_states, ok_Machine_states W F, F.bindsN fun _ _ _ _ _ _ us hl => match us, hl with | [_], _ => rfl⟩
def spGet_moves (K : PySem.W.Frag) : Sp := fun vs H Q _ => ∃ (x : Addr) (r : Raw), vs = [.ref x] ∧ MacAt K H x r ∧ ∀ l H', Ex H H' → H l = none → (∃ zs, H' l = some (.lst zs) ∧ Dens K true H' zs (r.mvs.map stT)) → Q (.ref l) H'
theorem sc_Machine_moves : FnScope ["self"] ["self"] (defScope m_Machine_moves) := ⟨rfl, rfl, rfl, by decide +kernel, rfl, by decide +kernel, by decide +kernel⟩
theorem ok_Machine_moves (W : Wld K mg) (F : FnM K "moves" "Machine.moves" m_Machine_moves f fd) : FnOk P w K mg base CX0 1 f fd ["self"] (spGet_moves K) := by
  refine F.ok sc_Machine_moves (fun vs H Q E h => ?_) (fun cdv A outer s H vs Q E hr h => ?_)
  · obtain ⟨x, r, rfl, _⟩ := h
    rfl
  obtain ⟨x, r, rfl, ⟨dx, a, b, c, d, hx, h1, h2, ys, zs, h3, h4, h5, h6⟩, k⟩ := h
  refine ⟨_, PSs.nox (pss_one (ps_ret (pe_callTy call_list_of (by rfl) W.n_list (by decide +kernel) (pa_cons (pe_fld (pv 0) rfl) pa_nil)))), ?_⟩
  refine ⟨_, rfl, x, _, dx, _, .ref d, rfl, hx, W.c_Machine, W.na_Machine_moves, rfl, d, _, rfl, .inl (SqL.of h5), fun l hl => ?_⟩
  have e1 := fun o => (Ex.refl H).new (o := o) hl
  exact k l _ (e1 _) hl ⟨_, upd_same, h6.mono (e1 _).kp⟩
theorem cMachine_moves (W : Wld K mg) : Mtd P w K mg base 1 (He.ga K "Machine") "moves" ["self"] (spGet_moves K) := by
  obtain ⟨fd, F⟩ := W.c.def_ d_Machine_moves rfl
  exact ⟨_, fd, W.c_Machine, W.me_Machine_moves, ok_Machine_moves W F, F.bindsN fun _ _ _ _ _ _ us hl => match us, hl with | [_], _ => rfl⟩
end
end K77

set_option Elab.async false
set_option linter.all false
set_option maxRecDepth 100000
set_option maxHeartbeats 400000
namespace K77
open PySem PySem.Spec PyProof.Rows L2 DL
/-! ### the machine made -/
section
variable {P : Program} {w : World} {K : PySem.W.Frag} {mg : Str → Option Value} {base : Heap} {f : Addr} {fd : FuncData}
/-- a list of tuples copied, each tuple its own copy -/
theorem lc_tups {J : It} {G : Hp → Prop} {ys : List V} {ds : List St3} {g : TG} {te : TE} {vs : List Nat} {σ : L2.St} {H1 : Hp} {D : Addr} {Qd : Hp → Prop} (w : Walk J ys.length G (YAt ys)) (hl : ds.length < 100000) (hd : Dens K true H1 ys (ds.map stT)) (hD : H1 D = none) (hG : ∀ H, Ex H1 H → G H)
    (hs : ∀ (u : Addr) (s : St3) H (Q : VK), Ex H1 H → SqT K H u (stV s) → Q (.ref u) H → g (.ref u) (wipe σ vs) H fun σ2 H2 => wipe σ2 vs = wipe σ vs ∧ te σ2 H2 Q)
    (hq : ∀ H, H D = some (.lst ys) → Ex H1 H → Qd H) :
    ∃ W : Nat → Nat → Hp → Prop, (∃ m, W 0 m (upd H1 D (.lst []))) ∧ ∀ i m H, W i m H →
      (J.stop i H ∧ Qd H) ∨ (J.go i H ∧ ∃ Nx : Hp → Prop, (∀ H', Nx H' → ∃ m', m' < m ∧ W (i + 1) m' H') ∧ ∀ x H', J.yld i H x H' → g x (wipe σ vs) H' fun σ2 H2 => wipe σ2 vs = wipe σ vs ∧ tYes σ2 H2 fun b H3 =>
        if b = true then te σ2 H3 fun y H4 => ∃ acc, H4 D = some (.lst acc) ∧ acc.length < sizeLine ∧ Nx (upd H4 D (.lst (acc ++ [y]))) else Nx H3) := by
  have yl : ys.length = ds.length := by rw [hd.length, List.length_map]
  refine lc_map w (fun i z _ => ys[i]? = some z) (by rw [yl, sizeLine_eq]; omega) hD hG (fun _ _ _ _ q _ => q) ?_ ?_
  · rintro i x H H' Q hi e ⟨rfl, hx⟩ q
    obtain ⟨s, hs2, ds2⟩ := dens_st hd hx
    obtain ⟨u, rfl, hu⟩ := den_st ds2
    exact hs u s _ Q e (e.er.t hu) (q _ _ (Ex.refl _) hx)
  · intro H zs h1 h2 e h3
    refine hq H ?_ e
    rw [h1]
    congr 2
    refine List.ext_getElem? fun i => ?_
    by_cases hi : i < zs.length
    · rw [h3 i _ (List.getElem?_eq_getElem hi), List.getElem?_eq_getElem hi]
    · rw [List.getElem?_eq_none (by omega), List.getElem?_eq_none (by omega)]
/-- the parts as they are handed in -/
def PartsQ (K : PySem.W.Frag) (H : Hp) (r : Raw) (a b c d : Addr) : Prop := SqL K H a (strsV r.lev) ∧ SqL K H b (strsV r.lam) ∧ ∃ ys zs, SqL K H c ys ∧ Dens K true H ys (r.sts.map stT) ∧ SqL K H d zs ∧ Dens K true H zs (r.mvs.map stT)
theorem hid_of {S : Addr → Prop} {H H' : Hp} (e : Ex H H') : Ex (hid S H) (hid S H') := fun b o q => by
  obtain ⟨h1, h2⟩ := hid_some.mp q
  exact hid_some.mpr ⟨h1, e b o h2⟩
theorem PartsQ.mono {K : PySem.W.Frag} {H H' : Hp} {r : Raw} {a b c d : Addr} (h : PartsQ K H r a b c d) (e : Ex H H') : PartsQ K H' r a b c d := by
  obtain ⟨h1, h2, ys, zs, h3, h4, h5, h6⟩ := h
  exact ⟨e.er.l h1, e.er.l h2, ys, zs, e.er.l h3, h4.mono e.kp, e.er.l h5, h6.mono e.kp⟩
def spInit (K : PySem.W.Frag) : Sp := fun vs H Q _ => ∃ (S : Addr → Prop) (x dx a b c d : Addr) (r : Raw), vs = [.ref x, .ref a, .ref b, .ref c, .ref d] ∧ H x = some (.ins (He.ga K "Machine") dx []) ∧ PartsQ K (hid S (wo x H)) r a b c d ∧ RawOk r ∧ ¬ S x ∧ (∀ z, S z → H z ≠ none) ∧
  ∀ H', (∀ z o, z ≠ x → H z = some o → H' z = some o) → MacAt K (hid S H') x r → Q .non H'
theorem sc_Machine_init : FnScope ["self", "levers", "lamps", "states", "moves", "index", "state", "move"] ["self", "levers", "lamps", "states", "moves"] (defScope m_Machine_init) := ⟨rfl, rfl, rfl, by decide +kernel, rfl, by decide +kernel, by decide +kernel⟩
theorem ok_Machine_init (W : Wld K mg) (F : FnM K "__init__" "Machine.__init__" m_Machine_init f fd) : FnOk P w K mg base CX0 7 f fd ["self", "levers", "lamps", "states", "moves"] (spInit K) := by
  have Cwrong_own : Cal P w K mg base 5 "wrong_own" ["names", "taken"] (spOwn K) := cwrong_own W
  have Cwrong_states : Cal P w K mg base 6 "wrong_states" ["levers", "lamps", "states"] (spWSs K) := cwrong_states W
  have Cwrong_moves : Cal P w K mg base 4 "wrong_moves" ["states", "moves"] (spWMs K) := cwrong_moves W
  refine F.ok sc_Machine_init (fun vs H Q E h => ?_) (fun cdv A outer s H vs Q E hr h => ?_)
  · obtain ⟨S, x, dx, a, b, c, d, r, rfl, _⟩ := h
    rfl
  obtain ⟨S, x, dx, a, b, c, d, r, rfl, hx, hPS, R, hSx, hST, k⟩ := h
  refine ⟨_, PSs.nox (pss_cons (ps_set (i := 5) sc_Machine_init.nd rfl (.inl rfl) (pe_c Cwrong_own (hr.mono (by decide)) (pa_cons (pv 1) (pa_cons (pe_lst pa_nil) pa_nil))))
    (pss_cons (ps_if (pt_cmpR op_notN (pv 5) pe_non (nomark _))
    (pss_one (ps_raise rfl LamX.takes0 (XR.pmk_x (W.x_BadLevers).t (W.x_BadLevers).g (W.x_BadLevers).k (W.x_BadLevers).c.hs (W.x_BadLevers).l.ty hr (pa_cons (pv 5) pa_nil))))
    pss_nil)
    (pss_cons (ps_set (i := 5) sc_Machine_init.nd rfl (.inl rfl) (pe_c Cwrong_own (hr.mono (by decide)) (pa_cons (pv 2) (pa_cons (pe_callTy call_list_of (by rfl) W.n_list (by decide +kernel) (pa_cons (pv 1) pa_nil)) pa_nil))))
    (pss_cons (ps_if (pt_cmpR op_notN (pv 5) pe_non (nomark _))
    (pss_one (ps_raise rfl LamX.takes0 (XR.pmk_x (W.x_BadLamps).t (W.x_BadLamps).g (W.x_BadLamps).k (W.x_BadLamps).c.hs (W.x_BadLamps).l.ty hr (pa_cons (pv 5) pa_nil))))
    pss_nil)
    (pss_cons (ps_set (i := 5) sc_Machine_init.nd rfl (.inl rfl) (pe_c Cwrong_states (hr.mono (by decide)) (pa_cons (pe_callB call_len_seq (by rfl) W.n_len (by decide +kernel) (pa_cons (pv 1) pa_nil)) (pa_cons (pe_callB call_len_seq (by rfl) W.n_len (by decide +kernel) (pa_cons (pv 2) pa_nil)) (pa_cons (pv 3) pa_nil)))))
    (pss_cons (ps_if (pt_cmpR op_notN (pv 5) pe_non (nomark _))
    (pss_one (ps_raise rfl LamX.takes0 (XR.pmk_x (W.x_BadStates).t (W.x_BadStates).g (W.x_BadStates).k (W.x_BadStates).c.hs (W.x_BadStates).l.ty hr (pa_cons (pv 5) pa_nil))))
    pss_nil)
    (pss_cons (ps_set (i := 5) sc_Machine_init.nd rfl (.inl rfl) (pe_c Cwrong_moves (hr.mono (by decide)) (pa_cons (pv 3) (pa_cons (pv 4) pa_nil))))
    (pss_cons (ps_if (pt_cmpR op_notN (pv 5) pe_non (nomark _))
    (pss_one (ps_raise rfl LamX.takes0 (XR.pmk_x (W.x_BadMoves).t (W.x_BadMoves).g (W.x_BadMoves).k (W.x_BadMoves).c.hs (W.x_BadMoves).l.ty hr (pa_cons (pv 5) pa_nil))))
    pss_nil)
    (pss_cons (ps_fld (pv 0) (pe_callTy call_list_of (by rfl) W.n_list (by decide +kernel) (pa_cons (pv 1) pa_nil)) (by rfl))
    (pss_cons (ps_fld (pv 0) (pe_callTy call_list_of (by rfl) W.n_list (by decide +kernel) (pa_cons (pv 2) pa_nil)) (by rfl))
    (pss_cons (ps_fld (pv 0) (pe_lc (own := [("state", 6)]) (g := gName 6) (tt := tYes) (te := (tCB (rTupT K) (tCons (tVar 6) tNil))) rfl sc_Machine_init.nd (pi_list (pv 3)) (blkOk_by (N := ["self", "levers", "lamps", "states", "moves", "index", "state", "move"]) (sc := defScope m_Machine_init) (by decide +kernel)) (fun _ _ _ _ _ => pg_name (i := 6) sc_Machine_init.nd rfl (Or.inl rfl)) (fun _ _ _ _ _ => pts_nil) (fun _ _ _ _ _ => (pe_callTy call_tupleT (by rfl) W.n_tuple (by decide +kernel) (pa_cons (pv 6) pa_nil)))) (by rfl))
    (pss_one (ps_fld (pv 0) (pe_lc (own := [("move", 7)]) (g := gName 7) (tt := tYes) (te := (tCB (rTupT K) (tCons (tVar 7) tNil))) rfl sc_Machine_init.nd (pi_list (pv 4)) (blkOk_by (N := ["self", "levers", "lamps", "states", "moves", "index", "state", "move"]) (sc := defScope m_Machine_init) (by decide +kernel)) (fun _ _ _ _ _ => pg_name (i := 7) sc_Machine_init.nd rfl (Or.inl rfl)) (fun _ _ _ _ _ => pts_nil) (fun _ _ _ _ _ => (pe_callTy call_tupleT (by rfl) W.n_tuple (by decide +kernel) (pa_cons (pv 7) pa_nil)))) (by rfl)))))))))))))), ?_⟩
  have E0x : Ex (wo x H) (wo x H) := Ex.refl _
  -- the checks
  obtain ⟨g1, g2, ys, zs, g3, g4, g5, g6⟩ := hPS
  have h1 := (hid_ex (S := S)).er.l g1
  have h2 := (hid_ex (S := S)).er.l g2
  have h3 := (hid_ex (S := S)).er.l g3
  have h4 := g4.mono (hid_ex (S := S)).kp
  have h5 := (hid_ex (S := S)).er.l g5
  have h6 := g6.mono (hid_ex (S := S)).kp
  have up : ∀ {H' : Hp}, Ex (wo x H) (wo x H') → Ex (wo x H) H' := fun e => Ex.trans e hid_ex
  refine ⟨_, rfl, by show 0 ≤ sizeLine; omega, fun l1 hl1 => ?_⟩
  have e1 : Ex H (upd H l1 (.lst [])) := (Ex.refl H).new hl1
  have E1 : Ex (wo x H) (wo x (upd H l1 (.lst []))) := wo_go E0x e1
  have hm1 : upd H l1 (.lst []) l1 = some (.lst (strsV [])) := upd_same
  generalize upd H l1 (.lst []) = H1 at e1 E1 hm1 ⊢
  refine ⟨a, l1, r.lev, [], rfl, (up E1).er.l h1, SqL.of hm1, R.l0, by have := R.ll; omega, R.ln, fun y hy => ⟨R.lw y hy, by simp⟩, fun H2 e2 => ?_⟩
  have E2 := wo_go E1 e2
  refine ⟨_, rfl, rfl, _, rfl, iteF ?_⟩
  refine ⟨_, rfl, _, rfl, a, _, rfl, .inl ((up E2).er.l h1), fun l2 hl2 => ?_⟩
  have e3 : Ex H2 (upd H2 l2 (.lst (strsV r.lev))) := (Ex.refl H2).new hl2
  have E3 := wo_go E2 e3
  have hm3 : upd H2 l2 (.lst (strsV r.lev)) l2 = some (.lst (strsV r.lev)) := upd_same
  have f3 : Ex H (upd H2 l2 (.lst (strsV r.lev))) := (e1.trans e2).trans e3
  generalize upd H2 l2 (.lst (strsV r.lev)) = H3 at e3 E3 hm3 f3 ⊢
  refine ⟨b, l2, r.lam, r.lev, rfl, (up E3).er.l h2, SqL.of hm3, R.m0, by have := R.ml; omega, R.mn, R.mw, fun H4 e4 => ?_⟩
  have E4 := wo_go E3 e4
  have f4 := f3.trans e4
  refine ⟨_, rfl, rfl, _, rfl, iteF ?_⟩
  have el : (strsV r.lev).length = r.lev.length := by unfold strsV; rw [List.length_map]
  have em : (strsV r.lam).length = r.lam.length := by unfold strsV; rw [List.length_map]
  refine ⟨_, rfl, a, _, rfl, .inl ((up E4).er.l h1), _, rfl, b, _, rfl, .inl ((up E4).er.l h2), _, rfl, ?_⟩
  refine ⟨r.lev.length, r.lam.length, c, ys, r.sts, by rw [el, em]; rfl, (up E4).er.l h3, h4.mono (up E4).kp, R.s0, by have := R.sl; omega, R.so, fun H5 e5 => ?_⟩
  have E5 := wo_go E4 e5
  have f5 := f4.trans e5
  refine ⟨_, rfl, rfl, _, rfl, iteF ?_⟩
  refine ⟨_, rfl, _, rfl, c, d, ys, zs, r.sts, r.mvs, r.lev.length, rfl, (up E5).er.l h3, h4.mono (up E5).kp, (up E5).er.l h5, h6.mono (up E5).kp, R.sn, R.le, by have := R.sl; omega, by have := R.vl; omega, R.mo, fun H6 e6 => ?_⟩
  have E6 := wo_go E5 e6
  have f6 := f5.trans e6
  refine ⟨_, rfl, rfl, _, rfl, iteF ?_⟩
  -- the stores
  refine ⟨_, rfl, a, _, rfl, .inl ((up E6).er.l h1), fun p1 hp1 => ?_⟩
  have x6 := f6 _ _ hx
  have nx1 : x ≠ p1 := ne_of_none x6 hp1
  have x7 : upd H6 p1 (.lst (strsV r.lev)) x = some (.ins (He.ga K "Machine") dx []) := by
    rw [upd_ne nx1]
    exact x6
  have E7 : Ex (wo x H) (wo x (upd H6 p1 (.lst (strsV r.lev)))) := wo_new E6 x6 hp1
  have q1 : wo x (upd H6 p1 (.lst (strsV r.lev))) p1 = some (.lst (strsV r.lev)) := hid_some.mpr ⟨nx1.symm, upd_same⟩
  generalize upd H6 p1 (.lst (strsV r.lev)) = H7 at x7 E7 q1 ⊢
  refine ⟨_, rfl, x, _, dx, _, rfl, x7, W.c_Machine, W.na_Machine_levers, by decide, ?_⟩
  have x8 : upd H7 x (.ins (He.ga K "Machine") dx (putF "_levers" (.ref p1) [])) x = some (.ins (He.ga K "Machine") dx [("_levers", .ref p1)]) := upd_same
  have E8 : Ex (wo x H7) (wo x (upd H7 x (.ins (He.ga K "Machine") dx (putF "_levers" (.ref p1) [])))) := wo_at (Ex.refl _)
  generalize upd H7 x (.ins (He.ga K "Machine") dx (putF "_levers" (.ref p1) [])) = H8 at x8 E8 ⊢
  have q1 := E8 _ _ q1
  have E8 := E7.trans E8
  refine ⟨_, rfl, b, _, rfl, .inl ((up E8).er.l h2), fun p2 hp2 => ?_⟩
  have nx2 : x ≠ p2 := ne_of_none x8 hp2
  have x9 : upd H8 p2 (.lst (strsV r.lam)) x = some (.ins (He.ga K "Machine") dx [("_levers", .ref p1)]) := by
    rw [upd_ne nx2]
    exact x8
  have E9 : Ex (wo x H8) (wo x (upd H8 p2 (.lst (strsV r.lam)))) := wo_new (Ex.refl _) x8 hp2
  have q2 : wo x (upd H8 p2 (.lst (strsV r.lam))) p2 = some (.lst (strsV r.lam)) := hid_some.mpr ⟨nx2.symm, upd_same⟩
  generalize upd H8 p2 (.lst (strsV r.lam)) = H9 at x9 E9 q2 ⊢
  have q1 := E9 _ _ q1
  have E9 := E8.trans E9
  refine ⟨_, rfl, x, _, dx, _, rfl, x9, W.c_Machine, W.na_Machine_lamps, by show 1 < 1000; decide, ?_⟩
  have x10 : upd H9 x (.ins (He.ga K "Machine") dx (putF "_lamps" (.ref p2) [("_levers", .ref p1)])) x = some (.ins (He.ga K "Machine") dx [("_levers", .ref p1), ("_lamps", .ref p2)]) := upd_same
  have E10 : Ex (wo x H9) (wo x (upd H9 x (.ins (He.ga K "Machine") dx (putF "_lamps" (.ref p2) [("_levers", .ref p1)])))) := wo_at (Ex.refl _)
  generalize upd H9 x (.ins (He.ga K "Machine") dx (putF "_lamps" (.ref p2) [("_levers", .ref p1)])) = H10 at x10 E10 ⊢
  have q1 := E10 _ _ q1
  have q2 := E10 _ _ q2
  have E10 := E9.trans E10
  refine ⟨_, rfl, c, rfl, ⟨_, (up E10).er.l h3⟩, fun p3 hp3 => ?_⟩
  have nx3 : x ≠ p3 := ne_of_none x10 hp3
  refine lc_tups (ds := r.sts) walk_list (by have := R.sl; omega) (h4.mono (up E10).kp) hp3 (fun H' e => ((up E10).trans e).er.l h3) (fun u t H' Q2 _ hu q => ⟨rfl, _, rfl, u, _, rfl, hu, q⟩) fun H11 q3 e11 => ?_
  have x11 := e11 _ _ x10
  have E11 := wo_go (Ex.refl (wo x H10)) e11
  have q3 : wo x H11 p3 = some (.lst ys) := hid_some.mpr ⟨nx3.symm, q3⟩
  have q1 := E11 _ _ q1
  have q2 := E11 _ _ q2
  have E11 := E10.trans E11
  refine ⟨_, rfl, x, _, dx, _, rfl, x11, W.c_Machine, W.na_Machine_states, by show 2 < 1000; decide, ?_⟩
  have x12 : upd H11 x (.ins (He.ga K "Machine") dx (putF "_states" (.ref p3) [("_levers", .ref p1), ("_lamps", .ref p2)])) x = some (.ins (He.ga K "Machine") dx [("_levers", .ref p1), ("_lamps", .ref p2), ("_states", .ref p3)]) := upd_same
  have E12 : Ex (wo x H11) (wo x (upd H11 x (.ins (He.ga K "Machine") dx (putF "_states" (.ref p3) [("_levers", .ref p1), ("_lamps", .ref p2)])))) := wo_at (Ex.refl _)
  generalize upd H11 x (.ins (He.ga K "Machine") dx (putF "_states" (.ref p3) [("_levers", .ref p1), ("_lamps", .ref p2)])) = H12 at x12 E12 ⊢
  have q1 := E12 _ _ q1
  have q2 := E12 _ _ q2
  have q3 := E12 _ _ q3
  have E12 := E11.trans E12
  refine ⟨_, rfl, d, rfl, ⟨_, (up E12).er.l h5⟩, fun p4 hp4 => ?_⟩
  have nx4 : x ≠ p4 := ne_of_none x12 hp4
  refine lc_tups (ds := r.mvs) walk_list (by have := R.vl; omega) (h6.mono (up E12).kp) hp4 (fun H' e => ((up E12).trans e).er.l h5) (fun u t H' Q2 _ hu q => ⟨rfl, _, rfl, u, _, rfl, hu, q⟩) fun H13 q4 e13 => ?_
  have x13 := e13 _ _ x12
  have E13 := wo_go (Ex.refl (wo x H12)) e13
  have q4 : wo x H13 p4 = some (.lst zs) := hid_some.mpr ⟨nx4.symm, q4⟩
  have q1 := E13 _ _ q1
  have q2 := E13 _ _ q2
  have q3 := E13 _ _ q3
  have E13 := E12.trans E13
  refine ⟨_, rfl, x, _, dx, _, rfl, x13, W.c_Machine, W.na_Machine_moves, by show 3 < 1000; decide, ?_⟩
  have x14 : upd H13 x (.ins (He.ga K "Machine") dx (putF "_moves" (.ref p4) [("_levers", .ref p1), ("_lamps", .ref p2), ("_states", .ref p3)])) x = some (.ins (He.ga K "Machine") dx [("_levers", .ref p1), ("_lamps", .ref p2), ("_states", .ref p3), ("_moves", .ref p4)]) := upd_same
  have E14 : Ex (wo x H13) (wo x (upd H13 x (.ins (He.ga K "Machine") dx (putF "_moves" (.ref p4) [("_levers", .ref p1), ("_lamps", .ref p2), ("_states", .ref p3)])))) := wo_at (Ex.refl _)
  generalize upd H13 x (.ins (He.ga K "Machine") dx (putF "_moves" (.ref p4) [("_levers", .ref p1), ("_lamps", .ref p2), ("_states", .ref p3)])) = H14 at x14 E14 ⊢
  have E15 := E13.trans E14
  have nS : ∀ {H' : Hp} {p : Addr}, Ex (wo x H) (wo x H') → x ≠ p → H' p = none → ¬ S p := fun {H' p} e nx hp sp => by
    cases hz : H p with
    | none => exact hST p sp hz
    | some u =>
      have := up e p u (hid_some.mpr ⟨nx.symm, hz⟩)
      rw [hp] at this
      cases this
  have s1 := nS E6 nx1 hp1
  have s2 := nS E8 nx2 hp2
  have s3 := nS E10 nx3 hp3
  have s4 := nS E12 nx4 hp4
  refine k H14 (fun z o nz hz => up E15 _ _ (hid_some.mpr ⟨nz, hz⟩)) ⟨dx, p1, p2, p3, p4, hid_some.mpr ⟨hSx, x14⟩, hid_some.mpr ⟨s1, hid_ex _ _ (E14 _ _ q1)⟩, hid_some.mpr ⟨s2, hid_ex _ _ (E14 _ _ q2)⟩, ys, zs, hid_some.mpr ⟨s3, hid_ex _ _ (E14 _ _ q3)⟩, g4.mono (hid_of (up E15)).kp, hid_some.mpr ⟨s4, hid_ex _ _ (E14 _ _ q4)⟩, g6.mono (hid_of (up E15)).kp⟩
end
end K77

set_option Elab.async false
set_option linter.all false
set_option maxRecDepth 100000
set_option maxHeartbeats 400000
namespace K77
open PySem PySem.Spec PyProof.Rows L2 DL
/-! ### some of a list -/
def selN (ys : List V) (b : Nat → Bool) : Nat → List V
  | 0 => []
  | i + 1 => selN ys b i ++ (if b i = true then (ys[i]?).toList else [])
theorem selN_len (ys : List V) (b : Nat → Bool) : ∀ i, (selN ys b i).length ≤ i
  | 0 => Nat.le_refl 0
  | i + 1 => by
    have h := selN_len ys b i
    unfold selN
    rw [List.length_append]
    have : (if b i = true then (ys[i]?).toList else []).length ≤ 1 := by
      split
      · cases ys[i]? <;> simp
      · simp
    omega
theorem selN_none {ys : List V} {b : Nat → Bool} : ∀ {i : Nat}, (∀ j, j < i → b j = false) → selN ys b i = []
  | 0, _ => rfl
  | i + 1, h => by
    unfold selN
    rw [selN_none fun j hj => h j (by omega), h i (by omega)]
    rfl
theorem selN_head {ys : List V} {b : Nat → Bool} {k : Nat} {y : V} (hk : b k = true) (hy : ys[k]? = some y) (hj : ∀ j, j < k → b j = false) : ∀ {i : Nat}, k < i → (selN ys b i)[0]? = some y
  | 0, h => absurd h (by omega)
  | i + 1, h => by
    unfold selN
    by_cases e : k = i
    · subst e
      rw [selN_none hj, hk, hy]
      rfl
    · have ih := selN_head hk hy hj (i := i) (by omega)
      rw [List.getElem?_append_left]
      · exact ih
      · exact (List.getElem?_eq_some_iff.mp ih).1
/-- [x for x in xs if ..] -/
theorem lc_sel {J : It} {G : Hp → Prop} {ys : List V} {j : Nat} {tt : TT} {vs : List Nat} {σ : L2.St} {H1 : Hp} {D : Addr} {Qd : Hp → Prop} (w : Walk J ys.length G (YAt ys)) (b : Nat → Bool) (hn : ys.length < sizeLine) (hD : H1 D = none) (hG : ∀ H, Ex H1 H → G H)
    (hj : ∀ v, ((wipe σ vs).set j (some v))[j]? = some (some v)) (hw : ∀ v, wipe ((wipe σ vs).set j (some v)) vs = wipe σ vs)
    (hs : ∀ (i : Nat) x H (Q : Bool → Hp → Prop), ys[i]? = some x → Ex H1 H → (∀ H4, Ex H H4 → Q (b i) H4) → tt ((wipe σ vs).set j (some x)) H Q)
    (hd : ∀ H, H D = some (.lst (selN ys b ys.length)) → Ex H1 H → Qd H) :
    ∃ W : Nat → Nat → Hp → Prop, (∃ m, W 0 m (upd H1 D (.lst []))) ∧ ∀ i m H, W i m H →
      (J.stop i H ∧ Qd H) ∨ (J.go i H ∧ ∃ Nx : Hp → Prop, (∀ H', Nx H' → ∃ m', m' < m ∧ W (i + 1) m' H') ∧ ∀ x H', J.yld i H x H' → gName j x (wipe σ vs) H' fun σ2 H2 => wipe σ2 vs = wipe σ vs ∧ tt σ2 H2 fun b H3 =>
        if b = true then tVar j σ2 H3 fun y H4 => ∃ acc, H4 D = some (.lst acc) ∧ acc.length < sizeLine ∧ Nx (upd H4 D (.lst (acc ++ [y]))) else Nx H3) := by
  refine lc_it w (fun i H' => Ex H1 H' ∧ H' D = some (.lst (selN ys b i))) ⟨(Ex.refl H1).new hD, upd_same⟩ (fun i H h ⟨e, _⟩ => hG H e) ?_ fun H h => hd H h.2 h.1
  rintro i x H H' hi ⟨e, hDi⟩ ⟨rfl, hx⟩
  refine ⟨hw _, hs i x H' _ hx e fun H4 e4 => ?_⟩
  have step : selN ys b (i + 1) = selN ys b i ++ (if b i = true then [x] else []) := by
    show selN ys b i ++ _ = _
    rw [hx]
    rfl
  refine ite2 (fun z => ?_) (fun z => ?_)
  · refine ⟨_, hj _, _, e4 _ _ hDi, ?_, fun c o q => ?_, ?_⟩
    · have := selN_len ys b i
      omega
    · rw [upd_ne (ne_of_none q hD)]
      exact e4 _ _ (e c o q)
    · rw [upd_same, step, if_pos z]
  · refine ⟨e.trans e4, ?_⟩
    rw [step, if_neg z, List.append_nil]
    exact e4 _ _ hDi
/-- the first state of a name -/
theorem first_st {l : List St3} {n : Str} (h : n ∈ l.map (·.1)) : ∃ (k : Nat) (s : St3), l[k]? = some s ∧ s.1 = n ∧ (∀ j, j < k → ∀ t : St3, l[j]? = some t → t.1 ≠ n) ∧ (l.find? fun s => decide (s.1 = n)) = some s := by
  obtain ⟨s0, hs0, e0⟩ := List.mem_map.mp h
  cases hf : l.find? fun s => decide (s.1 = n) with
  | none => exact absurd (List.find?_eq_none.mp hf s0 hs0) (by simp [e0])
  | some s =>
    obtain ⟨h1, k, hk, h2, h3⟩ := List.find?_eq_some_iff_getElem.mp hf
    refine ⟨k, s, (List.getElem?_eq_getElem hk).trans (congrArg some h2), of_decide_eq_true h1, fun j hj t ht => ?_, rfl⟩
    obtain ⟨hj2, rfl⟩ := List.getElem?_eq_some_iff.mp ht
    simpa using h3 j hj
section
variable {P : Program} {w : World} {K : PySem.W.Frag} {mg : Str → Option Value} {base : Heap} {f : Addr} {fd : FuncData}
def stOf (l : List St3) (n : Str) : Option St3 := l.find? fun s => decide (s.1 = n)
def spState (K : PySem.W.Frag) : Sp := fun vs H Q _ => ∃ (x : Addr) (r : Raw) (n : Str), vs = [.ref x, .str n] ∧ MacAt K H x r ∧ RawOk r ∧ n ∈ r.sts.map (·.1) ∧ ∀ u s H', Ex H H' → stOf r.sts n = some s → SqT K H' u (stV s) → Q (.ref u) H'
end
end K77

set_option Elab.async false
set_option linter.all false
set_option maxRecDepth 100000
set_option maxHeartbeats 400000
namespace K77
open PySem PySem.Spec PyProof.Rows L2 DL
/-! ### waves, rows, logs -/
def scT : Tr → Bool
  | .non => true
  | .bl _ => true
  | .int _ => true
  | .str _ => true
  | _ => false
/-- the first of each pair is no list -/
def PairSc (d : Tr) : Prop := ∀ p ∈ kids d, ∀ a, (kids p)[0]? = some a → scT a = true
def isStr (n : Str) : Tr → Bool
  | .str z => decide (z = n)
  | _ => false
def pairOk (n : Str) (p : Tr) : Bool := match kids p with
  | [a, b] => isSeq p && (isStr n a && isWave b)
  | _ => false
def pairB (lam : List Str) (ds : List Tr) (i : Nat) : Bool := match ds[i]?, lam[i]? with
  | some p, some n => pairOk n p
  | _, _ => true
def isWaves (lam : List Str) (d : Tr) : Bool := isSeq d && (decide ((kids d).length = lam.length) && ((List.range lam.length).map (pairB lam (kids d))).all id)
/-- lists of no great length, to a depth -/
def Okt : Nat → Tr → Prop
  | n + 1, .lst xs => xs.length ≤ 100000 ∧ ∀ x ∈ xs, Okt n x
  | n + 1, .tup xs => xs.length ≤ 100000 ∧ ∀ x ∈ xs, Okt n x
  | 0, .lst _ => False
  | 0, .tup _ => False
  | _, .dic _ => False
  | _, _ => True
theorem Okt.kid {n : Nat} {d x : Tr} (h : Okt (n + 1) d) (hx : x ∈ kids d) : Okt n x := by
  cases d with
  | lst xs => exact h.2 x hx
  | tup xs => exact h.2 x hx
  | _ => cases hx
theorem Okt.len {n : Nat} {d : Tr} (h : Okt n d) : (kids d).length ≤ 100000 := by
  cases d with
  | lst xs =>
    cases n with
    | zero => exact h.elim
    | succ n => exact h.1
  | tup xs =>
    cases n with
    | zero => exact h.elim
    | succ n => exact h.1
  | _ => exact Nat.zero_le _
theorem den_kids {K : PySem.W.Frag} {b : Bool} {H : Hp} {v : V} {d : Tr} (h : Den K b H v d) (hs : isSeq d = true) : ∃ p ys, v = .ref p ∧ (SqL K H p ys ∨ SqT K H p ys) ∧ Dens K b H ys (kids d) := by
  obtain ⟨p, ys, ds, h1, h2, h3, h4⟩ := den_seq h hs
  refine ⟨p, ys, h1, h2, ?_⟩
  rcases h4 with rfl | rfl <;> exact h3
/-- an item of a list or a tuple -/
theorem rd_ix {K : PySem.W.Frag} {H : Hp} {p : Addr} {ys : List V} {i : Nat} {v : V} {Q : VK} (hq : SqL K H p ys ∨ SqT K H p ys) (hv : ys[i]? = some v) (q : Q v H) : rIx K (.ref p) (.int (i : Nat)) H Q := by
  rcases hq with hq | hq
  · exact .inl ⟨p, ys, _, v, rfl, rfl, hq, atI_nat hv, q⟩
  · exact .inr (.inl ⟨p, ys, _, v, rfl, rfl, hq, atI_nat hv, q⟩)
theorem row_two {p : Tr} (h : isRow 2 p = true) : ∃ a b, kids p = [a, b] ∧ isSeq p = true := by
  unfold isRow at h
  obtain ⟨h1, h2⟩ := He.ba h
  have h2 := of_decide_eq_true h2
  cases p with
  | lst xs =>
    match xs, h2 with
    | [a, b], _ => exact ⟨a, b, rfl, rfl⟩
    | [], h2 => simp [lenT] at h2
    | [_], h2 => simp [lenT] at h2
    | _ :: _ :: _ :: _, h2 => simp [lenT] at h2; omega
  | tup xs =>
    match xs, h2 with
    | [a, b], _ => exact ⟨a, b, rfl, rfl⟩
    | [], h2 => simp [lenT] at h2
    | [_], h2 => simp [lenT] at h2
    | _ :: _ :: _ :: _, h2 => simp [lenT] at h2; omega
  | _ => cases h1
theorem pair_row {n : Str} {p : Tr} (h : pairOk n p = true) : isRow 2 p = true := by
  unfold pairOk at h
  cases p with
  | lst xs =>
    match xs, h with
    | [a, b], _ => rfl
  | tup xs =>
    match xs, h with
    | [a, b], _ => rfl
  | _ => cases h
theorem waves_rows {lam : List Str} {ds : List Tr} (hl : ds.length = lam.length) (h : ds.all (isRow 2) = false) : ((List.range lam.length).map (pairB lam ds)).all id = false := by
  refine Bool.eq_false_iff.mpr fun z => ?_
  refine Bool.eq_false_iff.mp h ?_
  rw [List.all_eq_true] at z ⊢
  intro p hp
  obtain ⟨i, hi, rfl⟩ := List.mem_iff_getElem.mp hp
  have z1 := z _ (List.mem_map.mpr ⟨i, List.mem_range.mpr (by omega), rfl⟩)
  unfold pairB at z1
  rw [List.getElem?_eq_getElem hi, List.getElem?_eq_getElem (by omega)] at z1
  exact pair_row z1
section
variable {P : Program} {w : World} {K : PySem.W.Frag} {mg : Str → Option Value} {base : Heap} {f : Addr} {fd : FuncData}
def spWaves (K : PySem.W.Frag) : Sp := fun vs H Q _ => ∃ (x : Addr) (v : V) (r : Raw) (d : Tr), vs = [.ref x, v] ∧ MacAt K H x r ∧ RawOk r ∧ Den K true H v d ∧ Okt 3 d ∧ PairSc d ∧ ∀ H', Ex H H' → Q (.bl (isWaves r.lam d)) H'
theorem okt_short {n : Nat} {d : Tr} (h : Okt n d) : shortT d := by
  have := h.len
  show _ ≤ _
  omega
theorem sc_are_waves : FnScope ["machine", "thing", "lamps", "pair", "place"] ["machine", "thing"] (defScope s_are_waves) := ⟨rfl, rfl, rfl, by decide +kernel, rfl, by decide +kernel, by decide +kernel⟩
theorem ok_are_waves (W : Wld K mg) (F : FnP K "are_waves" s_are_waves f fd) : FnOk P w K mg base CX0 4 f fd ["machine", "thing"] (spWaves K) := by
  have Cis_list : Cal P w K mg base 1 "is_list" ["thing"] (sp1 K isSeq) := cis_list W
  have Cis_pair : Cal P w K mg base 3 "is_pair" ["thing"] (sp1 K (isRow 2)) := cis_pair W
  have Cis_wave : Cal P w K mg base 2 "is_wave" ["thing"] (spWave K) := cis_wave W
  have CMachine_lamps : Mtd P w K mg base 1 (He.ga K "Machine") "lamps" ["self"] (spGet_lamps K) := cMachine_lamps W
  refine F.ok sc_are_waves (fun vs H Q E h => ?_) (fun cdv A outer s H vs Q E hr h => ?_)
  · obtain ⟨x, v, r, d, rfl, _⟩ := h
    rfl
  obtain ⟨x, v, r, d, rfl, hm, R, hd, ho, hsc, k⟩ := h
  refine ⟨_, PSs.nox (pss_cons (ps_set (i := 2) sc_are_waves.nd rfl (.inr rfl) (pe_mc0 CMachine_lamps (hr.mono (by decide)) (pv 0)))
    (pss_cons (ps_if (PW.pt (pw_or (pt_not (pt_val (pe_c Cis_list (hr.mono (by decide)) (pa_cons (pv 1) pa_nil)))) (pw_or (pt_cmpR op_ne (pe_callB call_len_seq (by rfl) W.n_len (by decide +kernel) (pa_cons (pv 1) pa_nil)) (pe_callB call_len_seq (by rfl) W.n_len (by decide +kernel) (pa_cons (pv 2) pa_nil)) (nomark _)) (pw_or1 (pt_not (pt_val (pe_callB (cr_all rfl) (by rfl) W.n_all (by decide +kernel) (pa_cons (pe_lc (own := [("pair", 3)]) (g := gName 3) (tt := tYes) (te := (tCall (sp1 K (isRow 2)) [] E0 (tCons (tVar 3) tNil))) rfl sc_are_waves.nd (XN.pi_seq (pv 1)) (blkOk_by (N := ["machine", "thing", "lamps", "pair", "place"]) (sc := defScope s_are_waves) (by decide +kernel)) (fun _ _ _ _ _ => pg_name (i := 3) sc_are_waves.nd rfl (Or.inl rfl)) (fun _ _ _ _ _ => pts_nil) (fun _ _ _ _ _ => (pe_c Cis_pair (hr.mono (by decide)) (pa_cons (pv 3) pa_nil)))) pa_nil))))))))
    (pss_one (ps_ret pe_bl))
    pss_nil)
    (pss_one (ps_ret (pe_callB (cr_all rfl) (by rfl) W.n_all (by decide +kernel) (pa_cons (pe_lc (own := [("place", 4), ("pair", 3)]) (g := gTup K 2 (gCons (gName 4) (gCons (gName 3) gNil))) (tt := tYes) (te := (tAndV (tOp rEq (tOp (rIx K) (tVar 3) (tC (.int 0))) (tOp (rIxL K) (tVar 2) (tVar 4))) (tCall (spWave K) [] E0 (tCons (tOp (rIx K) (tVar 3) (tC (.int 1))) tNil)))) rfl sc_are_waves.nd (XN.pi_enumA (by rfl) W.n_enumerate (pa_cons (pv 1) pa_nil)) (blkOk_by (N := ["machine", "thing", "lamps", "pair", "place"]) (sc := defScope s_are_waves) (by decide +kernel)) (fun _ _ _ _ _ => (pg_tup rfl (pgs_cons (pg_name (i := 4) sc_are_waves.nd rfl (.inl rfl)) (pgs_cons (pg_name (i := 3) sc_are_waves.nd rfl (.inl rfl)) pgs_nil)))) (fun _ _ _ _ _ => pts_nil) (fun _ _ _ _ _ => (pe_and (pe_cmpR op_eq (pe_ix ix_seq (pv 3) pe_int (fun _ _ => rfl)) (pe_ix ix_list (pv 2) (pv 4) (fun _ _ => rfl)) (nomark _)) (pe_one (pe_c Cis_wave (hr.mono (by decide)) (pa_cons (pe_ix ix_seq (pv 3) pe_int (fun _ _ => rfl)) pa_nil)))))) pa_nil)))))), ?_⟩
  have hi := hm
  obtain ⟨dx, a, b, c, e, hx, _⟩ := hi
  refine ⟨_, rfl, x, dx, _, rfl, hx, rfl, x, r, rfl, hm, fun l H1 e1 n1 hl => ?_⟩
  refine ⟨_, rfl, v, d, rfl, hd.mono e1.kp, fun H2 e2 => ⟨_, rfl, ?_⟩⟩
  have e12 := e1.trans e2
  unfold isWaves at k
  cases hs : isSeq d with
  | false =>
    rw [hs] at k
    exact iteT (k H2 e12)
  | true =>
    refine iteF ?_
    rw [hs] at k
    obtain ⟨p, ys, rfl, hq, hds⟩ := den_kids hd hs
    have yl : ys.length = (kids d).length := hds.length
    have el : (strsV r.lam).length = r.lam.length := by unfold strsV; rw [List.length_map]
    have hll : SqL K H2 l (strsV r.lam) := SqL.of (e2 _ _ hl)
    refine ⟨_, rfl, p, _, rfl, hq.imp e12.er.l e12.er.t, _, rfl, l, _, rfl, .inl hll, rfl, _, rfl, ?_⟩
    rw [dec_i, yl, el]
    by_cases hlen : (kids d).length = r.lam.length
    · rw [decide_eq_true (by rw [hlen] : ((kids d).length : Int) = (r.lam.length : Int))]
      rw [decide_eq_true hlen] at k
      refine iteF ?_
      have hk := ho.len
      have hq2 := hq.imp e12.er.l e12.er.t
      refine ⟨_, rfl, p, rfl, walk_either hq2 fun J G wk hG D hD => ?_⟩
      refine lc_bools wk (atB (isRow 2) (kids d)) (by rw [yl, sizeLine_eq]; omega) hD hG ?_ ?_
      · rintro i y H3 H4 Q2 hi e3 ⟨rfl, hy⟩ q
        obtain ⟨dy, hdy, hy2⟩ := hds.get hy
        rw [atB_some hdy] at q
        exact ⟨rfl, _, rfl, y, dy, rfl, hy2.mono (e12.trans e3).kp, q⟩
      intro H3 h3 e3
      have e13 := e12.trans e3
      refine ⟨D, _, rfl, SqL.of h3, _, rfl, ?_⟩
      rw [yl, all_at]
      cases hrow : (kids d).all (isRow 2) with
      | false =>
        rw [waves_rows hlen hrow] at k
        exact iteT (k H3 e13)
      | true =>
        refine iteF ?_
        refine ⟨_, rfl, p, rfl, walk_eitherE (hq.imp e13.er.l e13.er.t) fun J G wk hG D2 hD2 => ?_⟩
        refine lc_bools wk (pairB r.lam (kids d)) (by rw [yl, sizeLine_eq]; omega) hD2 hG ?_ ?_
        · rintro i u H4 H5 Q2 hi e4 ⟨T, a1, b1, rfl, hT, rfl, ha, hb⟩ q
          obtain rfl := Option.some.inj ha
          obtain ⟨dp, hdp, hb2⟩ := hds.get hb
          have hdm := List.mem_of_getElem? hdp
          obtain ⟨a2, b2, ek, esq⟩ := row_two (List.all_eq_true.mp hrow dp hdm)
          have hil : i < r.lam.length := by omega
          have hn : r.lam[i]? = some r.lam[i] := List.getElem?_eq_getElem hil
          have e5 := e4.new (o := .tup [.int (i : Nat), b1]) hT
          have f5 := (Ex.refl H4).new (o := .tup [.int (i : Nat), b1]) hT
          have hT5 : upd H4 T (.tup [.int (i : Nat), b1]) T = some (.tup [.int (i : Nat), b1]) := upd_same
          generalize upd H4 T (.tup [.int (i : Nat), b1]) = H5 at e5 f5 hT5 ⊢
          have e15 := e13.trans e5
          obtain ⟨pp, zs, rfl, hpq, hz⟩ := den_kids (hb2.mono e15.kp) esq
          rw [ek] at hz
          cases hz with
          | cons da rest =>
            rename_i va vs1
            cases rest with
            | cons db rest2 =>
              rename_i vb vs2
              cases rest2
              have sa : scT a2 = true := hsc dp hdm a2 (by rw [ek]; rfl)
              have hp5 : SqL K H5 l (strsV r.lam) := SqL.of (e5 _ _ (e3 _ _ (e2 _ _ hl)))
              refine ⟨T, _, rfl, SqT.of hT5, rfl, _, _, rfl, _, _, rfl, rfl, rfl, ?_⟩
              refine ⟨_, rfl, rd_ix (i := 0) hpq rfl ?_⟩
              refine ⟨_, rfl, _, rfl, l, _, _, .str r.lam[i], rfl, rfl, hp5, atI_nat (by unfold strsV; rw [List.getElem?_map, hn]; rfl), ?_⟩
              have e0 : pairB r.lam (kids d) i = (isStr r.lam[i] a2 && isWave b2) := by
                unfold pairB
                rw [hdp, hn]
                show pairOk r.lam[i] dp = _
                unfold pairOk
                rw [ek, esq]
                show (true && (isStr r.lam[i] a2 && isWave b2)) = _
                rw [Bool.true_and]
              rw [e0] at q
              have sc : scal va (.str r.lam[i]) = true ∧ decide (va = .str r.lam[i]) = isStr r.lam[i] a2 := by
                cases da with
                | non => exact ⟨rfl, rfl⟩
                | bl _ => exact ⟨rfl, rfl⟩
                | int _ => exact ⟨rfl, rfl⟩
                | str z => exact ⟨rfl, dec_s⟩
                | _ => cases sa
              refine ⟨sc.1, _, rfl, ?_⟩
              rw [sc.2]
              cases hst : isStr r.lam[i] a2 with
              | false =>
                rw [hst] at q
                exact iteF (q H5 f5)
              | true =>
                rw [hst, Bool.true_and] at q
                refine iteT ⟨_, rfl, rd_ix (i := 1) hpq rfl ⟨vb, b2, rfl, db, okt_short (Okt.kid (Okt.kid ho hdm) (by rw [ek]; simp)), fun H7 e7 => q H7 (f5.trans e7)⟩⟩
        · intro H6 h6 e6
          refine ⟨D2, _, rfl, SqL.of h6, ?_⟩
          rw [yl, hlen]
          exact k H6 (e13.trans e6)
    · rw [decide_eq_false (fun z => hlen (by omega) : ¬ ((kids d).length : Int) = (r.lam.length : Int))]
      rw [decide_eq_false hlen] at k
      exact iteT (k H2 e12)
theorem care_waves (W : Wld K mg) : Cal P w K mg base 4 "are_waves" ["machine", "thing"] (spWaves K) := by
  obtain ⟨fd, F⟩ := W.c.def_ 25 rfl
  exact ⟨⟨fd, ok_are_waves W F, F.bindsN fun _ _ _ _ _ _ us hl => match us, hl with | [_, _], _ => rfl⟩, W.g_are_waves, F.kp⟩
end
end K77

set_option Elab.async false
set_option linter.all false
set_option maxRecDepth 100000
set_option maxHeartbeats 400000
namespace K77
open PySem PySem.Spec PyProof.Rows L2 DL
def isMove (r : Raw) : Tr → Bool
  | .int i => decide (0 ≤ i) && decide (i < r.mvs.length)
  | _ => false
/-- a move of the state n -/
def mvAt (r : Raw) (n : Str) : Tr → Bool
  | .int i => decide (0 ≤ i) && (match r.mvs[i.toNat]? with | some q => decide (q.1 = n) | none => false)
  | _ => false
def rowB (r : Raw) (n : Str) (d : Tr) : Bool := match kids d with
  | [a, m, w] => isSeq d && (isStr n a && (mvAt r n m && isWaves r.lam w))
  | _ => false
/-- the state behind a row -/
def nextOf (r : Raw) (d : Tr) : Str := match kids d with
  | [_, .int i, _] => ((r.mvs[i.toNat]?).map fun q => q.2.2).getD ""
  | _ => ""
def rowsB (r : Raw) : Str → List Tr → Bool
  | _, [] => true
  | n, d :: ds => rowB r n d && rowsB r (nextOf r d) ds
def st0 (r : Raw) : Str := ((r.sts[0]?).map fun s => s.1).getD ""
def isLogT (r : Raw) (d : Tr) : Bool := isSeq d && rowsB r (st0 r) (kids d)
theorem row_three {p : Tr} (h : isRow 3 p = true) : ∃ a b c, kids p = [a, b, c] ∧ isSeq p = true := by
  unfold isRow at h
  obtain ⟨h1, h2⟩ := He.ba h
  have h2 := of_decide_eq_true h2
  cases p with
  | lst xs =>
    match xs, h2 with
    | [a, b, c], _ => exact ⟨a, b, c, rfl, rfl⟩
    | [], h2 => simp [lenT] at h2
    | [_], h2 => simp [lenT] at h2
    | [_, _], h2 => simp [lenT] at h2
    | _ :: _ :: _ :: _ :: _, h2 => simp [lenT] at h2; omega
  | tup xs =>
    match xs, h2 with
    | [a, b, c], _ => exact ⟨a, b, c, rfl, rfl⟩
    | [], h2 => simp [lenT] at h2
    | [_], h2 => simp [lenT] at h2
    | [_, _], h2 => simp [lenT] at h2
    | _ :: _ :: _ :: _ :: _, h2 => simp [lenT] at h2; omega
  | _ => cases h1
theorem row_not3 {r : Raw} {n : Str} {p : Tr} (h : isRow 3 p = false) : rowB r n p = false := by
  unfold rowB
  split
  · rename_i a m w ek
    cases p with
    | lst xs =>
      have e : xs = [a, m, w] := ek
      subst e
      cases h
    | tup xs =>
      have e : xs = [a, m, w] := ek
      subst e
      cases h
    | _ => rfl
  · rfl
theorem den_three {K : PySem.W.Frag} {H : Hp} {v : V} {d a b c : Tr} (h : Den K true H v d) (hs : isSeq d = true) (ek : kids d = [a, b, c]) :
    ∃ p x y z, v = .ref p ∧ (SqL K H p [x, y, z] ∨ SqT K H p [x, y, z]) ∧ Den K true H x a ∧ Den K true H y b ∧ Den K true H z c := by
  obtain ⟨p, ys, rfl, hq, hds⟩ := den_kids h hs
  rw [ek] at hds
  cases hds with
  | cons da r =>
    cases r with
    | cons db r =>
      cases r with
      | cons dc r =>
        cases r
        exact ⟨p, _, _, _, rfl, hq, da, db, dc⟩
section
variable {P : Program} {w : World} {K : PySem.W.Frag} {mg : Str → Option Value} {base : Heap} {f : Addr} {fd : FuncData}
def spMove (K : PySem.W.Frag) : Sp := fun vs H Q _ => ∃ (x : Addr) (v : V) (r : Raw) (d : Tr), vs = [.ref x, v] ∧ MacAt K H x r ∧ Den K true H v d ∧ ∀ H', Ex H H' → Q (.bl (isMove r d)) H'
theorem sc_is_move_of : FnScope ["machine", "thing"] ["machine", "thing"] (defScope s_is_move_of) := ⟨rfl, rfl, rfl, by decide +kernel, rfl, by decide +kernel, by decide +kernel⟩
theorem ok_is_move_of (W : Wld K mg) (F : FnP K "is_move_of" s_is_move_of f fd) : FnOk P w K mg base CX0 3 f fd ["machine", "thing"] (spMove K) := by
  have Cis_number : Cal P w K mg base 2 "is_number" ["thing"] (sp1 K isNum) := cis_number W
  have CMachine_moves : Mtd P w K mg base 1 (He.ga K "Machine") "moves" ["self"] (spGet_moves K) := cMachine_moves W
  refine F.ok sc_is_move_of (fun vs H Q E h => ?_) (fun cdv A outer s H vs Q E hr h => ?_)
  · obtain ⟨x, v, r, d, rfl, _⟩ := h
    rfl
  obtain ⟨x, v, r, d, rfl, hm, hd, k⟩ := h
  refine ⟨_, PSs.nox (pss_one (ps_ret (pe_and (pe_c Cis_number (hr.mono (by decide)) (pa_cons (pv 1) pa_nil)) (pe_one (pe_cmpR op_lt (pv 1) (pe_callB call_len_seq (by rfl) W.n_len (by decide +kernel) (pa_cons (pe_mc0 CMachine_moves (hr.mono (by decide)) (pv 0)) pa_nil)) (nomark _)))))), ?_⟩
  refine ⟨_, rfl, v, d, rfl, hd, fun H1 e1 => ⟨_, rfl, ?_⟩⟩
  have no : isNum d = false → isMove r d = false := fun h => by
    cases d with
    | int i =>
      show (decide (0 ≤ i) && _) = false
      have h : decide (0 ≤ i) = false := h
      rw [h, Bool.false_and]
    | _ => rfl
  cases hn : isNum d with
  | false =>
    rw [no hn] at k
    exact iteF (k H1 e1)
  | true =>
    cases hd with
    | int i =>
      have hn : decide (0 ≤ i) = true := hn
      have hi := hm.mono e1
      have hi2 := hi
      obtain ⟨dx, a, b, c, e, hx, _⟩ := hi
      refine iteT ⟨_, rfl, _, rfl, x, dx, _, rfl, hx, rfl, x, r, rfl, hi2, fun l H2 e2 n2 ⟨zs, hl, hds⟩ => ?_⟩
      have zl : zs.length = r.mvs.length := by rw [hds.length, List.length_map]
      refine ⟨l, _, rfl, .inl (SqL.of hl), _, _, rfl, rfl, ?_⟩
      have z := k H2 (e1.trans e2)
      have e0 : isMove r (.int i) = decide (i < (zs.length : Int)) := by
        show (decide (0 ≤ i) && decide (i < r.mvs.length)) = _
        rw [hn, Bool.true_and, zl]
      rw [e0] at z
      exact z
    | _ => cases hn
theorem cis_move_of (W : Wld K mg) : Cal P w K mg base 3 "is_move_of" ["machine", "thing"] (spMove K) := by
  obtain ⟨fd, F⟩ := W.c.def_ 21 rfl
  exact ⟨⟨fd, ok_is_move_of W F, F.bindsN fun _ _ _ _ _ _ us hl => match us, hl with | [_, _], _ => rfl⟩, W.g_is_move_of, F.kp⟩
def spRowLog (K : PySem.W.Frag) : Sp := fun vs H Q _ => ∃ (x : Addr) (n : Str) (v : V) (r : Raw) (d : Tr), vs = [.ref x, .str n, v] ∧ MacAt K H x r ∧ RawOk r ∧ Den K true H v d ∧ Okt 4 d ∧ (∀ w, (kids d)[2]? = some w → PairSc w) ∧ ∀ H', Ex H H' → Q (.bl (rowB r n d)) H'
theorem sc_is_log_row : FnScope ["machine", "state", "thing"] ["machine", "state", "thing"] (defScope s_is_log_row) := ⟨rfl, rfl, rfl, by decide +kernel, rfl, by decide +kernel, by decide +kernel⟩
theorem ok_is_log_row (W : Wld K mg) (F : FnP K "is_log_row" s_is_log_row f fd) : FnOk P w K mg base CX0 5 f fd ["machine", "state", "thing"] (spRowLog K) := by
  have Cis_row : Cal P w K mg base 2 "is_row" ["thing", "many"] (spRow K) := cis_row W
  have Cis_text : Cal P w K mg base 1 "is_text" ["thing"] (sp1 K isS) := cis_text W
  have Cis_move_of : Cal P w K mg base 3 "is_move_of" ["machine", "thing"] (spMove K) := cis_move_of W
  have Care_waves : Cal P w K mg base 4 "are_waves" ["machine", "thing"] (spWaves K) := care_waves W
  have CMachine_moves : Mtd P w K mg base 1 (He.ga K "Machine") "moves" ["self"] (spGet_moves K) := cMachine_moves W
  refine F.ok sc_is_log_row (fun vs H Q E h => ?_) (fun cdv A outer s H vs Q E hr h => ?_)
  · obtain ⟨x, n, v, r, d, rfl, _⟩ := h
    rfl
  obtain ⟨x, n, v, r, d, rfl, hm, R, hd, ho, hsc, k⟩ := h
  refine ⟨_, PSs.nox (pss_cons (ps_if (PW.pt (pw_or (pt_not (pt_val (pe_c Cis_row (hr.mono (by decide)) (pa_cons (pv 2) (pa_cons pe_int pa_nil))))) (pw_or (pt_not (pt_val (pe_c Cis_text (hr.mono (by decide)) (pa_cons (pe_ix ix_seq (pv 2) pe_int (fun _ _ => rfl)) pa_nil)))) (pw_or1 (pt_cmpR op_ne (pe_ix ix_seq (pv 2) pe_int (fun _ _ => rfl)) (pv 1) (nomark _))))))
    (pss_one (ps_ret pe_bl))
    pss_nil)
    (pss_cons (ps_if (PW.pt (pw_or (pt_not (pt_val (pe_c Cis_move_of (hr.mono (by decide)) (pa_cons (pv 0) (pa_cons (pe_ix ix_seq (pv 2) pe_int (fun _ _ => rfl)) pa_nil))))) (pw_or1 (pt_cmpR op_ne (pe_ix ix_tup (pe_ix ix_list (pe_mc0 CMachine_moves (hr.mono (by decide)) (pv 0)) (pe_ix ix_seq (pv 2) pe_int (fun _ _ => rfl)) (fun _ _ => rfl)) pe_int (fun _ _ => rfl)) (pv 1) (nomark _)))))
    (pss_one (ps_ret pe_bl))
    pss_nil)
    (pss_one (ps_ret (pe_c Care_waves (hr.mono (by decide)) (pa_cons (pv 0) (pa_cons (pe_ix ix_seq (pv 2) pe_int (fun _ _ => rfl)) pa_nil))))))), ?_⟩
  refine ⟨_, rfl, v, d, 3, rfl, hd, fun H1 e1 => ⟨_, rfl, ?_⟩⟩
  cases h3 : isRow 3 d with
  | false =>
    rw [row_not3 h3] at k
    exact iteT (k H1 e1)
  | true =>
    refine iteF ?_
    obtain ⟨a, m, wv, ek, hs⟩ := row_three h3
    obtain ⟨p, xa, xm, xw, rfl, hq, da, dm, dw⟩ := den_three hd hs ek
    have e0 : rowB r n d = (isStr n a && (mvAt r n m && isWaves r.lam wv)) := by
      unfold rowB
      rw [ek, hs]
      show (true && _) = _
      rw [Bool.true_and]
    rw [e0] at k
    refine ⟨_, rfl, rd_ix (i := 0) (hq.imp e1.er.l e1.er.t) rfl ⟨xa, a, rfl, da.mono e1.kp, fun H2 e2 => ⟨_, rfl, ?_⟩⟩⟩
    have e12 := e1.trans e2
    have hq2 := hq.imp e12.er.l e12.er.t
    cases da with
    | str z =>
      refine iteF ?_
      refine ⟨_, rfl, rd_ix (i := 0) hq2 rfl ⟨_, rfl, rfl, _, rfl, ?_⟩⟩
      rw [dec_s]
      by_cases hz : z = n
      · rw [decide_eq_true hz]
        have k1 : isStr n (.str z) = true := decide_eq_true hz
        rw [k1, Bool.true_and] at k
        refine iteF ?_
        refine ⟨_, rfl, _, rfl, rd_ix (i := 1) hq2 rfl ⟨x, xm, r, m, rfl, hm.mono e12, dm.mono e12.kp, fun H3 e3 => ⟨_, rfl, ?_⟩⟩⟩
        have e13 := e12.trans e3
        cases hmv : isMove r m with
        | false =>
          have k2 : mvAt r n m = false := by
            cases m with
            | int i =>
              have hmv : (decide (0 ≤ i) && decide (i < r.mvs.length)) = false := hmv
              show (decide (0 ≤ i) && _) = false
              by_cases h0 : 0 ≤ i
              · rw [decide_eq_true h0, Bool.true_and] at hmv ⊢
                have hmv := of_decide_eq_false hmv
                rw [List.getElem?_eq_none (by omega)]
              · rw [decide_eq_false h0, Bool.false_and]
            | _ => rfl
          rw [k2, Bool.false_and] at k
          exact iteT (k H3 e13)
        | true =>
          refine iteF ?_
          cases dm with
          | int i =>
            obtain ⟨i1, i2⟩ := He.ba (show (decide (0 ≤ i) && decide (i < r.mvs.length)) = true from hmv)
            have i1 := of_decide_eq_true i1
            have i2 := of_decide_eq_true i2
            obtain ⟨j, rfl⟩ := Int.eq_ofNat_of_zero_le i1
            have hj : j < r.mvs.length := by omega
            have hq3 := hq.imp e13.er.l e13.er.t
            have hm3 := hm.mono e13
            have hi := hm3
            obtain ⟨dx, a', b', c', d', hx, _⟩ := hi
            refine ⟨_, rfl, x, dx, _, rfl, hx, rfl, x, r, rfl, hm3, fun l H4 e4 n4 ⟨zs, hl, hds⟩ => ?_⟩
            have e14 := e13.trans e4
            obtain ⟨vz, hvz, dvz⟩ := hds.get' (i := j) (d := stT r.mvs[j]) (by rw [List.getElem?_map, List.getElem?_eq_getElem hj]; rfl)
            obtain ⟨u, rfl, hu⟩ := den_st dvz
            refine ⟨_, rfl, rd_ix (i := 1) (hq.imp e14.er.l e14.er.t) rfl ?_⟩
            refine ⟨l, _, _, .ref u, rfl, rfl, SqL.of hl, atI_nat hvz, ?_⟩
            refine ⟨u, _, 0, _, rfl, rfl, hu, rfl, _, rfl, rfl, _, rfl, ?_⟩
            have k2 : mvAt r n (.int (j : Nat)) = decide (r.mvs[j].1 = n) := by
              show (decide (0 ≤ (j : Int)) && _) = _
              rw [decide_eq_true (by omega : (0 : Int) ≤ (j : Int)), Bool.true_and, Int.toNat_natCast, List.getElem?_eq_getElem hj]
              rfl
            rw [k2] at k
            rw [dec_s]
            by_cases hn : r.mvs[j].1 = n
            · rw [decide_eq_true hn]
              rw [decide_eq_true hn, Bool.true_and] at k
              refine iteF ?_
              refine ⟨_, rfl, _, rfl, rd_ix (i := 2) (hq.imp e14.er.l e14.er.t) rfl ⟨x, xw, r, wv, rfl, hm.mono e14, R, dw.mono e14.kp, Okt.kid ho (by rw [ek]; simp), hsc wv (by rw [ek]; rfl), fun H5 e5 => k H5 (e14.trans e5)⟩⟩
            · rw [decide_eq_false hn]
              rw [decide_eq_false hn, Bool.false_and] at k
              exact iteT (k H4 e14)
          | _ => cases hmv
      · rw [decide_eq_false hz]
        have k1 : isStr n (.str z) = false := decide_eq_false hz
        rw [k1, Bool.false_and] at k
        exact iteT (k H2 e12)
    | _ => exact iteT (k H2 e12)
theorem cis_log_row (W : Wld K mg) : Cal P w K mg base 5 "is_log_row" ["machine", "state", "thing"] (spRowLog K) := by
  obtain ⟨fd, F⟩ := W.c.def_ 26 rfl
  exact ⟨⟨fd, ok_is_log_row W F, F.bindsN fun _ _ _ _ _ _ us hl => match us, hl with | [_, _, _], _ => rfl⟩, W.g_is_log_row, F.kp⟩
end
end K77

set_option Elab.async false
set_option linter.all false
set_option maxRecDepth 100000
set_option maxHeartbeats 400000
namespace K77
open PySem PySem.Spec PyProof.Rows L2 DL
/-- the first of each pair of each row is no list -/
def LogSc (d : Tr) : Prop := ∀ row ∈ kids d, ∀ w, (kids row)[2]? = some w → PairSc w
theorem row_parts {r : Raw} {n : Str} {d : Tr} (h : rowB r n d = true) : ∃ (z : Str) (j : Nat) (q : St3) (w : Tr), kids d = [.str z, .int (j : Nat), w] ∧ isSeq d = true ∧ z = n ∧ r.mvs[j]? = some q ∧ q.1 = n ∧ isWaves r.lam w = true ∧ nextOf r d = q.2.2 := by
  unfold rowB at h
  split at h
  · rename_i a m w ek
    obtain ⟨h1, h⟩ := He.ba h
    obtain ⟨h2, h⟩ := He.ba h
    obtain ⟨h3, h4⟩ := He.ba h
    cases a with
    | str z =>
      cases m with
      | int i =>
        obtain ⟨i1, i2⟩ := He.ba (show (decide (0 ≤ i) && (match r.mvs[i.toNat]? with | some q => decide (q.1 = n) | none => false)) = true from h3)
        obtain ⟨j, rfl⟩ := Int.eq_ofNat_of_zero_le (of_decide_eq_true i1)
        rw [Int.toNat_natCast] at i2
        cases hq : r.mvs[j]? with
        | none =>
          rw [hq] at i2
          cases i2
        | some q =>
          rw [hq] at i2
          refine ⟨z, j, q, w, ek, h1, of_decide_eq_true h2, hq, of_decide_eq_true i2, h4, ?_⟩
          unfold nextOf
          rw [ek]
          show ((r.mvs[(j : Int).toNat]?).map fun q : St3 => q.2.2).getD (Str.ofString "") = _
          rw [Int.toNat_natCast, hq]
          rfl
      | _ => cases h3
    | _ => cases h2
  · cases h
section
variable {P : Program} {w : World} {K : PySem.W.Frag} {mg : Str → Option Value} {base : Heap} {f : Addr} {fd : FuncData}
def spRows (K : PySem.W.Frag) : Sp := fun vs H Q _ => ∃ (x : Addr) (v : V) (r : Raw) (d : Tr), vs = [.ref x, v] ∧ MacAt K H x r ∧ RawOk r ∧ Den K true H v d ∧ (isSeq d = true → Okt 5 d ∧ LogSc d) ∧ ∀ H', Ex H H' → Q (.bl (isLogT r d)) H'
theorem sc_are_rows : FnScope ["machine", "thing", "state", "row"] ["machine", "thing"] (defScope s_are_rows) := ⟨rfl, rfl, rfl, by decide +kernel, rfl, by decide +kernel, by decide +kernel⟩
theorem ok_are_rows (W : Wld K mg) (F : FnP K "are_rows" s_are_rows f fd) : FnOk P w K mg base CX0 6 f fd ["machine", "thing"] (spRows K) := by
  have Cis_list : Cal P w K mg base 1 "is_list" ["thing"] (sp1 K isSeq) := cis_list W
  have Cis_log_row : Cal P w K mg base 5 "is_log_row" ["machine", "state", "thing"] (spRowLog K) := cis_log_row W
  have CMachine_moves : Mtd P w K mg base 1 (He.ga K "Machine") "moves" ["self"] (spGet_moves K) := cMachine_moves W
  have CMachine_states : Mtd P w K mg base 1 (He.ga K "Machine") "states" ["self"] (spGet_states K) := cMachine_states W
  refine F.ok sc_are_rows (fun vs H Q E h => ?_) (fun cdv A outer s H vs Q E hr h => ?_)
  · obtain ⟨x, v, r, d, rfl, _⟩ := h
    rfl
  obtain ⟨x, v, r, d, rfl, hm, R, hd, ho, k⟩ := h
  refine ⟨_, PSs.nox (pss_cons (ps_if (pt_not (pt_val (pe_c Cis_list (hr.mono (by decide)) (pa_cons (pv 1) pa_nil))))
    (pss_one (ps_ret pe_bl))
    pss_nil)
    (pss_cons (ps_set (i := 2) sc_are_rows.nd rfl (.inl rfl) (pe_ix ix_tup (pe_ix ix_list (pe_mc0 CMachine_states (hr.mono (by decide)) (pv 0)) pe_int (fun _ _ => rfl)) pe_int (fun _ _ => rfl)))
    (pss_cons (ps_for PassesOwn.never rfl (XN.pi_seq (pv 1)) (pg_name (i := 3) sc_are_rows.nd rfl (.inl rfl))
    (pss_cons (ps_if (pt_not (pt_val (pe_c Cis_log_row (hr.mono (by decide)) (pa_cons (pv 0) (pa_cons (pv 2) (pa_cons (pv 3) pa_nil))))))
    (pss_one (ps_ret pe_bl))
    pss_nil)
    (pss_one (ps_set (i := 2) sc_are_rows.nd rfl (.inl rfl) (pe_ix ix_tup (pe_ix ix_list (pe_mc0 CMachine_moves (hr.mono (by decide)) (pv 0)) (pe_ix ix_seq (pv 3) pe_int (fun _ _ => rfl)) (fun _ _ => rfl)) pe_int (fun _ _ => rfl))))))
    (pss_one (ps_ret pe_bl))))), ?_⟩
  refine ⟨_, rfl, v, d, rfl, hd, fun H1 e1 => ⟨_, rfl, ?_⟩⟩
  unfold isLogT at k
  cases hs : isSeq d with
  | false =>
    rw [hs] at k
    exact iteT (k H1 e1)
  | true =>
    refine iteF ?_
    rw [hs, Bool.true_and] at k
    obtain ⟨o1, o2⟩ := ho hs
    obtain ⟨p, ys, rfl, hq, hds⟩ := den_kids hd hs
    have hm1 := hm.mono e1
    have hi := hm1
    obtain ⟨dx, a', b', c', d', hx, _⟩ := hi
    refine ⟨_, rfl, x, dx, _, rfl, hx, rfl, x, r, rfl, hm1, fun l H2 e2 n2 ⟨zs, hl, hss⟩ => ?_⟩
    obtain ⟨s0, ss, es⟩ : ∃ s0 ss, r.sts = s0 :: ss := by
      cases h : r.sts with
      | nil => exact absurd h R.s0
      | cons a b => exact ⟨a, b, rfl⟩
    obtain ⟨vz, hvz, dvz⟩ := hss.get' (i := 0) (d := stT s0) (by rw [es]; rfl)
    obtain ⟨u, rfl, hu⟩ := den_st dvz
    refine ⟨l, _, 0, .ref u, rfl, rfl, SqL.of hl, atI_nat (j := 0) hvz, u, _, 0, _, rfl, rfl, hu, rfl, ?_⟩
    have e12 := e1.trans e2
    have es0 : st0 r = s0.1 := by
      unfold st0
      rw [es]
      rfl
    rw [es0] at k
    refine ⟨_, rfl, p, rfl, walk_either (hq.imp e12.er.l e12.er.t) fun J G wk hG => ?_⟩
    refine for_it wk (fun i σ H' => Ex H2 H' ∧ ∃ n o3, σ = [some (.ref x), some (.ref p), some (.str n), o3] ∧ rowsB r s0.1 (kids d) = rowsB r n ((kids d).drop i)) ⟨Ex.refl _, _, _, rfl, by rw [List.drop_zero]⟩ (fun i σ H' _ h => hG H' h.1) ?_ ?_
    · rintro i y σ H3 H4 hi ⟨e3, n, o3, rfl, hn⟩ ⟨rfl, hy⟩
      obtain ⟨dr, hdr, hyd⟩ := hds.get hy
      have hrm := List.mem_of_getElem? hdr
      have e13 := e12.trans e3
      have hil : i < (kids d).length := (List.getElem?_eq_some_iff.mp hdr).1
      have hdrop : (kids d).drop i = dr :: (kids d).drop (i + 1) := by
        rw [List.drop_eq_getElem_cons hil]
        have := (List.getElem?_eq_some_iff.mp hdr).2
        rw [this]
      rw [hdrop] at hn
      have hn : rowsB r s0.1 (kids d) = (rowB r n dr && rowsB r (nextOf r dr) ((kids d).drop (i + 1))) := hn
      refine ⟨_, rfl, _, rfl, _, rfl, x, n, y, r, dr, rfl, hm.mono e13, R, hyd.mono e13.kp, Okt.kid o1 hrm, o2 dr hrm, fun H5 e5 => ⟨_, rfl, ?_⟩⟩
      have e15 := e13.trans e5
      cases hb : rowB r n dr with
      | false =>
        rw [hb, Bool.false_and] at hn
        rw [hn] at k
        exact iteT (k H5 e15)
      | true =>
        refine iteF ?_
        rw [hb, Bool.true_and] at hn
        obtain ⟨z, j, q, wv, ek, hsd, _, hq2, hq3, _, hnx⟩ := row_parts hb
        obtain ⟨pr, xa, xm, xw, rfl, hpr, da, dm, dw⟩ := den_three (hyd.mono e15.kp) hsd ek
        cases dm
        have hm5 := hm.mono e15
        have hi5 := hm5
        obtain ⟨dx5, a5, b5, c5, d5, hx5, _⟩ := hi5
        refine ⟨_, rfl, x, dx5, _, rfl, hx5, rfl, x, r, rfl, hm5, fun l6 H6 e6 n6 ⟨ws, hl6, hws⟩ => ?_⟩
        obtain ⟨vw, hvw, dvw⟩ := hws.get' (i := j) (d := stT q) (by rw [List.getElem?_map, hq2]; rfl)
        obtain ⟨uw, rfl, huw⟩ := den_st dvw
        refine ⟨_, rfl, rd_ix (i := 1) (hpr.imp e6.er.l e6.er.t) rfl ?_⟩
        refine ⟨l6, _, _, .ref uw, rfl, rfl, SqL.of hl6, atI_nat hvw, ?_⟩
        refine ⟨uw, _, 2, _, rfl, rfl, huw, rfl, ?_⟩
        refine ⟨e3.trans (e5.trans e6), q.2.2, _, rfl, ?_⟩
        rw [hn, hnx]
    · rintro σ H3 ⟨e3, n, o3, rfl, hn⟩
      rw [hds.length, List.drop_length] at hn
      rw [hn] at k
      exact k H3 (e12.trans e3)
theorem care_rows (W : Wld K mg) : Cal P w K mg base 6 "are_rows" ["machine", "thing"] (spRows K) := by
  obtain ⟨fd, F⟩ := W.c.def_ 27 rfl
  exact ⟨⟨fd, ok_are_rows W F, F.bindsN fun _ _ _ _ _ _ us hl => match us, hl with | [_, _], _ => rfl⟩, W.g_are_rows, F.kp⟩
end
end K77

set_option Elab.async false
set_option linter.all false
set_option maxRecDepth 100000
set_option maxHeartbeats 400000
namespace K77
open PySem PySem.Spec PyProof.Rows L2 DL
/-! ### changes of a wave, its faults -/
def chB (ws : List Nat) (i : Nat) : Bool := decide (ws[i]? ≠ ws[i + 1]?)
def turns (ws : List Nat) : Nat := ((List.range (ws.length - 1)).filter (chB ws)).length
theorem ints_get {l : List Nat} {i : Nat} (h : i < l.length) : (intsV l)[i]? = some (.int (l[i] : Nat)) := by
  unfold intsV
  rw [List.getElem?_map, List.getElem?_eq_getElem h]
  rfl
theorem ints_len (l : List Nat) : (intsV l).length = l.length := by unfold intsV; rw [List.length_map]
theorem rd_ixI {K : PySem.W.Frag} {H : Hp} {p : Addr} {ys : List V} {i : Int} {v : V} {Q : VK} (hq : SqL K H p ys ∨ SqT K H p ys) (hv : atI ys i = some v) (q : Q v H) : rIx K (.ref p) (.int i) H Q := by
  rcases hq with hq | hq
  · exact .inl ⟨p, ys, _, v, rfl, rfl, hq, hv, q⟩
  · exact .inr (.inl ⟨p, ys, _, v, rfl, rfl, hq, hv, q⟩)
section
variable {P : Program} {w : World} {K : PySem.W.Frag} {mg : Str → Option Value} {base : Heap} {f : Addr} {fd : FuncData}
def spTurns (K : PySem.W.Frag) : Sp := fun vs H Q _ => ∃ (p : Addr) (ws : List Nat), vs = [.ref p] ∧ (SqL K H p (intsV ws) ∨ SqT K H p (intsV ws)) ∧ ws.length ≤ 1000 ∧ ws ≠ [] ∧ ∀ H', Ex H H' → Q (.int (turns ws : Nat)) H'
def strI (k : Nat) : Str := toString ((k : Nat) : Int)
def ifL (c : Bool) (x : Str) : List Str := if c = true then [x] else []
def wf (ws : List Nat) (b e : Str) : List Str := (ifL (!decide (strI (ws.headD 0) = b)) "begin" ++ ifL (!decide (strI (ws.getLastD 0) = e)) "end") ++ ifL (decide ((if b = e then 0 else 1) < turns ws)) "flicker"
theorem p_ifapp {K : PySem.W.Frag} {t : TT} {i : Nat} {y : Str} {u : TS} {D : Ends} {σ : L2.St} {H : Hp} {p : Addr} {xs : List Str} (c : Bool) (hs : σ[i]? = some (some (.ref p))) (hp : H p = some (.lst (strsV xs))) (hl : xs.length < 1000) (ht : ∀ Q : Bool → Hp → Prop, (∀ H1, Ex H H1 → Q c H1) → t σ H Q)
    (h : ∀ H', (∀ b o, b ≠ p → H b = some o → H' b = some o) → H' p = some (.lst (strsV (xs ++ ifL c y))) → u D σ H') :
    tSeq (tIfS t (tDrop (tBM K "list" rAppend (tVar i) (tCons (tC (.str y)) tNil))) tNext) u D σ H := by
  refine ht _ fun H1 e1 => ?_
  have hp1 := e1 _ _ hp
  cases c with
  | true =>
    refine iteT ⟨_, hs, .inl ⟨rfl, _, SqL.of hp1⟩, p, _, _, rfl, rfl, hp1, ?_, ?_⟩
    · unfold strsV
      rw [List.length_map, sizeLine_eq]
      omega
    · refine h _ (fun b o nb hb => by rw [upd_ne nb]; exact e1 b o hb) ?_
      rw [upd_same]
      unfold strsV ifL
      rw [List.map_append]
      rfl
  | false =>
    refine iteF (h _ (fun b o _ hb => e1 b o hb) ?_)
    rw [hp1]
    unfold ifL
    rw [if_neg Bool.false_ne_true, List.append_nil]
def spWf (K : PySem.W.Frag) : Sp := fun vs H Q _ => ∃ (p : Addr) (ws : List Nat) (b e : Str), vs = [.ref p, .str b, .str e] ∧ (SqL K H p (intsV ws) ∨ SqT K H p (intsV ws)) ∧ ws.length ≤ 1000 ∧ ws ≠ [] ∧ (∀ k ∈ ws, k ≤ 1) ∧ ∀ D H', Ex H H' → H D = none → H' D = some (.lst (strsV (wf ws b e))) → Q (.ref D) H'
end
end K77

set_option Elab.async false
set_option linter.all false
set_option maxRecDepth 100000
set_option maxHeartbeats 400000
namespace K77
open PySem PySem.Spec PyProof.Rows L2 DL
/-! ### names bound to the items of a list or a tuple -/
def gAny (K : PySem.W.Frag) (n : Nat) (t : TGs) : TG := fun v σ H Q => ∃ a xs, v = .ref a ∧ (SqL K H a xs ∨ SqT K H a xs) ∧ xs.length = n ∧ t xs σ H Q
theorem pg_any {X : Cx} {pos : Pos} {es : List Expr} {k : Nat} {t : TGs} {n : Nat} (hc : X.calm = true) (h : PGs X es t) (hn : (assignEach es X.env).length = n := by rfl) (hst : (assignEach es X.env).findIdx? (·.1) = none := by rfl) : PG X (.Tuple es k pos) (gAny X.K n t) := by
  have h1 := pg_tup (pos := pos) (k := k) hc h hn hst
  have h2 := pg_unl (pos := pos) (k := k) hc h hn hst
  refine ⟨fun pins s σ H v u Q I r hw => ?_⟩
  obtain ⟨a, xs, e, hq | hq, hl, hw⟩ := hw
  · exact h2.run pins s σ H v u Q I r ⟨a, xs, e, hq, hl, hw⟩
  · exact h1.run pins s σ H v u Q I r ⟨a, xs, e, hq, hl, hw⟩
/-! ### the faults of a log -/
def chS (x : Str) (i : Nat) : Str := match x.cps[i]? with
  | some c => ⟨#[c]⟩
  | none => ""
def intN : Tr → Nat
  | .int i => i.toNat
  | _ => 0
def wsOf (t : Tr) : List Nat := (kids t).map intN
abbrev Flt : Type := Nat × Str × Str
def fltT (f : Flt) : Tr := .tup [.int (f.1 : Nat), .str f.2.1, .str f.2.2]
def fltPair (at_ : Nat) (b e : Str) (i : Nat) (p : Tr) : List Flt := match kids p with
  | [.str n, t] => (wf (wsOf t) (chS b i) (chS e i)).map fun w => (at_, n, w)
  | _ => []
def lightOf (r : Raw) (n : Str) : Str := ((stOf r.sts n).map fun s => s.2.2).getD ""
def pairsN (at_ : Nat) (b e : Str) (ps : List Tr) : Nat → List Flt
  | 0 => []
  | i + 1 => pairsN at_ b e ps i ++ (match ps[i]? with | some p => fltPair at_ b e i p | none => [])
def fltRow (r : Raw) (at_ : Nat) (d : Tr) : List Flt := match kids d with
  | [.str n, .int _, w] => pairsN at_ (lightOf r n) (lightOf r (nextOf r d)) (kids w) (kids w).length
  | _ => []
def rowsN (r : Raw) (ds : List Tr) : Nat → List Flt
  | 0 => []
  | i + 1 => rowsN r ds i ++ (match ds[i]? with | some d => fltRow r i d | none => [])
def logF (r : Raw) (d : Tr) : List Flt := rowsN r (kids d) (kids d).length
theorem wf_len (ws : List Nat) (b e : Str) : (wf ws b e).length ≤ 3 := by
  have h : ∀ (c : Bool) (x : Str), (ifL c x).length ≤ 1 := fun c x => by
    unfold ifL
    split <;> simp
  unfold wf
  rw [List.length_append, List.length_append]
  have h1 := h (!decide (strI (ws.headD 0) = b)) "begin"
  have h2 := h (!decide (strI (ws.getLastD 0) = e)) "end"
  have h3 := h (decide ((if b = e then 0 else 1) < turns ws)) "flicker"
  omega
theorem pairsN_len (at_ : Nat) (b e : Str) (ps : List Tr) : ∀ i, (pairsN at_ b e ps i).length ≤ 3 * i
  | 0 => Nat.le_refl 0
  | i + 1 => by
    have h := pairsN_len at_ b e ps i
    have : (match ps[i]? with | some p => fltPair at_ b e i p | none => []).length ≤ 3 := by
      split
      · unfold fltPair
        split
        · rw [List.length_map]
          exact wf_len _ _ _
        · simp
      · simp
    unfold pairsN
    rw [List.length_append]
    omega
theorem rowsN_len {r : Raw} {ds : List Tr} (h : ∀ (d : Tr) (w : Tr), d ∈ ds → (kids d)[2]? = some w → (kids w).length ≤ 1000) : ∀ i, (rowsN r ds i).length ≤ 3000 * i
  | 0 => Nat.le_refl 0
  | i + 1 => by
    have h1 := rowsN_len (r := r) h i
    have : (match ds[i]? with | some d => fltRow r i d | none => []).length ≤ 3000 := by
      cases hd : ds[i]? with
      | none => simp
      | some d =>
        show (fltRow r i d).length ≤ 3000
        unfold fltRow
        split
        · rename_i n j w ek
          have h2 := pairsN_len i (lightOf r n) (lightOf r (nextOf r d)) (kids w) (kids w).length
          have h3 := h d w (List.mem_of_getElem? hd) (by rw [ek]; rfl)
          omega
        · simp
    unfold rowsN
    rw [List.length_append]
    omega
theorem pair_parts {n : Str} {p : Tr} (h : pairOk n p = true) : ∃ t, kids p = [.str n, t] ∧ isSeq p = true ∧ isWave t = true := by
  unfold pairOk at h
  split at h
  · rename_i a b ek
    obtain ⟨h1, h⟩ := He.ba h
    obtain ⟨h2, h3⟩ := He.ba h
    cases a with
    | str z =>
      have e : z = n := of_decide_eq_true h2
      subst e
      exact ⟨b, ek, h1, h3⟩
    | _ => cases h2
  · cases h
theorem wave_parts {t : Tr} (h : isWave t = true) : isSeq t = true ∧ kids t = (wsOf t).map (fun k => Tr.int (k : Nat)) ∧ wsOf t ≠ [] ∧ ∀ k ∈ wsOf t, k ≤ 1 := by
  unfold isWave at h
  obtain ⟨h1, h⟩ := He.ba h
  obtain ⟨h2, h3⟩ := He.ba h
  have h3 := List.all_eq_true.mp h3
  have hk : ∀ x ∈ kids t, x = Tr.int ((intN x : Nat) : Int) ∧ intN x ≤ 1 := fun x hx => by
    have z := h3 x hx
    cases x with
    | int i =>
      have z : (decide (i = 0) || decide (i = 1)) = true := z
      rcases Bool.or_eq_true_iff.mp z with z | z
      · rw [of_decide_eq_true z]
        exact ⟨rfl, Nat.zero_le _⟩
      · rw [of_decide_eq_true z]
        exact ⟨rfl, Nat.le_refl _⟩
    | _ => cases z
  refine ⟨h1, ?_, ?_, ?_⟩
  · unfold wsOf
    rw [List.map_map]
    conv => lhs; rw [← List.map_id (kids t)]
    exact List.map_congr_left fun x hx => (hk x hx).1
  · unfold wsOf
    intro z
    rw [List.map_eq_nil_iff] at z
    rw [z] at h2
    cases h2
  · intro k hk2
    obtain ⟨x, hx, rfl⟩ := List.mem_map.mp hk2
    exact (hk x hx).2
theorem dens_ints {K : PySem.W.Frag} {b : Bool} {H : Hp} : ∀ {ys : List V} {l : List Nat}, Dens K b H ys (l.map fun k => Tr.int (k : Nat)) → ys = intsV l
  | _, [], .nil => rfl
  | _, k :: l, .cons a r => by
    cases a
    rw [dens_ints r]
    rfl
/-- a wave as it stands -/
theorem den_wave {K : PySem.W.Frag} {H : Hp} {v : V} {t : Tr} (h : Den K true H v t) (hw : isWave t = true) : ∃ p, v = .ref p ∧ (SqL K H p (intsV (wsOf t)) ∨ SqT K H p (intsV (wsOf t))) := by
  obtain ⟨h1, h2, _⟩ := wave_parts hw
  obtain ⟨p, ys, rfl, hq, hds⟩ := den_kids h h1
  rw [h2] at hds
  rw [dens_ints hds] at hq
  exact ⟨p, rfl, hq⟩
theorem den_two {K : PySem.W.Frag} {H : Hp} {v : V} {d a b : Tr} (h : Den K true H v d) (hs : isSeq d = true) (ek : kids d = [a, b]) :
    ∃ p x y, v = .ref p ∧ (SqL K H p [x, y] ∨ SqT K H p [x, y]) ∧ Den K true H x a ∧ Den K true H y b := by
  obtain ⟨p, ys, rfl, hq, hds⟩ := den_kids h hs
  rw [ek] at hds
  cases hds with
  | cons da r =>
    cases r with
    | cons db r =>
      cases r
      exact ⟨p, _, _, rfl, hq, da, db⟩
theorem rows_each {r : Raw} : ∀ {ds : List Tr} {n : Str}, rowsB r n ds = true → ∀ (i : Nat) (d : Tr), ds[i]? = some d → ∃ m, rowB r m d = true
  | [], _, _, i, d, h => by cases h
  | d :: ds, n, hb, 0, e, h => by
    obtain ⟨h1, _⟩ := He.ba (show (rowB r n d && rowsB r (nextOf r d) ds) = true from hb)
    exact ⟨n, by rw [← Option.some.inj h]; exact h1⟩
  | d :: ds, n, hb, i + 1, e, h => by
    obtain ⟨_, h2⟩ := He.ba (show (rowB r n d && rowsB r (nextOf r d) ds) = true from hb)
    exact rows_each h2 i e (by simpa using h)
theorem light_len {r : Raw} (R : RawOk r) {n : Str} (h : n ∈ r.sts.map (·.1)) : ∃ s, stOf r.sts n = some s ∧ lightOf r n = s.2.2 ∧ s.2.2.length = r.lam.length ∧ s.2.2.length ≤ sizeLine := by
  obtain ⟨k, s, hk, hs, _, hf⟩ := first_st h
  have z := R.so k s hk
  refine ⟨s, hf, ?_, z.2.2.2.2, ?_⟩
  · unfold lightOf stOf
    rw [hf]
    rfl
  · rw [z.2.2.2.2, sizeLine_eq]
    have := R.ml
    omega
theorem ch_at {x : Str} {i : Nat} (h : i < x.length) : ∃ c, atI x.cps.toList (i : Nat) = some c ∧ chS x i = ⟨#[c]⟩ := by
  have hi : i < x.cps.size := h
  refine ⟨x.cps[i], atI_nat (by simp [hi]), ?_⟩
  unfold chS
  rw [Array.getElem?_eq_getElem hi]
end K77

set_option Elab.async false
set_option linter.all false
set_option maxRecDepth 100000
set_option maxHeartbeats 400000
namespace K77
open PySem PySem.Spec PyProof.Rows L2 DL
theorem walk_eitherE2 {K : PySem.W.Frag} {H0 H : Hp} {p : Addr} {ys : List V} {R : It → Hp → Prop} (hq : SqL K H0 p ys ∨ SqT K H0 p ys) (e : Ex H0 H) (h : ∀ J G, Walk J ys.length G (YPair (fun i => some (.int (i : Nat))) (fun i => ys[i]?)) → (∀ H', Ex H0 H' → G H') → R J H) : XN.EnuR K p R H :=
  hq.imp (fun q => ⟨_, e.er.l q, h _ _ walk_enum fun _ e => e.er.l q⟩) fun q => ⟨_, e.er.t q, h _ _ XN.walk_enumT fun _ e => e.er.t q⟩
theorem dens_app {K : PySem.W.Frag} {b : Bool} {H : Hp} : ∀ {xs ys : List V} {ds es : List Tr}, Dens K b H xs ds → Dens K b H ys es → Dens K b H (xs ++ ys) (ds ++ es)
  | _, _, _, _, .nil, h => h
  | _, _, _, _, .cons a r, h => .cons a (dens_app r h)
/-- new tuples of a fault each -/
theorem dens_flts {K : PySem.W.Frag} {H : Hp} {a : Nat} {n : Str} : ∀ {zs : List V} {l : List Str}, zs.length = l.length → (∀ (j : Nat) z, zs[j]? = some z → ∃ x u, l[j]? = some x ∧ z = .ref u ∧ H u = some (.tup [.int (a : Nat), .str n, .str x])) → Dens K true H zs ((l.map fun w => ((a, n, w) : Flt)).map fltT)
  | [], [], _, _ => .nil
  | z :: zs, x :: l, hl, h => by
    obtain ⟨y, u, h1, rfl, h3⟩ := h 0 z rfl
    obtain rfl := Option.some.inj h1
    exact .cons (.tup (SqT.of h3) (.cons (.int _) (.cons (.str _) (.cons (.str _) .nil)))) (dens_flts (by simpa using hl) fun j w hw => h (j + 1) w (by simpa using hw))
/-- a comprehension over a list whose turns make values one by one, the new list known -/
theorem lc_mapD {J : It} {G : Hp → Prop} {xs : List V} (w : Walk J xs.length G (YAt xs)) {g : TG} {te : TE} {vs : List Nat} {σ : L2.St} {H1 : Hp} {D : Addr} {Qd : Hp → Prop} (R : Nat → V → Hp → Prop) (hn : xs.length < sizeLine) (hD : H1 D = none) (hG : ∀ H, Ex H1 H → G H)
    (hR : ∀ i v (H H' : Hp), R i v H → (∀ b o, b ≠ D → H b = some o → H' b = some o) → R i v H')
    (hs : ∀ (i : Nat) x H (Q : VK), xs[i]? = some x → Ex H1 H → (∃ acc, H D = some (.lst acc)) → (∀ y H4, Ex H H4 → R i y H4 → Q y H4) → g x (wipe σ vs) H fun σ2 H2 => wipe σ2 vs = wipe σ vs ∧ te σ2 H2 Q)
    (hd : ∀ H ys, H D = some (.lst ys) → ys.length = xs.length → Ex H1 H → (∀ (j : Nat) v, ys[j]? = some v → R j v H) → Qd H) :
    ∃ W : Nat → Nat → Hp → Prop, (∃ m, W 0 m (upd H1 D (.lst []))) ∧ ∀ i m H, W i m H →
      (J.stop i H ∧ Qd H) ∨ (J.go i H ∧ ∃ Nx : Hp → Prop, (∀ H', Nx H' → ∃ m', m' < m ∧ W (i + 1) m' H') ∧ ∀ x H', J.yld i H x H' → g x (wipe σ vs) H' fun σ2 H2 => wipe σ2 vs = wipe σ vs ∧ tYes σ2 H2 fun b H3 =>
        if b = true then te σ2 H3 fun y H4 => ∃ acc, H4 D = some (.lst acc) ∧ acc.length < sizeLine ∧ Nx (upd H4 D (.lst (acc ++ [y]))) else Nx H3) := by
  refine lc_it w (fun i H => Coll H1 D R i H) ⟨[], upd_same, rfl, (Ex.refl H1).new hD, fun j v h => by simp at h⟩ (fun i H _ h => hG H h.choose_spec.2.2.1) ?_ fun H ⟨acc, h1, h2, h3, h4⟩ => hd H acc h1 h2 h3 h4
  rintro i x H H' hi ⟨acc, hacc, hl, e, hr⟩ ⟨rfl, hx⟩
  show g x (wipe σ vs) H' (fun σ2 H2 => wipe σ2 vs = wipe σ vs ∧ (if true = true then te σ2 H2 (fun y H4 => ∃ acc, H4 D = some (.lst acc) ∧ acc.length < sizeLine ∧ Coll H1 D R (i + 1) (upd H4 D (.lst (acc ++ [y])))) else Coll H1 D R (i + 1) H2))
  have e0 : ∀ (A B : Prop), (if true = true then A else B) = A := fun _ _ => if_pos rfl
  simp only [e0]
  refine hs i x H' _ hx e ⟨acc, hacc⟩ fun z H4 e4 rz => ?_
  have hD4 := e4 D _ hacc
  refine ⟨acc, hD4, by omega, acc ++ [z], upd_same, by simp [hl], fun b o hb => ?_, fun j v hj => ?_⟩
  · rw [upd_ne (ne_of_none hb hD)]
    exact e4 b o (e b o hb)
  · have keep : ∀ b o, b ≠ D → H4 b = some o → upd H4 D (.lst (acc ++ [z])) b = some o := fun b o nb hb => by
      rw [upd_ne nb]
      exact hb
    by_cases hj2 : j < acc.length
    · rw [List.getElem?_append_left hj2] at hj
      exact hR j v H4 _ (hR j v H' H4 (hr j v hj) fun b o _ hb => e4 b o hb) keep
    · have hj3 : j = acc.length := by
        have := (List.getElem?_eq_some_iff.mp hj).1
        simp at this
        omega
      subst hj3
      have hj : z = v := by simpa using hj
      subst hj
      rw [hl]
      exact hR i z H4 _ rz keep
section
variable {P : Program} {w : World} {K : PySem.W.Frag} {mg : Str → Option Value} {base : Heap} {f : Addr} {fd : FuncData}
def spFaults (K : PySem.W.Frag) : Sp := fun vs H Q _ => ∃ (x : Addr) (v : V) (r : Raw) (d : Tr), vs = [.ref x, v] ∧ MacAt K H x r ∧ RawOk r ∧ Den K true H v d ∧ Okt 5 d ∧ isLogT r d = true ∧
  ∀ F ys H', Ex H H' → H F = none → H' F = some (.lst ys) → Dens K true (wo F H') ys ((logF r d).map fltT) → Q (.ref F) H'
end
end K77

set_option Elab.async false
set_option linter.all false
set_option maxRecDepth 100000
set_option maxHeartbeats 2000000
namespace XT
open PySem PySem.Spec PyProof.Rows L2
/-! several except clauses, each with the same name for what it caught -/
abbrev Hd : Type := Value × (Addr → Value → Option Addr → TS)
def ends (i : Nat) (D : Ends) : Ends := { nx := fun σ H => D.nx (σ.set i none) H, rt := D.rt, bk := fun σ H => D.bk (σ.set i none) H, ct := fun σ H => D.ct (σ.set i none) H }
def wAll (K : PySem.W.Frag) (i : Nat) (Wout : WX) (D : Ends) : List Hd → WX
  | [] => Wout
  | (c, ts) :: r => fun cls d σ H => ∃ b, PySem.W.exmOne K cls c = some b ∧ (b = true → ∀ a, H a = none → ts a cls d (ends i D) (σ.set i (some (.ref a))) H) ∧ (b = false → wAll K i Wout D r cls d σ H)
inductive HdsA (X : Cx) (n : Str) : List ExceptHandler → List Hd → Prop
  | nil : HdsA X n [] []
  | cons {x : Str} {c : Value} {ts : Addr → Value → Option Addr → TS} {b₀ : Stmt} {suite : List Stmt} {np pos' : Pos} {hds : List ExceptHandler} {l : List Hd} (hc : Names X x c)
      (hsu : ∀ (a : Addr) (oe : Obj) (cls : Value) (d : Option Addr) (pn : List (Addr × Obj)), Zc cls d oe → (∃ vs, oe.data = .fields vs) → PSs (X.suite a ((a, oe) :: pn)) (b₀ :: suite) (ts a cls d)) (r : HdsA X n hds l) :
      HdsA X n (.ExceptHandler (some (.Name x np)) (some n) (b₀ :: suite) pos' :: hds) ((c, ts) :: l)
section
variable {X : Cx} {n : Str} {i : Nat} {body : List Stmt} {h₀ : ExceptHandler} {hds : List ExceptHandler} {l : List Hd} {pos : Pos} {tb : WX → TS} {Wout : WX}
theorem ps_try_all (hs : X.stack = X.env :: X.outer) (hf : X.env.frame = some X.env.locals) (hN : X.N.Nodup) (hi : X.N[i]? = some n) (hln : X.env.kindOf n = some .local) (tk : Takes X Wout)
    (hb : ∀ (W : WX) (pn : List (Addr × Obj)) (xe : Value → Shared → Prop), Takes (X.tr pn xe) W → PassesOwn (model X.prog X.w) X.A X.env xe → PSs (X.tr pn xe) body (tb W))
    (hh : HdsA X n (h₀ :: hds) l) : PS X (.Try body (h₀ :: hds) [] [] pos) (fun D σ H => tb (wAll X.K i Wout D l) D σ H) := by
  refine ⟨fun pins s σ H D I h => ?_⟩
  have ok := I.ok
  have hfr : X.A.frames = some (X.env :: X.outer) := by rw [ok.frames, hs]
  have hloc : Loc X.env.scope n := .inl hln
  refine wpAny_Try_except ?_
  refine wpAny_mono ((hb (wAll X.K i Wout D l) (X.pn ++ pins) (fun e s₁ => wpAny (model X.prog X.w) X.A (noteFrame e X.env) (fun _ s₂ => wpAny (model X.prog X.w) X.A (setFlight e none) (fun _ s₃ =>
    wpAny (model X.prog X.w) X.A (handleBy e X.env (h₀ :: hds)) (SP X pins D) X.xe s₃) X.xe s₂) X.xe s₁) (fun u s' xx => ?_) PassesOwn.looking).run [] s σ H D (I.toTry _) h) (fun f s1 hsp => ?_) (fun e s1 he => he)
  · obtain ⟨a, B, sI, pins', σ', H', cls, d, rfl, J', nb, up, sky, na, os, ag, w⟩ := xx
    have J : Inv X pins σ' H' sI := J'.ofTry ok
    have sky' : Sky B (X.env :: X.outer) a (Zc cls d) X.env.locals s'.heap := by rw [← hs]; exact sky
    show wpAny (model X.prog X.w) X.A (noteFrame (.ref a) X.env) _ _ _
    refine Sky.land Zc.steady hfr hf sky' fun h3 fl3 up3 => ?_
    have J3 : Inv X pins σ' H' { s' with heap := h3 } := J.landed nb fl3.1 (up.trans up3) os ag
    obtain ⟨oe3, vs3, he3, hz3, hd3⟩ := fl3.there
    have notFr : ∀ {h : Heap} {o : Obj} {vs : Array Value}, h.FunFrames B (X.env :: X.outer) → h.get? a = some o → o.data = .fields vs → a ∉ frs (X.env :: X.outer) := fun {h o vs} ff e dd hm => by
      obtain ⟨_, o', e', hnf⟩ := ff.mem hm
      rw [e] at e'; cases e'
      exact hnf _ dd
    have nfr := notFr fl3.2.2.1 he3 hd3
    have nL : a ≠ X.env.locals := fun z => nfr (List.mem_filterMap.mpr ⟨X.env, List.mem_cons_self, by rw [hf, z]⟩)
    have nF : a ∉ X.fs := fun hm => by
      obtain ⟨e, he, q⟩ := List.mem_filterMap.mp hm
      exact nfr (List.mem_filterMap.mpr ⟨e, List.mem_cons_of_mem _ he, q⟩)
    have S3 := J3.suite he3 hd3 na nL nF
    have go : ∀ {hds' : List ExceptHandler} {l' : List Hd}, HdsA X n hds' l' → wAll X.K i Wout D l' cls d σ' H' →
        wpAny (model X.prog X.w) X.A (handleBy (.ref a) X.env hds') (SP X pins D) X.xe { s' with heap := h3 } := by
      intro hds' l' hk
      induction hk with
      | nil =>
        intro w
        refine wpAny_handleBy_nil ?_
        obtain ⟨k1, k2, k3, oe, vs, T, oT, ts', he, hz, hd, h1, hr⟩ := id fl3
        unfold PySem.passOn
        refine wpAny_bind (wpAny_field he hd h1 ?_)
        rw [if_neg (show ¬ ((Value.ref T == Value.none) = true) from by simp)]
        have fin : wpAny (model X.prog X.w) X.A (setFlight (.ref a) X.env.frame) (fun _ s4 => wpAny (model X.prog X.w) X.A (throw (.ref a) : Sem Flow) (SP X pins D) X.xe s4) X.xe { s' with heap := h3 } := by
          rw [hf]
          refine HandSPX.setFlight_upZ fl3 fun h4 hh4 up4 => wpAny_throw (tk _ _ ?_)
          exact ⟨a, B, sI, pins, σ', H', cls, d, rfl, J, nb, (up.trans up3).trans up4, .inr (.inr (by rw [hs]; exact hh4)), na, os, ag, w⟩
        first
          | exact wpAny_bind (wpAny_pure (wpAny_bind fin))
          | exact wpAny_bind fin
      | @cons x c ts b₀ suite np pos' hds2 l2 hc hsu r ih =>
        intro w
        obtain ⟨b, hb1, hyes, hno⟩ := w
        refine wpAny_handleBy_cons (codeAny_handlers_test ?_) (by intro q; cases q)
        have LT : PySem.W.Looks (model X.prog X.w) h3 (typeOf (.ref a)) cls := fun A Q E s k q => wpAny_typeOf_ref (k _ _ he3) (by rw [hz3.1]; exact q)
        have LM := PySem.W.exm_one (M := model X.prog X.w) (J3.kIn) LT hb1
        have test : ∀ {Q : Value → Shared → Prop} {E : Value → Shared → Prop}, Q c { s' with heap := h3 } → wpAny (model X.prog X.w) (X.A.mark (some (.ref a))) (eval (.Name x np) X.env) Q E { s' with heap := h3 } := fun {Q E} q => by
          obtain ⟨hg, hdbg, hm | ⟨hm, hv, hnn⟩⟩ := hc
          · exact ld_glob (X := X.suite a ((a, oe3) :: (X.pn ++ pins))) S3 hg hm q hdbg
          · exact ld_blt (X := X.suite a ((a, oe3) :: (X.pn ++ pins))) S3 hg hm hv q hnn hdbg
        refine test (LM.here ?_)
        cases b with
        | true =>
          refine codeAny_handlers_suite_as ?_
          refine HandSPX.lands_againZ fl3 fun h4 fl4 up4 => ?_
          have J4 : Inv X pins σ' H' { s' with heap := h4 } := J.landed nb fl4.1 ((up.trans up3).trans up4) os ag
          obtain ⟨oe4, vs4, he4, hz4, hd4⟩ := fl4.there
          have S4 := J4.suite he4 hd4 na nL nF
          refine store_ok (X := X.suite a ((a, oe4) :: (X.pn ++ pins))) (v := .ref a) S4 hN hi hloc rfl (fun s5 S5 => ?_) (.inr hln)
          refine wpAny_mono ((hsu a oe4 cls d (X.pn ++ pins) hz4 ⟨_, hd4⟩).run [] s5 _ H' _ S5 (hyes rfl a na)) (fun f s6 hsp => ?_) (fun _ _ z => False.elim z)
          have end_ : ∀ {σ6 : L2.St} {H6 : Hp} {Q : Shared → Prop}, Inv (X.suite a ((a, oe4) :: (X.pn ++ pins))) [] σ6 H6 s6 → (∀ s7, Inv X pins (σ6.set i none) H6 s7 → Q s7) →
              wpAny (model X.prog X.w) X.A (do bindName X.env n .none; unbindBehindTheSuite X.env n pos') (fun _ s7 => Q s7) X.xe s6 := fun {σ6 H6 Q} S6 hq => gone_ok (S6.unsuite ok) hN hi hln hq
          cases f with
          | next =>
            obtain ⟨σ6, H6, S6, q6⟩ := hsp
            exact end_ S6 fun s7 J7 => ⟨_, _, J7, q6⟩
          | brk =>
            obtain ⟨σ6, H6, S6, q6⟩ := hsp
            exact end_ S6 fun s7 J7 => ⟨_, _, J7, q6⟩
          | cont =>
            obtain ⟨σ6, H6, S6, q6⟩ := hsp
            exact end_ S6 fun s7 J7 => ⟨_, _, J7, q6⟩
          | ret u =>
            obtain ⟨v6, σ6, H6, S6, r6, q6⟩ := hsp
            exact end_ S6 fun s7 J7 => ⟨_, _, _, J7, r6, q6⟩
        | false =>
          show wpAny _ X.A (handleBy (.ref a) X.env hds2) _ _ _
          exact ih (hno rfl)
    exact go hh w
  · cases f with
    | next =>
      obtain ⟨σ', H', J', q⟩ := hsp
      exact wpAny_execs_nil ⟨σ', H', J'.ofTry ok, q⟩
    | brk =>
      obtain ⟨σ', H', J', q⟩ := hsp
      exact ⟨σ', H', J'.ofTry ok, q⟩
    | cont =>
      obtain ⟨σ', H', J', q⟩ := hsp
      exact ⟨σ', H', J'.ofTry ok, q⟩
    | ret u =>
      obtain ⟨v, σ', H', J', r, q⟩ := hsp
      exact ⟨v, σ', H', J'.ofTry ok, r, q⟩
end
end XT

set_option Elab.async false
set_option linter.all false
set_option maxRecDepth 100000
set_option maxHeartbeats 400000
namespace K77
open PySem PySem.Spec PyProof.Rows L2 DL
/-! ### defs that raise -/
structure CalR (P : Program) (w : World) (K : PySem.W.Frag) (mg : Str → Option Value) (base : Heap) (k : Nat) (x : Str) (ps : List Str) (sp : Sp) : Prop where
  ex : ∃ fd, FnOk P w K mg base (L2.CX P w) k (He.ga K x) fd ps sp ∧ Binds K fd ps []
  gl : mg x = some (.ref (He.ga K x))
  kp : PySem.W.keepIn K (.ref (He.ga K x)) = true
theorem pe_r {X : Cx} {k : Nat} {x : Str} {ps : List Str} {sp : Sp} {E : XK} {p pos : Pos} {e : Expr} {es : List Expr} {t : TA} (C : CalR X.prog X.w X.K X.mg X.base k x ps sp) (hr : Room k X.A) (hx : Passes (L2.CX X.prog X.w) X E) (ha : PA X (e :: es) t) (hg : Gl X x := by rfl)
    (hdb : (x == ("__debug__" : Str)) = false := by decide) (he : starEach (e :: es) X.env = (false, eval e X.env) :: starEach es X.env := by rfl) (hpl : (backTo pos (starEach es X.env)).any (·.1) = false := by rfl) :
    PE X (.Call (.Name x p) (e :: es) [] pos) (tCall sp [] E t) := by
  obtain ⟨fd, F, b⟩ := C.ex
  exact pe_call F hr hg C.gl C.kp b .nil hx ha hdb he hpl
/-- built-in data: no machine -/
def NotM (K : PySem.W.Frag) (H : Hp) (x : V) : Prop := ∃ T : String, TyX K H x (.type T) ∧ (PySem.fastFind? T).isSome = true
theorem find_ty (d : Tr) : (PySem.fastFind? (tyN d)).isSome = true := by
  cases d <;> (simp only [tyN]; decide +kernel)
theorem den_not {K : PySem.W.Frag} {b : Bool} {H : Hp} {v : V} {d : Tr} (h : Den K b H v d) : NotM K H v := ⟨tyN d, h.ty, find_ty d⟩
/-- a new error of the class that keeps v -/
def Err (K : PySem.W.Frag) (C f : Str) (v : V) (H : Hp) (E : XK) : Prop := ∀ d, H d = none → E (.ref (He.ga K C)) (some d) (upd H d (.xd [(f, v)]))
section
variable {P : Program} {w : World} {K : PySem.W.Frag} {mg : Str → Option Value} {base : Heap} {f : Addr} {fd : FuncData}
def spNeedM (K : PySem.W.Frag) : Sp := fun vs H Q E => ∃ x : V, vs = [x] ∧ ((∃ a r, x = .ref a ∧ MacAt K H a r ∧ Q .non H) ∨ (NotM K H x ∧ Err K "BadMachine" "machine" x H E))
theorem sc_need_machine : FnScope ["machine"] ["machine"] (defScope s_need_machine) := ⟨rfl, rfl, rfl, by decide +kernel, rfl, by decide +kernel, by decide +kernel⟩
theorem ok_need_machine (W : Wld K mg) (F : FnP K "need_machine" s_need_machine f fd) : FnOk P w K mg base (L2.CX P w) 2 f fd ["machine"] (spNeedM K) := by
  refine F.ok sc_need_machine (fun vs H Q E h => ?_) (fun cdv A outer s H vs Q E hr h => ?_)
  · obtain ⟨x, rfl, _⟩ := h
    rfl
  have tk : Takes (cxOf (L2.CX P w) P w K mg base ["machine"] "need_machine" (defScope s_need_machine) f cdv A outer s H E) (fun cls d _ H => E cls d H) := takes_of rfl rfl rfl rfl
  obtain ⟨x, rfl, h⟩ := h
  refine ⟨_, (pss_one (ps_if (pt_not (pt_val (pe_callB call_isi (by rfl) W.n_isinstance (by decide +kernel) (pa_cons (pv 0) (pa_cons (pe_glob (v := .ref (He.ga K "Machine")) (by rfl) W.g_Machine rfl) pa_nil)))))
    (pss_one (ps_raise rfl tk (XR.pmk_x (W.x_BadMachine).t (W.x_BadMachine).g (W.x_BadMachine).k (W.x_BadMachine).c.hs (W.x_BadMachine).l.ty hr (pa_cons (pv 0) pa_nil))))
    pss_nil)), ?_⟩
  rcases h with ⟨a, r, rfl, hm, k⟩ | ⟨⟨T, hT, hf⟩, k⟩
  · obtain ⟨dx, a1, b1, c1, d1, hx, _⟩ := hm
    exact XM.rd_own W.c_Machine W.i_Machine rfl hx ⟨_, rfl, iteF k⟩
  · refine XM.rd_not W.i_Machine rfl hT hf ⟨_, rfl, iteT ?_⟩
    exact ⟨_, rfl, x, rfl, k⟩
theorem cneed_machine (W : Wld K mg) : CalR P w K mg base 2 "need_machine" ["machine"] (spNeedM K) := by
  obtain ⟨fd, F⟩ := W.c.def_ 20 rfl
  exact ⟨⟨fd, ok_need_machine W F, F.bindsN fun _ _ _ _ _ _ us hl => match us, hl with | [_], _ => rfl⟩, W.g_need_machine, F.kp⟩
/-- what is asked of a machine and any object, or the machine refused -/
def spAsk (K : PySem.W.Frag) (Yes : Addr → Raw → V → Tr → Hp → VK → XK → Prop) : Sp := fun vs H Q E => ∃ x v : V, vs = [x, v] ∧
  ((∃ a r d, x = .ref a ∧ MacAt K H a r ∧ RawOk r ∧ Den K true H v d ∧ (isSeq d = true → Okt 5 d ∧ LogSc d) ∧ Yes a r v d H Q E) ∨ (NotM K H x ∧ Err K "BadMachine" "machine" x H E))
def yIs : Addr → Raw → V → Tr → Hp → VK → XK → Prop := fun _ r _ d H Q _ => ∀ H', Ex H H' → Q (.bl (isLogT r d)) H'
def yNeed (K : PySem.W.Frag) : Addr → Raw → V → Tr → Hp → VK → XK → Prop := fun _ r v d H Q E => (isLogT r d = true → ∀ H', Ex H H' → Q .non H') ∧ (isLogT r d = false → ∀ H', Ex H H' → Err K "BadLog" "log" v H' E)
theorem sc_need_log : FnScope ["machine", "log"] ["machine", "log"] (defScope s_need_log) := ⟨rfl, rfl, rfl, by decide +kernel, rfl, by decide +kernel, by decide +kernel⟩
theorem ok_need_log (W : Wld K mg) (F : FnP K "need_log" s_need_log f fd) : FnOk P w K mg base (L2.CX P w) 7 f fd ["machine", "log"] (spAsk K (yNeed K)) := by
  have Cneed_machine : CalR P w K mg base 2 "need_machine" ["machine"] (spNeedM K) := cneed_machine W
  have Care_rows : Cal P w K mg base 6 "are_rows" ["machine", "thing"] (spRows K) := care_rows W
  refine F.ok sc_need_log (fun vs H Q E h => ?_) (fun cdv A outer s H vs Q E hr h => ?_)
  · obtain ⟨x, v, rfl, _⟩ := h
    rfl
  have tk : Takes (cxOf (L2.CX P w) P w K mg base ["machine", "log"] "need_log" (defScope s_need_log) f cdv A outer s H E) (fun cls d _ H => E cls d H) := takes_of rfl rfl rfl rfl
  have px : Passes (L2.CX P w) (cxOf (L2.CX P w) P w K mg base ["machine", "log"] "need_log" (defScope s_need_log) f cdv A outer s H E) E := passes_call tk fun _ _ _ _ h => h
  obtain ⟨x, v, rfl, h⟩ := h
  refine ⟨_, (pss_cons (ps_expr (pe_r Cneed_machine (hr.mono (by decide)) px (pa_cons (pv 0) pa_nil)))
    (pss_one (ps_if (pt_not (pt_val (pe_c Care_rows (hr.mono (by decide)) (pa_cons (pv 0) (pa_cons (pv 1) pa_nil)))))
    (pss_one (ps_raise rfl tk (XR.pmk_x (W.x_BadLog).t (W.x_BadLog).g (W.x_BadLog).k (W.x_BadLog).c.hs (W.x_BadLog).l.ty hr (pa_cons (pv 1) pa_nil))))
    pss_nil))), ?_⟩
  rcases h with ⟨a, r, d, rfl, hm, R, hd, ho, k1, k2⟩ | ⟨n, k⟩
  · refine ⟨_, rfl, _, rfl, .inl ⟨a, r, rfl, hm, ?_⟩⟩
    refine ⟨_, rfl, _, rfl, a, v, r, d, rfl, hm, R, hd, ho, fun H' e => ?_⟩
    refine ⟨_, rfl, ?_⟩
    cases hb : isLogT r d with
    | true => exact iteF (k1 hb H' e)
    | false => exact iteT ⟨_, rfl, v, rfl, k2 hb H' e⟩
  · exact ⟨_, rfl, _, rfl, .inr ⟨n, k⟩⟩
theorem cneed_log (W : Wld K mg) : CalR P w K mg base 7 "need_log" ["machine", "log"] (spAsk K (yNeed K)) := by
  obtain ⟨fd, F⟩ := W.c.def_ 28 rfl
  exact ⟨⟨fd, ok_need_log W F, F.bindsN fun _ _ _ _ _ _ us hl => match us, hl with | [_, _], _ => rfl⟩, W.g_need_log, F.kp⟩
def yFaults (K : PySem.W.Frag) : Addr → Raw → V → Tr → Hp → VK → XK → Prop := fun _ r v d H Q E => (isLogT r d = true → ∀ F ys H', Ex H H' → H F = none → H' F = some (.lst ys) → Dens K true (wo F H') ys ((logF r d).map fltT) → Q (.ref F) H') ∧ (isLogT r d = false → ∀ H', Ex H H' → Err K "BadLog" "log" v H' E)
theorem log_seq {r : Raw} {d : Tr} (h : isLogT r d = true) : isSeq d = true := (He.ba (show (isSeq d && rowsB r (st0 r) (kids d)) = true from h)).1
end
end K77

set_option Elab.async false
set_option linter.all false
set_option maxRecDepth 100000
set_option maxHeartbeats 400000
namespace K77
open PySem PySem.Spec PyProof.Rows L2 DL
/-! ### drawn things -/
/-- the heap without the draws -/
noncomputable abbrev hs (a c : Addr) (H : Hp) : Hp := hid (fun b => b = a ∨ b = c) H
theorem hs_some {a c b : Addr} {H : Hp} {o : HO} (h : hs a c H b = some o) : b ≠ a ∧ b ≠ c ∧ H b = some o := by
  obtain ⟨h1, h2⟩ := hid_some.mp h
  exact ⟨fun z => h1 (.inl z), fun z => h1 (.inr z), h2⟩
theorem hs_at {a c b : Addr} {H : Hp} {o : HO} (h1 : b ≠ a) (h2 : b ≠ c) (h : H b = some o) : hs a c H b = some o := hid_some.mpr ⟨fun z => z.elim h1 h2, h⟩
theorem Bar.hs {a c : Addr} {H H' : Hp} (h : Bar a c H H') : Ex (hs a c H) (hs a c H') := fun b o q => by
  obtain ⟨h1, h2, h3⟩ := hs_some q
  exact hs_at h1 h2 (h b o h1 h2 h3)
theorem hs_bar {a c : Addr} {H H' : Hp} (h : Ex (hs a c H) (hs a c H')) : Bar a c H H' := fun b o h1 h2 h3 => (hs_some (h b o (hs_at h1 h2 h3))).2.2
theorem hs_ex {a c : Addr} {H : Hp} : Ex (hs a c H) H := hid_ex
theorem hs_of {a c : Addr} {H H' : Hp} (e : Ex H H') : Ex (hs a c H) (hs a c H') := fun b o q => by
  obtain ⟨h1, h2, h3⟩ := hs_some q
  exact hs_at h1 h2 (e b o h3)
theorem StAt.ne {a c : Addr} {H : Hp} {N : Nat} (h : StAt H a c N) : (∃ o, H a = some o) ∧ ∃ o, H c = some o := by
  obtain ⟨ns, cur, cnt, mix, h1, h2, _⟩ := h
  exact ⟨⟨_, h1⟩, ⟨_, h2⟩⟩
theorem StAt.fresh {a c p : Addr} {H : Hp} {N : Nat} (h : StAt H a c N) (hp : H p = none) : p ≠ a ∧ p ≠ c := by
  obtain ⟨⟨o, h1⟩, ⟨u, h2⟩⟩ := h.ne
  exact ⟨(ne_of_none h1 hp).symm, (ne_of_none h2 hp).symm⟩
theorem StAt.keep {a c : Addr} {H H' : Hp} {N : Nat} (h : StAt H a c N) (ha : ∀ o, H a = some o → H' a = some o) (hc : ∀ o, H c = some o → H' c = some o) : StAt H' a c N := by
  obtain ⟨ns, cur, cnt, mix, h1, h2, h3⟩ := h
  exact ⟨ns, cur, cnt, mix, ha _ h1, hc _ h2, h3⟩
theorem StAt.mono {a c : Addr} {H H' : Hp} {N : Nat} (h : StAt H a c N) (e : Ex H H') : StAt H' a c N := h.keep (fun o => e a o) fun o => e c o
theorem StAt.le {a c : Addr} {H : Hp} {N M : Nat} (h : StAt H a c N) (l : N ≤ M) : StAt H a c M := by
  obtain ⟨ns, cur, cnt, mix, h1, h2, h3, h4, h5, h6, h7⟩ := h
  exact ⟨ns, cur, cnt, mix, h1, h2, h3, h4, h5, by omega, h7⟩
/-- a list that is no part of the draws: written, the draws stand -/
theorem StAt.put {a c p : Addr} {H : Hp} {N : Nat} {o : HO} (h : StAt H a c N) (h1 : p ≠ a) (h2 : p ≠ c) : StAt (upd H p o) a c N := h.keep (fun u q => by rw [upd_ne h1.symm]; exact q) fun u q => by rw [upd_ne h2.symm]; exact q
theorem seqIx {j n : Nat} (h : j < n) : seqIndex? (j : Nat) n = some j := by
  have e : ¬ ((j : Int) < 0) := by omega
  simp only [seqIndex?, if_neg e]
  rw [if_pos]
  · rfl
  · rw [Bool.and_eq_true]
    exact ⟨decide_eq_true (by omega), decide_eq_true (by omega)⟩
section
variable {P : Program} {w : World} {K : PySem.W.Frag} {mg : Str → Option Value} {base : Heap} {f : Addr} {fd : FuncData}
def spOne (K : PySem.W.Frag) : Sp := fun vs H Q _ => ∃ (a c p : Addr) (N : Nat) (xs : List V), vs = [.ref a, .ref p] ∧ StAt H a c N ∧ N + 1 < 1099511627776 ∧ SqL K (hs a c H) p xs ∧ xs ≠ [] ∧ xs.length < 1000000 ∧
  ∀ v H', v ∈ xs → StAt H' a c (N + 1) → Bar a c H H' → Q v H'
theorem sc_law_one : FnScope ["state", "things"] ["state", "things"] (defScope s_law_one) := ⟨rfl, rfl, rfl, by decide +kernel, rfl, by decide +kernel, by decide +kernel⟩
theorem ok_law_one (W : Wld K mg) (F : FnP K "_law_one" s_law_one f fd) : FnOk P w K mg base CX0 3 f fd ["state", "things"] (spOne K) := by
  have C_law_pick : Cal P w K mg base 2 "_law_pick" ["state", "many"] spPick := c_law_pick W
  refine F.ok sc_law_one (fun vs H Q E h => ?_) (fun cdv A outer s H vs Q E hr h => ?_)
  · obtain ⟨a, c, p, N, xs, rfl, _⟩ := h
    rfl
  obtain ⟨a, c, p, N, xs, rfl, hS, hN, hp, h0, hl, k⟩ := h
  refine ⟨_, PSs.nox (pss_one (ps_ret (pe_ix ix_list (pv 1) (pe_c C_law_pick (hr.mono (by decide)) (pa_cons (pv 0) (pa_cons (pe_callB call_len_seq (by rfl) W.n_len (by decide +kernel) (pa_cons (pv 1) pa_nil)) pa_nil))) (fun _ _ => rfl)))), ?_⟩
  have xl : 0 < xs.length := List.length_pos_iff.mpr h0
  refine ⟨_, rfl, _, rfl, _, rfl, p, xs, rfl, .inl (hs_ex.er.l hp), ?_⟩
  refine ⟨a, c, N, xs.length, rfl, hS, by omega, by omega, by omega, fun r H' r0 r1 hS' hb => ?_⟩
  obtain ⟨i, rfl⟩ := Int.eq_ofNat_of_zero_le r0
  have hi : i < xs.length := by omega
  exact ⟨p, xs, _, xs[i], rfl, rfl, hs_ex.er.l (hb.hs.er.l hp), atI_nat (List.getElem?_eq_getElem hi), k _ H' (List.getElem_mem hi) hS' hb⟩
theorem c_law_one (W : Wld K mg) : Cal P w K mg base 3 "_law_one" ["state", "things"] (spOne K) := by
  obtain ⟨fd, F⟩ := W.c.def_ 34 rfl
  exact ⟨⟨fd, ok_law_one W F, F.bindsN fun _ _ _ _ _ _ us hl => match us, hl with | [_, _], _ => rfl⟩, W.g_law_one, F.kp⟩
/-- all of a list in some order (told: as many, each of them from there) -/
def spMixed (K : PySem.W.Frag) : Sp := fun vs H Q _ => ∃ (a c p : Addr) (N : Nat) (xs : List V), vs = [.ref a, .ref p] ∧ StAt H a c N ∧ N + xs.length < 1099511627776 ∧ SqL K (hs a c H) p xs ∧ xs.length < 100000 ∧
  ∀ D ys H', ys.length = xs.length → (∀ y ∈ ys, y ∈ xs) → StAt H' a c (N + xs.length) → Bar a c H H' → H D = none → H' D = some (.lst ys) → Q (.ref D) H'
theorem sc_law_mixed : FnScope ["state", "things", "left", "found", "k"] ["state", "things"] (defScope s_law_mixed) := ⟨rfl, rfl, rfl, by decide +kernel, rfl, by decide +kernel, by decide +kernel⟩
theorem ok_law_mixed (W : Wld K mg) (F : FnP K "_law_mixed" s_law_mixed f fd) : FnOk P w K mg base CX0 3 f fd ["state", "things"] (spMixed K) := by
  have C_law_pick : Cal P w K mg base 2 "_law_pick" ["state", "many"] spPick := c_law_pick W
  refine F.ok sc_law_mixed (fun vs H Q E h => ?_) (fun cdv A outer s H vs Q E hr h => ?_)
  · obtain ⟨a, c, p, N, xs, rfl, _⟩ := h
    rfl
  obtain ⟨a, c, p, N, xs, rfl, hS, hN, hp, hl, k⟩ := h
  refine ⟨_, PSs.nox (pss_cons (ps_par (i := 2) (j := 3) rfl sc_law_mixed.nd rfl rfl (by decide) rfl rfl (pa_cons (pe_callTy call_list_of (by rfl) W.n_list (by decide +kernel) (pa_cons (pv 1) pa_nil)) (pa_cons (pe_lst pa_nil) pa_nil)) (by rfl))
    (pss_cons (ps_for PassesOwn.never rfl (pi_range1 (by rfl) W.n_range (pa_cons (pe_callB call_len_seq (by rfl) W.n_len (by decide +kernel) (pa_cons (pv 2) pa_nil)) pa_nil)) (pg_name (i := 4) sc_law_mixed.nd rfl (.inl rfl))
    (pss_one (ps_expr (pe_bm PySem.F.plainAttrs_list PySem.F.slot_list_append PySem.F.type_list_append mt_append (pv 3) (pa_cons (pe_bm PySem.F.plainAttrs_list PySem.F.slot_list_pop PySem.F.type_list_pop mt_popAt (pv 2) (pa_cons (pe_c C_law_pick (hr.mono (by decide)) (pa_cons (pv 0) (pa_cons (pe_callB call_len_seq (by rfl) W.n_len (by decide +kernel) (pa_cons (pv 2) pa_nil)) pa_nil))) pa_nil)) pa_nil)))))
    (pss_one (ps_ret (pv 3))))), ?_⟩
  refine ⟨_, rfl, p, xs, rfl, .inl (hs_ex.er.l hp), fun L hL => ?_⟩
  have e1 : Ex H (upd H L (.lst xs)) := (Ex.refl H).new hL
  have hL1 : upd H L (.lst xs) L = some (.lst xs) := upd_same
  have S1 := hS.mono e1
  obtain ⟨La, Lc⟩ := hS.fresh hL
  generalize upd H L (.lst xs) = H1 at e1 hL1 S1 ⊢
  refine ⟨by show 0 ≤ sizeLine; omega, fun D hD => ?_⟩
  have e2 : Ex H1 (upd H1 D (.lst [])) := (Ex.refl H1).new hD
  have hD2 : upd H1 D (.lst []) D = some (.lst []) := upd_same
  obtain ⟨Da, Dc⟩ := S1.fresh hD
  have nLD : L ≠ D := ne_of_none hL1 hD
  have S2 := S1.mono e2
  have hL2 := e2 _ _ hL1
  have e02 := e1.trans e2
  have hD0 := e1.free hD
  generalize upd H1 D (.lst []) = H2 at e2 hD2 S2 hL2 e02 ⊢
  refine ⟨_, _, rfl, ?_⟩
  refine ⟨_, rfl, L, xs, rfl, .inl (SqL.of hL2), _, rfl, by omega, by omega, ?_⟩
  refine for_range (fun i σ H' => StAt H' a c (N + i) ∧ Bar a c H H' ∧ (∃ ls, H' L = some (.lst ls) ∧ ls.length + i = xs.length ∧ ∀ y ∈ ls, y ∈ xs) ∧ (∃ ys, H' D = some (.lst ys) ∧ ys.length = i ∧ ∀ y ∈ ys, y ∈ xs) ∧
    ∃ o, σ = [some (.ref a), some (.ref p), some (.ref L), some (.ref D), o]) ⟨S2, fun b o _ _ q => e02 b o q, ⟨xs, hL2, rfl, fun y h => h⟩, ⟨[], hD2, rfl, fun y h => by cases h⟩, _, rfl⟩ ?_ ?_
  · rintro i σ H3 hi ⟨S3, B3, ⟨ls, hls, hll, hlx⟩, ⟨ys, hys, hyl, hyx⟩, o, rfl⟩
    have hi : i < xs.length := by
      have : (((xs.length : Nat) : Int)).toNat = xs.length := Int.toNat_natCast _
      omega
    refine ⟨_, rfl, .inl ⟨rfl, _, SqL.of hys⟩, _, rfl, .inl ⟨rfl, _, SqL.of hls⟩, _, rfl, _, rfl, L, ls, rfl, .inl (SqL.of hls), ?_⟩
    refine ⟨a, c, N + i, ls.length, rfl, S3, by omega, by omega, by omega, fun r H4 r0 r1 S4 B4 => ?_⟩
    obtain ⟨j, rfl⟩ := Int.eq_ofNat_of_zero_le r0
    have hj : j < ls.length := by omega
    have hls4 := B4 _ _ La Lc hls
    have hys4 := B4 _ _ Da Dc hys
    refine ⟨L, ls, _, j, ls[j], rfl, rfl, hls4, by omega, by omega, ?_, List.getElem?_eq_getElem hj, ?_⟩
    · exact seqIx hj
    refine ⟨D, ys, _, rfl, rfl, by rw [upd_ne nLD.symm]; exact hys4, by rw [hyl, sizeLine_eq]; omega, ?_⟩
    refine ⟨(S4.put La Lc).put Da Dc, fun b o h1 h2 q => ?_, ⟨ls.eraseIdx j, ?_, ?_, fun y hy => hlx y (List.mem_of_mem_eraseIdx hy)⟩, ⟨ys ++ [ls[j]], upd_same, by simp [hyl], fun y hy => ?_⟩, _, rfl⟩
    · have nb1 : b ≠ D := ne_of_none q hD0
      have nb2 : b ≠ L := ne_of_none q hL
      rw [upd_ne nb1, upd_ne nb2]
      exact B4 b o h1 h2 (B3 b o h1 h2 q)
    · rw [upd_ne nLD, upd_same]
    · rw [List.length_eraseIdx_of_lt hj]
      omega
    · rcases List.mem_append.mp hy with h | h
      · exact hyx y h
      · rw [List.mem_singleton.mp h]
        exact hlx _ (List.getElem_mem hj)
  · rintro σ H3 ⟨S3, B3, _, ⟨ys, hys, hyl, hyx⟩, o, rfl⟩
    have en : (((xs.length : Nat) : Int)).toNat = xs.length := Int.toNat_natCast _
    rw [en] at S3 hyl
    exact ⟨_, rfl, k D ys H3 hyl hyx S3 B3 hD0 hys⟩
theorem c_law_mixed (W : Wld K mg) : Cal P w K mg base 3 "_law_mixed" ["state", "things"] (spMixed K) := by
  obtain ⟨fd, F⟩ := W.c.def_ 35 rfl
  exact ⟨⟨fd, ok_law_mixed W F, F.bindsN fun _ _ _ _ _ _ us hl => match us, hl with | [_, _], _ => rfl⟩, W.g_law_mixed, F.kp⟩
end
end K77

set_option Elab.async false
set_option linter.all false
set_option maxRecDepth 100000
set_option maxHeartbeats 400000
namespace K77
open PySem PySem.Spec PyProof.Rows L2 DL
theorem hid_sub {S S' : Addr → Prop} {H : Hp} (h : ∀ b, S' b → S b) : Ex (hid S H) (hid S' H) := fun b o q => by
  obtain ⟨h1, h2⟩ := hid_some.mp q
  exact hid_some.mpr ⟨fun z => h1 (h b z), h2⟩
theorem dens_snoc {K : PySem.W.Frag} {b : Bool} {H : Hp} {ys : List V} {ds : List Tr} {v : V} {d : Tr} (h : Dens K b H ys ds) (h2 : Den K b H v d) : Dens K b H (ys ++ [v]) (ds ++ [d]) := dens_app h (.cons h2 .nil)
/-- new since H, and no part of S -/
noncomputable abbrev nwS (S : Addr → Prop) (H H' : Hp) : Hp := hid (fun b => S b ∨ H b ≠ none) H'
def CollD (K : PySem.W.Frag) (S : Addr → Prop) (I : Nat → Hp → Prop) (H1 : Hp) (D : Addr) (ds : List Tr) (i : Nat) (H : Hp) : Prop :=
  I i H ∧ Ex (hid S H1) (hid S H) ∧ ∃ ys, H D = some (.lst ys) ∧ ys.length = i ∧ Dens K true (hid (fun b => S b ∨ H1 b ≠ none ∨ b = D) H) ys (ds.take i)
/-- a comprehension whose items are all new; what is hidden by S may change -/
theorem lc_den {K : PySem.W.Frag} {J : It} {n : Nat} {G : Hp → Prop} {Y : Nat → Hp → V → Hp → Prop} (w : Walk J n G Y) {S : Addr → Prop} (I : Nat → Hp → Prop) {g : TG} {te : TE} {vs : List Nat} {σ : L2.St} {H1 : Hp} {D : Addr} {Qd : Hp → Prop} (ds : List Tr)
    (hn : n < sizeLine) (hl : ds.length = n) (hD : H1 D = none) (hSD : ¬ S D) (hG : ∀ H, Ex (hid S H1) (hid S H) → G H) (h0 : I 0 H1) (hI : ∀ i H o, I i H → I i (upd H D o))
    (hs : ∀ (i : Nat) d x H H' (Q : VK), ds[i]? = some d → I i H → Ex (hid S H1) (hid S H) → H D ≠ none → Y i H x H' →
      (∀ y H4, I (i + 1) H4 → Ex (hid S H) (hid S H4) → Den K true (nwS S H H4) y d → Q y H4) → g x (wipe σ vs) H' fun σ2 H2 => wipe σ2 vs = wipe σ vs ∧ te σ2 H2 Q)
    (hd : ∀ H ys, I n H → Ex (hid S H1) (hid S H) → H D = some (.lst ys) → ys.length = n → Dens K true (hid (fun b => S b ∨ H1 b ≠ none ∨ b = D) H) ys ds → Qd H) :
    ∃ W : Nat → Nat → Hp → Prop, (∃ m, W 0 m (upd H1 D (.lst []))) ∧ ∀ i m H, W i m H →
      (J.stop i H ∧ Qd H) ∨ (J.go i H ∧ ∃ Nx : Hp → Prop, (∀ H', Nx H' → ∃ m', m' < m ∧ W (i + 1) m' H') ∧ ∀ x H', J.yld i H x H' → g x (wipe σ vs) H' fun σ2 H2 => wipe σ2 vs = wipe σ vs ∧ tYes σ2 H2 fun b H3 =>
        if b = true then te σ2 H3 fun y H4 => ∃ acc, H4 D = some (.lst acc) ∧ acc.length < sizeLine ∧ Nx (upd H4 D (.lst (acc ++ [y]))) else Nx H3) := by
  have new : ∀ {H : Hp} {o : HO}, Ex (hid S H1) (hid S H) → Ex (hid S H1) (hid S (upd H D o)) := fun {H o} e b u q => by
    obtain ⟨q1, q2⟩ := hid_some.mp (e b u q)
    have nb : b ≠ D := ne_of_none (hid_some.mp q).2 hD
    exact hid_some.mpr ⟨q1, by rw [upd_ne nb]; exact q2⟩
  refine lc_it w (fun i H => CollD K S I H1 D ds i H)
    ⟨hI _ _ _ h0, new (Ex.refl _), [], upd_same, rfl, .nil⟩ (fun i H _ h => hG H h.2.1) ?_ fun H ⟨h1, h2, ys, h3, h4, h5⟩ => hd H ys h1 h2 h3 h4 (by rw [← hl, List.take_length] at h5; exact h5)
  rintro i x H H' hi ⟨hIi, e, ys, hys, hyl, hds⟩ y
  show g x (wipe σ vs) H' (fun σ2 H2 => wipe σ2 vs = wipe σ vs ∧ (if true = true then te σ2 H2 (fun y H4 => ∃ acc, H4 D = some (.lst acc) ∧ acc.length < sizeLine ∧ CollD K S I H1 D ds (i + 1) (upd H4 D (.lst (acc ++ [y])))) else CollD K S I H1 D ds (i + 1) H2))
  have e0 : ∀ (A B : Prop), (if true = true then A else B) = A := fun _ _ => if_pos rfl
  simp only [e0]
  have hdi : ds[i]? = some ds[i] := List.getElem?_eq_getElem (by omega)
  refine hs i _ x H H' _ hdi hIi e (by rw [hys]; exact fun z => nomatch z) y fun z H4 I4 e4 rz => ?_
  have hD4 : H4 D = some (.lst ys) := (hid_some.mp (e4 D _ (hid_some.mpr ⟨hSD, hys⟩))).2
  refine ⟨ys, hD4, by omega, hI _ _ _ I4, new (e.trans e4), ys ++ [z], upd_same, by simp [hyl], ?_⟩
  have keep : Ex (hid (fun b => S b ∨ H1 b ≠ none ∨ b = D) H4) (hid (fun b => S b ∨ H1 b ≠ none ∨ b = D) (upd H4 D (.lst (ys ++ [z])))) := fun b o q => by
    obtain ⟨q1, q2⟩ := hid_some.mp q
    exact hid_some.mpr ⟨q1, by rw [upd_ne fun w => q1 (.inr (.inr w))]; exact q2⟩
  have old : Ex (hid (fun b => S b ∨ H1 b ≠ none ∨ b = D) H) (hid (fun b => S b ∨ H1 b ≠ none ∨ b = D) H4) := fun b o q => by
    obtain ⟨q1, q2⟩ := hid_some.mp q
    exact hid_some.mpr ⟨q1, (hid_some.mp (e4 b o (hid_some.mpr ⟨fun w => q1 (.inl w), q2⟩))).2⟩
  have nu : Ex (nwS S H H4) (hid (fun b => S b ∨ H1 b ≠ none ∨ b = D) H4) := fun b o q => by
    obtain ⟨q1, q2⟩ := hid_some.mp q
    refine hid_some.mpr ⟨fun w => ?_, q2⟩
    rcases w with w | w | w
    · exact q1 (.inl w)
    · by_cases sb : S b
      · exact q1 (.inl sb)
      · refine q1 (.inr fun z => ?_)
        cases hb : H1 b with
        | none => exact w hb
        | some u =>
          have := (hid_some.mp (e b u (hid_some.mpr ⟨sb, hb⟩))).2
          rw [z] at this
          cases this
    · refine q1 (.inr ?_)
      rw [w, hys]
      exact fun z => nomatch z
  have et : ds.take (i + 1) = ds.take i ++ [ds[i]] := by rw [List.take_add_one, hdi]; rfl
  rw [et]
  exact dens_snoc ((hds.mono old.kp).mono keep.kp) ((rz.mono nu.kp).mono keep.kp)
/-! ### copies -/
def Okc : Nat → Tr → Prop
  | n + 1, .lst xs => xs.length ≤ 100000 ∧ ∀ x ∈ xs, Okc n x
  | n + 1, .tup xs => xs.length ≤ 100000 ∧ ∀ x ∈ xs, Okc n x
  | 0, .lst _ => False
  | 0, .tup _ => False
  | 0, .dic _ => False
  | _ + 1, .dic es => es = []
  | _, _ => True
theorem okc_okd : ∀ {n : Nat} {d : Tr}, Okc n d → Okd (n + 1) d
  | n, .non, _ => trivial
  | n, .bl _, _ => trivial
  | n, .int _, _ => trivial
  | n, .str _, _ => trivial
  | 0, .lst _, h => h.elim
  | 0, .tup _, h => h.elim
  | 0, .dic _, h => h.elim
  | n + 1, .lst xs, h => ⟨Nat.le_trans h.1 (by omega), fun x hx => okc_okd (h.2 x hx)⟩
  | n + 1, .tup xs, h => ⟨Nat.le_trans h.1 (by omega), fun x hx => okc_okd (h.2 x hx)⟩
  | n + 1, .dic es, h => by
    have h : es = [] := h
    subst h
    exact ⟨Nat.zero_le _, List.nodup_nil, fun p hp => by cases hp⟩
theorem okt_okc : ∀ {n : Nat} {d : Tr}, Okt n d → Okc n d
  | n, .non, _ => by cases n <;> trivial
  | n, .bl _, _ => by cases n <;> trivial
  | n, .int _, _ => by cases n <;> trivial
  | n, .str _, _ => by cases n <;> trivial
  | 0, .lst _, h => h.elim
  | 0, .tup _, h => h.elim
  | 0, .dic _, h => h.elim
  | n + 1, .lst xs, h => ⟨h.1, fun x hx => okt_okc (h.2 x hx)⟩
  | n + 1, .tup xs, h => ⟨h.1, fun x hx => okt_okc (h.2 x hx)⟩
  | n + 1, .dic es, h => h.elim
section
variable {P : Program} {w : World} {K : PySem.W.Frag} {mg : Str → Option Value} {base : Heap} {f : Addr} {fd : FuncData}
def spCopy (K : PySem.W.Frag) : Nat → Sp
  | 0 => fun _ _ _ _ => False
  | n + 1 => fun vs H Q _ => ∃ (v : V) (d : Tr), vs = [v] ∧ Den K true H v d ∧ Okc n d ∧ ∀ v' H', Ex H H' → Den K true (nw H H') v' d → Q v' H'
theorem sc_law_copy : FnScope ["thing", "found", "key", "one"] ["thing"] (defScope s_law_copy) := ⟨rfl, rfl, rfl, by decide +kernel, rfl, by decide +kernel, by decide +kernel⟩
theorem ok_law_copy (n : Nat) (W : Wld K mg) (F : FnP K "_law_copy" s_law_copy f fd) (C_law_copy : Cal P w K mg base n "_law_copy" ["thing"] (spCopy K n)) : FnOk P w K mg base CX0 (n + 1) f fd ["thing"] (spCopy K (n + 1)) := by
  refine F.ok sc_law_copy (fun vs H Q E h => ?_) (fun cdv A outer s H vs Q E hr h => ?_)
  · obtain ⟨v, d, rfl, _⟩ := h
    rfl
  obtain ⟨v, d, rfl, hd, ho, k⟩ := h
  have hr_law_copy := hr
  refine ⟨_, PSs.nox (pss_cons (ps_if (pt_val (pe_callB call_isi (by rfl) W.n_isinstance (by decide +kernel) (pa_cons (pv 0) (pa_cons (pe_bltn (v := .ty "list") (by rfl) W.n_list (by decide +kernel) rfl) pa_nil))))
    (pss_one (ps_ret (pe_lc (own := [("one", 3)]) (g := gName 3) (tt := tYes) (te := (tCall (spCopy K n) [] E0 (tCons (tVar 3) tNil))) rfl sc_law_copy.nd (pi_list (pv 0)) (blkOk_by (N := ["thing", "found", "key", "one"]) (sc := defScope s_law_copy) (by decide +kernel)) (fun _ _ _ _ _ => pg_name (i := 3) sc_law_copy.nd rfl (Or.inl rfl)) (fun _ _ _ _ _ => pts_nil) (fun _ _ _ _ _ => (pe_c C_law_copy hr (pa_cons (pv 3) pa_nil))))))
    pss_nil)
    (pss_cons (ps_if (pt_val (pe_callB call_isi (by rfl) W.n_isinstance (by decide +kernel) (pa_cons (pv 0) (pa_cons (pe_bltn (v := .ty "tuple") (by rfl) W.n_tuple (by decide +kernel) rfl) pa_nil))))
    (pss_one (ps_ret (pe_callTy call_tuple_of (by rfl) W.n_tuple (by decide +kernel) (pa_cons (pe_lc (own := [("one", 3)]) (g := gName 3) (tt := tYes) (te := (tCall (spCopy K n) [] E0 (tCons (tVar 3) tNil))) rfl sc_law_copy.nd (pi_tup (pv 0)) (blkOk_by (N := ["thing", "found", "key", "one"]) (sc := defScope s_law_copy) (by decide +kernel)) (fun _ _ _ _ _ => pg_name (i := 3) sc_law_copy.nd rfl (Or.inl rfl)) (fun _ _ _ _ _ => pts_nil) (fun _ _ _ _ _ => (pe_c C_law_copy hr (pa_cons (pv 3) pa_nil)))) pa_nil))))
    pss_nil)
    (pss_cons (ps_if (pt_val (pe_callB call_isi (by rfl) W.n_isinstance (by decide +kernel) (pa_cons (pv 0) (pa_cons (pe_bltn (v := .ty "dict") (by rfl) W.n_dict (by decide +kernel) rfl) pa_nil))))
    (pss_cons (ps_set (i := 1) sc_law_copy.nd rfl (.inl rfl) pe_dnewK)
    (pss_cons (ps_lock (ps_for PassesOwn.never rfl (pi_keys (pv 0)) (pg_name (i := 2) sc_law_copy.nd rfl (.inl rfl))
    (pss_one (ps_dput (hu_of hr) (pv 1) (pv 2) (pe_c C_law_copy hr (pa_cons (pe_dget (hu_of hr) (pv 0) (pv 2) (fun _ _ => rfl)) pa_nil)) rfl))))
    (pss_one (ps_ret (pv 1)))))
    pss_nil)
    (pss_one (ps_ret (pv 0)))))), ?_⟩
  have f0 : ∀ {H' : Hp}, Ex H H' → Ex (hid (fun _ => False) H) (hid (fun _ => False) H') := hid_of
  have f1 : ∀ {H' : Hp}, Ex (hid (fun _ => False) H) (hid (fun _ => False) H') → Ex H H' := fun e b o q => (hid_some.mp (e b o (hid_some.mpr ⟨id, q⟩))).2
  have step : ∀ (xs : List Tr) (ys : List V), xs.length ≤ 100000 → (∀ x ∈ xs, ∃ m, n = m + 1 ∧ Okc m x) → Dens K true H ys xs → ∀ (i : Nat) d x H2 (Q2 : VK), xs[i]? = some d → Ex (hid (fun _ => False) H) (hid (fun _ => False) H2) → ys[i]? = some x →
      (∀ y H4, True → Ex (hid (fun _ => False) H2) (hid (fun _ => False) H4) → Den K true (nwS (fun _ => False) H2 H4) y d → Q2 y H4) → spCopy K n [x] H2 Q2 E0 := by
    intro xs ys hl hx hds i d x H2 Q2 hd e hxi q
    obtain ⟨m, rfl, ok⟩ := hx d (List.mem_of_getElem? hd)
    obtain ⟨d', h1, h2⟩ := hds.get hxi
    rw [hd] at h1
    obtain rfl := Option.some.inj h1
    exact ⟨x, d, rfl, h2.mono (f1 e).kp, ok, fun y H4 e4 hy => q y H4 trivial (hid_of e4) (hy.mono (hid_sub fun b z => z.elim False.elim id).kp)⟩
  refine rd_isi rfl hd (kL d) ⟨_, rfl, ?_⟩
  have scal : Den K true (nw H H) v d → Q v H := fun h => k v H (Ex.refl H) h
  cases hd with
  | non => exact iteF (rd_isi rfl (.non) (b := true) (K := K) (kT .non) ⟨_, rfl, iteF (rd_isi rfl (.non) (b := true) (K := K) (kD .non) ⟨_, rfl, iteF ⟨_, rfl, scal .non⟩⟩)⟩)
  | bl x => exact iteF (rd_isi rfl (.bl x) (b := true) (K := K) (kT (.bl x)) ⟨_, rfl, iteF (rd_isi rfl (.bl x) (b := true) (K := K) (kD (.bl x)) ⟨_, rfl, iteF ⟨_, rfl, scal (.bl x)⟩⟩)⟩)
  | int x => exact iteF (rd_isi rfl (.int x) (b := true) (K := K) (kT (.int x)) ⟨_, rfl, iteF (rd_isi rfl (.int x) (b := true) (K := K) (kD (.int x)) ⟨_, rfl, iteF ⟨_, rfl, scal (.int x)⟩⟩)⟩)
  | str x => exact iteF (rd_isi rfl (.str x) (b := true) (K := K) (kT (.str x)) ⟨_, rfl, iteF (rd_isi rfl (.str x) (b := true) (K := K) (kD (.str x)) ⟨_, rfl, iteF ⟨_, rfl, scal (.str x)⟩⟩)⟩)
  | @dic a kvs es hq hs =>
    refine iteF (rd_isi rfl (.dic (b := true) hq hs) (kT (.dic es)) ⟨_, rfl, iteF (rd_isi rfl (.dic (b := true) hq hs) (kD (.dic es)) ⟨_, rfl, iteT ?_⟩)⟩)
    obtain ⟨m, rfl⟩ : ∃ m, n = m + 1 := by
      cases n with
      | zero => exact ho.elim
      | succ m => exact ⟨m, rfl⟩
    have ho : es = [] := ho
    subst ho
    cases hs
    have hqa : H a = some (.dK []) := hq
    intro D hD
    have e1 : Ex H (upd H D (.dK [])) := (Ex.refl H).new hD
    have nDa : a ≠ D := ne_of_none hqa hD
    refine ⟨a, .dK [], e1 _ _ hqa, True.intro, fun od => ?_⟩
    refine ⟨_, rfl, a, od, rfl, .inl ⟨[], upd_same, ?_⟩⟩
    refine ⟨fun i m σ H' => i = 0 ∧ σ = [some (.ref a), some (.ref D), none, none] ∧ H' = upd (upd H D (.dK [])) a (.frz od (.dK [])), ⟨0, rfl, rfl, rfl⟩, ?_⟩
    rintro i m' σ H' ⟨rfl, rfl, rfl⟩
    refine .inl ⟨?_, upd_same, _, rfl, ?_⟩
    · exact ⟨upd_same, Nat.le_refl _⟩
    · have e3 : upd (upd (upd H D (.dK [])) a (.frz od (.dK []))) a (.dK []) = upd H D (.dK []) := by
        funext b
        by_cases h : b = a
        · subst h
          rw [upd_same]
          exact (e1 _ _ hqa).symm
        · rw [upd_ne h, upd_ne h]
      rw [e3]
      exact k _ _ e1 (.dic (show nw H _ D = some (.dK []) from nw_at hD upd_same) .nil)
  | @lst a ys xs hq hs =>
    refine iteT ?_
    have hm : xs.length ≤ 100000 ∧ ∀ x ∈ xs, ∃ m, n = m + 1 ∧ Okc m x := by
      cases n with
      | zero => exact ho.elim
      | succ m => exact ⟨ho.1, fun x hx => ⟨m, rfl, ho.2 x hx⟩⟩
    have yl := hs.length
    refine ⟨_, rfl, a, rfl, ⟨_, hq⟩, fun D hD => ?_⟩
    refine lc_den (K := K) (S := fun _ => False) (walk_list (xs := ys)) (fun _ _ => True) xs (by rw [yl, sizeLine_eq]; omega) yl.symm hD id (fun H' e => (f1 e).er.l hq) trivial (fun _ _ _ _ => trivial) ?_ ?_
    · rintro i d x H2 H3 Q2 hdi _ e2 _ ⟨rfl, hx⟩ q
      exact ⟨rfl, _, rfl, step xs ys hm.1 hm.2 hs i d x _ Q2 hdi e2 hx q⟩
    · intro H2 zs _ e2 hz hzl hds
      refine k _ _ (f1 e2) (.lst (SqL.of (nw_at hD hz)) (hds.mono (hid_sub (S' := fun b => H b ≠ none) fun b z => .inr (.inl z)).kp))
  | @tup a ys xs hq hs =>
    refine iteF (rd_isi rfl (.tup (b := true) hq hs) (kT (.tup xs)) ⟨_, rfl, iteT ?_⟩)
    have hm : xs.length ≤ 100000 ∧ ∀ x ∈ xs, ∃ m, n = m + 1 ∧ Okc m x := by
      cases n with
      | zero => exact ho.elim
      | succ m => exact ⟨ho.1, fun x hx => ⟨m, rfl, ho.2 x hx⟩⟩
    have yl := hs.length
    refine ⟨_, rfl, a, rfl, ⟨_, hq⟩, fun D hD => ?_⟩
    refine lc_den (K := K) (S := fun _ => False) (walk_tup (xs := ys)) (fun _ _ => True) xs (by rw [yl, sizeLine_eq]; omega) yl.symm hD id (fun H' e => (f1 e).er.t hq) trivial (fun _ _ _ _ => trivial) ?_ ?_
    · rintro i d x H2 H3 Q2 hdi _ e2 _ ⟨rfl, hx⟩ q
      exact ⟨rfl, _, rfl, step xs ys hm.1 hm.2 hs i d x _ Q2 hdi e2 hx q⟩
    · intro H2 zs _ e2 hz hzl hds
      refine ⟨D, zs, rfl, .inl ⟨SqL.of hz, fun t ht => ?_⟩⟩
      have e3 := (f1 e2).new (o := .tup zs) ht
      refine k _ _ e3 (.tup (SqT.of (nw_at ((f1 e2).free ht) upd_same)) (hds.mono ?_))
      refine Ex.kp fun b o q => ?_
      obtain ⟨q1, q2⟩ := hid_some.mp q
      exact hid_some.mpr ⟨fun z => q1 (.inr (.inl z)), by rw [upd_ne (ne_of_none q2 ht)]; exact q2⟩
theorem c_law_copy (W : Wld K mg) : ∀ n : Nat, Cal P w K mg base n "_law_copy" ["thing"] (spCopy K n)
  | 0 => by
    obtain ⟨fd, F⟩ := W.c.def_ 37 rfl
    exact ⟨⟨fd, ⟨fun vs H Q E h => h.elim, fun _ _ _ _ _ _ _ _ _ _ _ _ _ h => h.elim⟩, F.bindsN fun _ _ _ _ _ _ us hl => match us, hl with | [_], _ => rfl⟩, W.g_law_copy, F.kp⟩
  | n + 1 => by
    obtain ⟨fd, F⟩ := W.c.def_ 37 rfl
    exact ⟨⟨fd, ok_law_copy n W F (c_law_copy W n), F.bindsN fun _ _ _ _ _ _ us hl => match us, hl with | [_], _ => rfl⟩, W.g_law_copy, F.kp⟩
end
end K77

set_option Elab.async false
set_option linter.all false
set_option maxRecDepth 100000
set_option maxHeartbeats 400000
namespace K77
open PySem PySem.Spec PyProof.Rows L2 DL
/-! ### lists for tuples, tuples for lists -/
/-- lists of at most 16, to a depth -/
def Okb : Nat → Tr → Prop
  | n + 1, .lst xs => xs.length ≤ 16 ∧ ∀ x ∈ xs, Okb n x
  | n + 1, .tup xs => xs.length ≤ 16 ∧ ∀ x ∈ xs, Okb n x
  | 0, .lst _ => False
  | 0, .tup _ => False
  | _, .dic _ => False
  | _, _ => True
theorem okb_okt : ∀ {n : Nat} {d : Tr}, Okb n d → Okt n d
  | n, .non, _ => by cases n <;> trivial
  | n, .bl _, _ => by cases n <;> trivial
  | n, .int _, _ => by cases n <;> trivial
  | n, .str _, _ => by cases n <;> trivial
  | 0, .lst _, h => h.elim
  | 0, .tup _, h => h.elim
  | 0, .dic _, h => h.elim
  | n + 1, .lst xs, h => ⟨Nat.le_trans h.1 (by omega), fun x hx => okb_okt (h.2 x hx)⟩
  | n + 1, .tup xs, h => ⟨Nat.le_trans h.1 (by omega), fun x hx => okb_okt (h.2 x hx)⟩
  | n + 1, .dic es, h => h.elim
/-- alike but for lists and tuples -/
def Lse : Nat → Tr → Tr → Prop
  | 0, d, e => e = d
  | n + 1, d, e => (isSeq d = false ∧ e = d) ∨ (isSeq d = true ∧ isSeq e = true ∧ (kids e).length = (kids d).length ∧ ∀ (i : Nat) x y, (kids d)[i]? = some x → (kids e)[i]? = some y → Lse n x y)
theorem lse_kid {n : Nat} {d e : Tr} (h : Lse (n + 1) d e) {i : Nat} {y : Tr} (hy : (kids e)[i]? = some y) (hs : isSeq d = true) : ∃ x, (kids d)[i]? = some x ∧ Lse n x y := by
  rcases h with ⟨h1, _⟩ | ⟨_, _, h3, h4⟩
  · rw [hs] at h1
    cases h1
  · have hi : i < (kids d).length := by
      rw [← h3]
      exact (List.getElem?_eq_some_iff.mp hy).1
    exact ⟨_, List.getElem?_eq_getElem hi, h4 i _ y (List.getElem?_eq_getElem hi) hy⟩
theorem okb_kids {n : Nat} {d : Tr} (h : Okb (n + 1) d) : (kids d).length ≤ 16 ∧ ∀ x ∈ kids d, Okb n x := by
  cases d with
  | lst xs => exact h
  | tup xs => exact h
  | _ => exact ⟨Nat.zero_le _, fun x hx => by cases hx⟩
theorem okb_of {n : Nat} {e : Tr} (hs : isSeq e = true) (h1 : (kids e).length ≤ 16) (h2 : ∀ x ∈ kids e, Okb n x) : Okb (n + 1) e := by
  cases e with
  | lst xs => exact ⟨h1, h2⟩
  | tup xs => exact ⟨h1, h2⟩
  | _ => cases hs
theorem lse_okb : ∀ {n m : Nat} {d e : Tr}, Lse n d e → Okb m d → Okb m e
  | 0, m, d, e, h, ho => by
    have h : e = d := h
    rw [h]
    exact ho
  | n + 1, m, d, e, h, ho => by
    rcases h with ⟨_, h⟩ | ⟨h1, h2, h3, h4⟩
    · rw [h]
      exact ho
    · cases m with
      | zero => cases d <;> first | exact ho.elim | cases h1
      | succ m =>
        obtain ⟨o1, o2⟩ := okb_kids ho
        refine okb_of h2 (by omega) fun y hy => ?_
        obtain ⟨i, hi, rfl⟩ := List.mem_iff_getElem.mp hy
        obtain ⟨x, hx, hl⟩ := lse_kid (n := n) (.inr ⟨h1, h2, h3, h4⟩) (List.getElem?_eq_getElem hi) h1
        exact lse_okb hl (o2 x (List.mem_of_getElem? hx))
theorem sc_noseq {d : Tr} (h : scT d = true) : isSeq d = false := by
  cases d <;> first | rfl | cases h
theorem lse_sc {n : Nat} {d e : Tr} (h : Lse n d e) (hs : scT d = true) : e = d := by
  cases n with
  | zero => exact h
  | succ n =>
    rcases h with ⟨_, h⟩ | ⟨h1, _⟩
    · exact h
    · rw [sc_noseq hs] at h1
      cases h1
theorem kids_seq {d x : Tr} {i : Nat} (h : (kids d)[i]? = some x) : isSeq d = true := by
  cases d <;> first | rfl | cases h
theorem lse_seq {n : Nat} {d e : Tr} (h : Lse n d e) : isSeq e = isSeq d := by
  cases n with
  | zero =>
    have h : e = d := h
    rw [h]
  | succ n =>
    rcases h with ⟨_, h⟩ | ⟨h1, h2, _⟩
    · rw [h]
    · rw [h1, h2]
theorem lse_pairSc {n : Nat} {d e : Tr} (h : Lse (n + 2) d e) (hp : PairSc d) : PairSc e := by
  intro p hpe a ha
  obtain ⟨i, hi, rfl⟩ := List.mem_iff_getElem.mp hpe
  have hd : isSeq d = true := by rw [← lse_seq h]; exact kids_seq (List.getElem?_eq_getElem hi)
  obtain ⟨x, hx, hl⟩ := lse_kid h (List.getElem?_eq_getElem hi) hd
  have hxs : isSeq x = true := by rw [← lse_seq hl]; exact kids_seq ha
  obtain ⟨b, hb, hl2⟩ := lse_kid hl ha hxs
  have sb := hp x (List.mem_of_getElem? hx) b hb
  rw [lse_sc hl2 sb]
  exact sb
theorem lse_logSc {n : Nat} {d e : Tr} (h : Lse (n + 4) d e) (hp : LogSc d) : LogSc e := by
  intro p hpe a ha
  obtain ⟨i, hi, rfl⟩ := List.mem_iff_getElem.mp hpe
  have hd : isSeq d = true := by rw [← lse_seq h]; exact kids_seq (List.getElem?_eq_getElem hi)
  obtain ⟨x, hx, hl⟩ := lse_kid h (List.getElem?_eq_getElem hi) hd
  have hxs : isSeq x = true := by rw [← lse_seq hl]; exact kids_seq ha
  obtain ⟨b, hb, hl2⟩ := lse_kid hl ha hxs
  exact lse_pairSc hl2 (hp x (List.mem_of_getElem? hx) b hb)
section
variable {P : Program} {w : World} {K : PySem.W.Frag} {mg : Str → Option Value} {base : Heap} {f : Addr} {fd : FuncData}
def spLoose (K : PySem.W.Frag) : Nat → Sp
  | 0 => fun _ _ _ _ => False
  | n + 1 => fun vs H Q _ => ∃ (a c : Addr) (N : Nat) (v : V) (d : Tr), vs = [.ref a, v] ∧ StAt H a c N ∧ N + 17 ^ n < 1099511627776 ∧ Den K true (hs a c H) v d ∧ Okb n d ∧
    ∀ v' e H', StAt H' a c (N + 17 ^ n) → Bar a c H H' → Lse n d e → Den K true (nwS (fun b => b = a ∨ b = c) H H') v' e → Q v' H'
theorem choose_list {α : Type} {P : Nat → α → Prop} : ∀ (n : Nat), (∀ i, i < n → ∃ x, P i x) → ∃ l : List α, l.length = n ∧ ∀ i x, l[i]? = some x → P i x
  | 0, _ => ⟨[], rfl, fun i x h => by simp at h⟩
  | n + 1, h => by
    obtain ⟨l, h1, h2⟩ := choose_list n fun i hi => h i (by omega)
    obtain ⟨x, hx⟩ := h n (by omega)
    refine ⟨l ++ [x], by simp [h1], fun i y hy => ?_⟩
    by_cases hi : i < l.length
    · rw [List.getElem?_append_left hi] at hy
      exact h2 i y hy
    · have : i = l.length := by
        have := (List.getElem?_eq_some_iff.mp hy).1
        simp at this
        omega
      subst this
      have : x = y := by simpa using hy
      subst this
      rw [h1]
      exact hx
/-- a comprehension whose items are trees like others; the draws go on -/
def CollL (K : PySem.W.Frag) (R : Nat → Tr → Prop) (S : Addr → Prop) (I : Nat → Hp → Prop) (H1 : Hp) (D : Addr) (i : Nat) (H : Hp) : Prop :=
  I i H ∧ Ex (hid S H1) (hid S H) ∧ ∃ ys ds, H D = some (.lst ys) ∧ ys.length = i ∧ Dens K true (hid (fun b => S b ∨ H1 b ≠ none ∨ b = D) H) ys ds ∧ ∀ (j : Nat) e, ds[j]? = some e → R j e
theorem lc_loose {K : PySem.W.Frag} {J : It} {n : Nat} {G : Hp → Prop} {Y : Nat → Hp → V → Hp → Prop} (w : Walk J n G Y) {S : Addr → Prop} (I : Nat → Hp → Prop) (R : Nat → Tr → Prop) {g : TG} {te : TE} {vs : List Nat} {σ : L2.St} {H1 : Hp} {D : Addr} {Qd : Hp → Prop}
    (hn : n < sizeLine) (hD : H1 D = none) (hSD : ¬ S D) (hG : ∀ H, Ex (hid S H1) (hid S H) → G H) (h0 : I 0 H1) (hI : ∀ i H o, I i H → I i (upd H D o))
    (hs : ∀ (i : Nat) x H H' (Q : VK), i < n → I i H → Ex (hid S H1) (hid S H) → H D ≠ none → Y i H x H' →
      (∀ y e H4, I (i + 1) H4 → Ex (hid S H) (hid S H4) → R i e → Den K true (nwS S H H4) y e → Q y H4) → g x (wipe σ vs) H' fun σ2 H2 => wipe σ2 vs = wipe σ vs ∧ te σ2 H2 Q)
    (hd : ∀ H ys ds, I n H → Ex (hid S H1) (hid S H) → H D = some (.lst ys) → ys.length = n → Dens K true (hid (fun b => S b ∨ H1 b ≠ none ∨ b = D) H) ys ds → (∀ (j : Nat) e, ds[j]? = some e → R j e) → Qd H) :
    ∃ W : Nat → Nat → Hp → Prop, (∃ m, W 0 m (upd H1 D (.lst []))) ∧ ∀ i m H, W i m H →
      (J.stop i H ∧ Qd H) ∨ (J.go i H ∧ ∃ Nx : Hp → Prop, (∀ H', Nx H' → ∃ m', m' < m ∧ W (i + 1) m' H') ∧ ∀ x H', J.yld i H x H' → g x (wipe σ vs) H' fun σ2 H2 => wipe σ2 vs = wipe σ vs ∧ tYes σ2 H2 fun b H3 =>
        if b = true then te σ2 H3 fun y H4 => ∃ acc, H4 D = some (.lst acc) ∧ acc.length < sizeLine ∧ Nx (upd H4 D (.lst (acc ++ [y]))) else Nx H3) := by
  have new : ∀ {H : Hp} {o : HO}, Ex (hid S H1) (hid S H) → Ex (hid S H1) (hid S (upd H D o)) := fun {H o} e b u q => by
    obtain ⟨q1, q2⟩ := hid_some.mp (e b u q)
    have nb : b ≠ D := ne_of_none (hid_some.mp q).2 hD
    exact hid_some.mpr ⟨q1, by rw [upd_ne nb]; exact q2⟩
  refine lc_it w (fun i H => CollL K R S I H1 D i H) ⟨hI _ _ _ h0, new (Ex.refl _), [], [], upd_same, rfl, .nil, fun j e h => by simp at h⟩ (fun i H _ h => hG H h.2.1) ?_ fun H ⟨h1, h2, ys, ds, h3, h4, h5, h6⟩ => hd H ys ds h1 h2 h3 h4 h5 h6
  rintro i x H H' hi ⟨hIi, e, ys, ds, hys, hyl, hds, hr⟩ y
  show g x (wipe σ vs) H' (fun σ2 H2 => wipe σ2 vs = wipe σ vs ∧ (if true = true then te σ2 H2 (fun y H4 => ∃ acc, H4 D = some (.lst acc) ∧ acc.length < sizeLine ∧ CollL K R S I H1 D (i + 1) (upd H4 D (.lst (acc ++ [y])))) else CollL K R S I H1 D (i + 1) H2))
  have e0 : ∀ (A B : Prop), (if true = true then A else B) = A := fun _ _ => if_pos rfl
  simp only [e0]
  refine hs i x H H' _ hi hIi e (by rw [hys]; exact fun z => nomatch z) y fun z t H4 I4 e4 rt rz => ?_
  have hD4 : H4 D = some (.lst ys) := (hid_some.mp (e4 D _ (hid_some.mpr ⟨hSD, hys⟩))).2
  have keep : Ex (hid (fun b => S b ∨ H1 b ≠ none ∨ b = D) H4) (hid (fun b => S b ∨ H1 b ≠ none ∨ b = D) (upd H4 D (.lst (ys ++ [z])))) := fun b o q => by
    obtain ⟨q1, q2⟩ := hid_some.mp q
    exact hid_some.mpr ⟨q1, by rw [upd_ne fun w => q1 (.inr (.inr w))]; exact q2⟩
  have old : Ex (hid (fun b => S b ∨ H1 b ≠ none ∨ b = D) H) (hid (fun b => S b ∨ H1 b ≠ none ∨ b = D) H4) := fun b o q => by
    obtain ⟨q1, q2⟩ := hid_some.mp q
    exact hid_some.mpr ⟨q1, (hid_some.mp (e4 b o (hid_some.mpr ⟨fun w => q1 (.inl w), q2⟩))).2⟩
  have nu : Ex (nwS S H H4) (hid (fun b => S b ∨ H1 b ≠ none ∨ b = D) H4) := fun b o q => by
    obtain ⟨q1, q2⟩ := hid_some.mp q
    refine hid_some.mpr ⟨fun w => ?_, q2⟩
    rcases w with w | w | w
    · exact q1 (.inl w)
    · by_cases sb : S b
      · exact q1 (.inl sb)
      · refine q1 (.inr fun z => ?_)
        cases hb : H1 b with
        | none => exact w hb
        | some u =>
          have := (hid_some.mp (e b u (hid_some.mpr ⟨sb, hb⟩))).2
          rw [z] at this
          cases this
    · refine q1 (.inr ?_)
      rw [w, hys]
      exact fun z => nomatch z
  refine ⟨ys, hD4, by omega, hI _ _ _ I4, new (e.trans e4), ys ++ [z], ds ++ [t], upd_same, by simp [hyl], dens_snoc ((hds.mono old.kp).mono keep.kp) ((rz.mono nu.kp).mono keep.kp), fun j u hu => ?_⟩
  have dl := hds.length
  by_cases hj : j < ds.length
  · rw [List.getElem?_append_left hj] at hu
    exact hr j u hu
  · have : j = ds.length := by
      have := (List.getElem?_eq_some_iff.mp hu).1
      simp at this
      omega
    subst this
    have : t = u := by simpa using hu
    subst this
    have ej : ds.length = i := by omega
    rw [ej]
    exact rt
end
end K77

set_option Elab.async false
set_option linter.all false
set_option maxRecDepth 100000
set_option maxHeartbeats 400000
namespace K77
open PySem PySem.Spec PyProof.Rows L2 DL
section
variable {P : Program} {w : World} {K : PySem.W.Frag} {mg : Str → Option Value} {base : Heap} {f : Addr} {fd : FuncData}
theorem walk_eitherS {K : PySem.W.Frag} {S : Addr → Prop} {H : Hp} {p : Addr} {ys : List V} {R : It → Hp → Prop} (hq : SqL K (hid S H) p ys ∨ SqT K (hid S H) p ys) (h : ∀ J G, Walk J ys.length G (YAt ys) → (∀ H', Ex (hid S H) (hid S H') → G H') → R J H) :
    XN.SeqR K p R H :=
  hq.imp (fun q => ⟨_, hid_ex.er.l q, h _ _ walk_list fun _ e => hid_ex.er.l (e.er.l q)⟩) fun q => ⟨_, hid_ex.er.t q, h _ _ walk_tup fun _ e => hid_ex.er.t (e.er.t q)⟩
theorem pow_step {m k : Nat} (h : k ≤ 16) : k * 17 ^ m + 1 ≤ 17 ^ (m + 1) := by
  have h1 : 0 < 17 ^ m := Nat.pow_pos (by decide)
  have h2 : k * 17 ^ m ≤ 16 * 17 ^ m := Nat.mul_le_mul_right _ h
  rw [Nat.pow_succ]
  omega
theorem sc_law_loose : FnScope ["state", "thing", "some", "found", "key", "one"] ["state", "thing"] (defScope s_law_loose) := ⟨rfl, rfl, rfl, by decide +kernel, rfl, by decide +kernel, by decide +kernel⟩
theorem ok_law_loose (n : Nat) (W : Wld K mg) (F : FnP K "_law_loose" s_law_loose f fd) (C_law_loose : Cal P w K mg base (n + 3) "_law_loose" ["state", "thing"] (spLoose K n)) : FnOk P w K mg base CX0 (n + 4) f fd ["state", "thing"] (spLoose K (n + 1)) := by
  have C_law_pick : Cal P w K mg base 2 "_law_pick" ["state", "many"] spPick := c_law_pick W
  have C_law_mixed : Cal P w K mg base 3 "_law_mixed" ["state", "things"] (spMixed K) := c_law_mixed W
  refine F.ok sc_law_loose (fun vs H Q E h => ?_) (fun cdv A outer s H vs Q E hr h => ?_)
  · obtain ⟨a, c, N, v, d, rfl, _⟩ := h
    rfl
  obtain ⟨a, c, N, v, d, rfl, hS, hN, hd, ho, k⟩ := h
  refine ⟨_, PSs.nox (pss_cons (ps_if (pt_val (pe_callB call_isiT (by rfl) W.n_isinstance (by decide +kernel) (pa_cons (pv 1) (pa_cons (pe_tup (pa_cons (pe_bltn (v := .ty "list") (by rfl) W.n_list (by decide +kernel) rfl) (pa_cons (pe_bltn (v := .ty "tuple") (by rfl) W.n_tuple (by decide +kernel) rfl) pa_nil))) pa_nil))))
    (pss_cons (ps_setLc (i := 2) (own := [("one", 5)]) (g := gName 5) (tt := tYes) (te := (tCall (spLoose K n) [] E0 (tCons (tVar 0) (tCons (tVar 5) tNil)))) rfl sc_law_loose.nd rfl rfl (sw_true rfl rfl rfl (by decide +kernel)) (XN.pi_seq (pv 1)) (blkOk_by (N := ["state", "thing", "some", "found", "key", "one"]) (sc := defScope s_law_loose) (by decide +kernel)) (fun _ _ _ _ _ => pg_name (i := 5) sc_law_loose.nd rfl (Or.inl rfl)) (fun _ _ _ _ _ => pts_nil) (fun _ _ _ _ _ => (pe_c C_law_loose (hr.mono (by omega)) (pa_cons (pv 0) (pa_cons (pv 5) pa_nil)))))
    (pss_one (ps_ret (pe_ifExp (pt_cmpR op_eq (pe_c C_law_pick (hr.mono (by omega)) (pa_cons (pv 0) (pa_cons pe_int pa_nil))) pe_int (nomark _)) (pv 2) (pe_callTy call_tuple_of (by rfl) W.n_tuple (by decide +kernel) (pa_cons (pv 2) pa_nil))))))
    pss_nil)
    (pss_cons (ps_if (pt_val (pe_callB call_isi (by rfl) W.n_isinstance (by decide +kernel) (pa_cons (pv 1) (pa_cons (pe_bltn (v := .ty "dict") (by rfl) W.n_dict (by decide +kernel) rfl) pa_nil))))
    (pss_cons (ps_set (i := 3) sc_law_loose.nd rfl (.inl rfl) pe_dnewK)
    (pss_cons (ps_for PassesOwn.never rfl (pi_list (pe_c C_law_mixed (hr.mono (by omega)) (pa_cons (pv 0) (pa_cons (pe_callTy (call_list_dK rfl) (by rfl) W.n_list (by decide +kernel) (pa_cons (pv 1) pa_nil)) pa_nil)))) (pg_name (i := 4) sc_law_loose.nd rfl (.inl rfl))
    (pss_one (ps_dput (hu_of hr) (pv 3) (pv 4) (pe_c C_law_loose (hr.mono (by omega)) (pa_cons (pv 0) (pa_cons (pe_dget (hu_of hr) (pv 1) (pv 4) (fun _ _ => rfl)) pa_nil))) rfl)))
    (pss_one (ps_ret (pv 3)))))
    pss_nil)
    (pss_one (ps_ret (pv 1))))), ?_⟩
  have hd0 := hd.mono hs_ex.kp
  refine rd_isi2 rfl hd0 (kL d) (kT d) fun tp htp => ⟨_, rfl, ?_⟩
  have e1 : Ex H (upd H tp (.tup [.ty "list", .ty "tuple"])) := (Ex.refl H).new htp
  have S1 := hS.mono e1
  generalize upd H tp (.tup [.ty "list", .ty "tuple"]) = H1 at e1 S1 ⊢
  have hd1 := hd0.mono e1.kp
  have scal : isSeq d = false → Den K true (nwS (fun b => b = a ∨ b = c) H H1) v d → Q v H1 := fun hs h => k v d H1 (S1.le (Nat.le_add_right _ _)) (fun b o _ _ q => e1 b o q) (by
    cases n with
    | zero => exact rfl
    | succ m => exact .inl ⟨hs, rfl⟩) h
  cases hsq : isSeq d with
  | false =>
    cases hd with
    | non => exact iteF (rd_isi rfl (.non) (b := true) (K := K) (kD .non) ⟨_, rfl, iteF ⟨_, rfl, scal hsq .non⟩⟩)
    | bl x => exact iteF (rd_isi rfl (.bl x) (b := true) (K := K) (kD (.bl x)) ⟨_, rfl, iteF ⟨_, rfl, scal hsq (.bl x)⟩⟩)
    | int x => exact iteF (rd_isi rfl (.int x) (b := true) (K := K) (kD (.int x)) ⟨_, rfl, iteF ⟨_, rfl, scal hsq (.int x)⟩⟩)
    | str x => exact iteF (rd_isi rfl (.str x) (b := true) (K := K) (kD (.str x)) ⟨_, rfl, iteF ⟨_, rfl, scal hsq (.str x)⟩⟩)
    | lst _ _ => cases hsq
    | tup _ _ => cases hsq
    | dic _ _ => cases n <;> exact ho.elim
  | true =>
    have ht : (isL d || isT d) = true := by
      cases d <;> first | rfl | cases hsq
    rw [ht]
    refine iteT ?_
    obtain ⟨m, rfl⟩ : ∃ m, n = m + 1 := by
      cases n with
      | zero => cases d <;> first | exact ho.elim | cases hsq
      | succ m => exact ⟨m, rfl⟩
    obtain ⟨o1, o2⟩ := okb_kids ho
    obtain ⟨p, ys, rfl, hq, hds⟩ := den_kids hd hsq
    have yl := hds.length
    have hex1 : Ex (hs a c H) (hs a c H1) := hid_of e1
    have pos : 0 < 17 ^ m := Nat.pow_pos (by decide)
    have ps := pow_step (m := m) (k := ys.length) (by omega)
    refine ⟨_, rfl, p, rfl, walk_eitherS (hq.imp hex1.er.l hex1.er.t) fun J G wk hG D hD => ?_⟩
    obtain ⟨Da, Dc⟩ := S1.fresh hD
    refine lc_loose (K := K) (S := fun b => b = a ∨ b = c) wk (fun i H' => StAt H' a c (N + i * 17 ^ m)) (fun i e => ∃ x, (kids d)[i]? = some x ∧ Lse m x e) (by rw [yl, sizeLine_eq]; omega) hD (fun z => z.elim Da Dc) hG (S1.le (by omega)) (fun i H' o h => h.put Da Dc) ?_ ?_
    · rintro i x H2 H3 Q2 hi S2 e2 nD ⟨rfl, hx⟩ q
      obtain ⟨dx, hdx, hxd⟩ := hds.get hx
      have b1 : (i + 1) * 17 ^ m ≤ ys.length * 17 ^ m := Nat.mul_le_mul_right _ hi
      have b2 : (i + 1) * 17 ^ m = i * 17 ^ m + 17 ^ m := Nat.succ_mul i (17 ^ m)
      refine ⟨rfl, _, rfl, _, rfl, a, c, _, x, dx, rfl, S2, by omega, (hxd.mono (hex1.trans e2).kp), o2 dx (List.mem_of_getElem? hdx), fun v' e H4 S4 B4 l4 d4 => ?_⟩
      refine q v' e H4 (by rw [Nat.add_assoc, ← b2] at S4; exact S4) B4.hs ⟨dx, hdx, l4⟩ d4
    · intro H2 zs ds2 S2 e2 hz hzl hd2 hR
      have hl2 : ds2.length = (kids d).length := by rw [← hd2.length, hzl, yl]
      have lse : ∀ e : Tr, isSeq e = true → kids e = ds2 → Lse (m + 1) d e := fun e h1 h2 => .inr ⟨hsq, h1, by rw [h2, hl2], fun i x y hx hy => by
        rw [h2] at hy
        obtain ⟨x2, hx2, l2⟩ := hR i y hy
        rw [hx] at hx2
        obtain rfl := Option.some.inj hx2
        exact l2⟩
      have B2 : Bar a c H H2 := hs_bar (hex1.trans e2)
      have hd3 : Dens K true (hid (fun b => (b = a ∨ b = c) ∨ H b ≠ none ∨ b = D) H2) zs ds2 := hd2.mono (hid_sub fun b z => z.imp id fun w => w.imp (fun w q => w (e1.free q)) id).kp
      have D0 : H D = none := e1.free hD
      refine ⟨_, rfl, a, c, _, 2, rfl, S2, by omega, by decide, by decide, fun r H3 r0 r1 S3 B3 => ⟨rfl, _, rfl, ?_⟩⟩
      have hz3 : H3 D = some (.lst zs) := B3 _ _ Da Dc hz
      have S4 := S3.le (M := N + 17 ^ (m + 1)) (by omega)
      have hd4 : Dens K true (hid (fun b => (b = a ∨ b = c) ∨ H b ≠ none ∨ b = D) H3) zs ds2 := hd3.mono (Ex.kp fun b o q => by
        obtain ⟨q1, q2⟩ := hid_some.mp q
        exact hid_some.mpr ⟨q1, B3 b o (fun z => q1 (.inl (.inl z))) (fun z => q1 (.inl (.inr z))) q2⟩)
      refine ite2 (fun _ => ⟨_, rfl, ?_⟩) (fun _ => ⟨_, rfl, D, zs, rfl, .inl ⟨SqL.of hz3, fun t ht => ?_⟩⟩)
      · refine k _ (.lst ds2) H3 S4 (B2.trans B3) (lse _ rfl rfl) (.lst (SqL.of (hid_some.mpr ⟨fun z => z.elim (fun w => w.elim Da Dc) fun w => w D0, hz3⟩)) (hd4.mono (hid_sub fun b z => z.imp id .inl).kp))
      · have t0 : H t = none := by
          cases ht0 : H t with
          | none => rfl
          | some u =>
            obtain ⟨ta, tc⟩ := S3.fresh ht
            have := (B2.trans B3) t u ta tc ht0
            rw [ht] at this
            cases this
        obtain ⟨ta, tc⟩ := S3.fresh ht
        refine k _ (.tup ds2) _ (S4.put ta tc) ((B2.trans B3).new ht) (lse _ rfl rfl) (.tup (SqT.of (hid_some.mpr ⟨fun z => z.elim (fun w => w.elim ta tc) fun w => w t0, upd_same⟩)) (hd4.mono (Ex.kp fun b o q => ?_)))
        obtain ⟨q1, q2⟩ := hid_some.mp q
        exact hid_some.mpr ⟨fun z => q1 (z.imp id .inl), by rw [upd_ne (ne_of_none q2 ht)]; exact q2⟩
theorem c_law_loose (W : Wld K mg) : ∀ n : Nat, Cal P w K mg base (n + 3) "_law_loose" ["state", "thing"] (spLoose K n)
  | 0 => by
    obtain ⟨fd, F⟩ := W.c.def_ 38 rfl
    exact ⟨⟨fd, ⟨fun vs H Q E h => h.elim, fun _ _ _ _ _ _ _ _ _ _ _ _ _ h => h.elim⟩, F.bindsN fun _ _ _ _ _ _ us hl => match us, hl with | [_, _], _ => rfl⟩, W.g_law_loose, F.kp⟩
  | n + 1 => by
    obtain ⟨fd, F⟩ := W.c.def_ 38 rfl
    exact ⟨⟨fd, ok_law_loose n W F (c_law_loose W n), F.bindsN fun _ _ _ _ _ _ us hl => match us, hl with | [_, _], _ => rfl⟩, W.g_law_loose, F.kp⟩
end
end K77

set_option Elab.async false
set_option linter.all false
set_option maxRecDepth 100000
set_option maxHeartbeats 400000
namespace K77
open PySem PySem.Spec PyProof.Rows L2 DL
section
variable {P : Program} {w : World} {K : PySem.W.Frag} {mg : Str → Option Value} {base : Heap} {f : Addr} {fd : FuncData}
/-- tuples and what is no list: nothing to spoil -/
def Frz : Nat → Tr → Prop
  | n + 1, .tup xs => xs.length ≤ 100000 ∧ ∀ x ∈ xs, Frz n x
  | 0, .tup _ => False
  | _, .lst _ => False
  | _, .dic _ => False
  | _, _ => True
def spSpoil (K : PySem.W.Frag) : Nat → Sp
  | 0 => fun _ _ _ _ => False
  | n + 1 => fun vs H Q _ => ∃ (v : V) (d : Tr), vs = [v] ∧ Den K true H v d ∧ Frz n d ∧ ∀ v' H', Ex H H' → Q v' H'
theorem sc_law_is_number : FnScope ["thing"] ["thing"] (defScope s_law_is_number) := ⟨rfl, rfl, rfl, by decide +kernel, rfl, by decide +kernel, by decide +kernel⟩
theorem ok_law_is_number (W : Wld K mg) (F : FnP K "_law_is_number" s_law_is_number f fd) : FnOk P w K mg base CX0 1 f fd ["thing"] (sp1 K isNum) := by
  refine F.ok sc_law_is_number (fun vs H Q E h => ?_) (fun cdv A outer s H vs Q E hr h => ?_)
  · obtain ⟨v, d, rfl, _⟩ := h
    rfl
  obtain ⟨v, d, rfl, hd, k⟩ := h
  refine ⟨_, PSs.nox (pss_one (ps_ret (pe_and (pe_callB call_isi (by rfl) W.n_isinstance (by decide +kernel) (pa_cons (pv 0) (pa_cons (pe_bltn (v := .ty "int") (by rfl) W.n_int (by decide +kernel) rfl) pa_nil))) (pe_and (pe_not (pe_callB call_isi (by rfl) W.n_isinstance (by decide +kernel) (pa_cons (pv 0) (pa_cons (pe_bltn (v := .ty "bool") (by rfl) W.n_bool (by decide +kernel) rfl) pa_nil)))) (pe_one (pe_cmpR op_ge (pv 0) pe_int (nomark _))))))), ?_⟩
  refine rd_isi rfl hd (kI d) ⟨_, rfl, ?_⟩
  have k0 := k H (Ex.refl H)
  cases hd with
  | int i => exact iteT (rd_isi rfl (.int i) (b := true) (K := K) (kB (.int i)) ⟨_, rfl, _, rfl, iteT ⟨_, rfl, _, _, rfl, rfl, k0⟩⟩)
  | bl x => exact iteT (rd_isi rfl (.bl x) (b := true) (K := K) (kB (.bl x)) ⟨_, rfl, _, rfl, iteF k0⟩)
  | _ => exact iteF k0
theorem c_law_is_number (W : Wld K mg) : Cal P w K mg base 1 "_law_is_number" ["thing"] (sp1 K isNum) := by
  obtain ⟨fd, F⟩ := W.c.def_ 39 rfl
  exact ⟨⟨fd, ok_law_is_number W F, F.bindsN fun _ _ _ _ _ _ us hl => match us, hl with | [_], _ => rfl⟩, W.g_law_is_number, F.kp⟩
end
end K77

set_option Elab.async false
set_option linter.all false
set_option maxRecDepth 100000
set_option maxHeartbeats 2000000
namespace XS
open PySem PySem.Spec PyProof.Rows L2
/-- the signs of a text -/
def signs (x : Str) : List V := x.cps.toList.map fun c => V.str ⟨#[c]⟩
def rListS : List V → Hp → VK → Prop := fun xs H Q => ∃ x, xs = [.str x] ∧ x.length ≤ 16777216 ∧ ∀ q, H q = none → Q (.ref q) (upd H q (.lst (signs x)))
/-- list(text) -/
theorem call_list_txt {X : Cx} (hc : X.calm = true) : CallR X (.type "list") rListS := by
  intro pins s σ H xs us Q I r h
  obtain ⟨x, rfl, hx, q⟩ := h
  obtain ⟨u, eu, rx⟩ := vals1 r
  subst eu
  obtain ⟨t, rfl⟩ : ∃ t, u = Value.str x t := rx
  have hz : (signs x).length = x.cps.size := by
    unfold signs
    rw [List.length_map, Array.length_toList]
  have hn : x.cps.size ≤ sizeLine := by rw [sizeLine_eq]; exact hx
  refine PySem.call_list_str (I.ok.hd hc) x t (hn := hn) fun h' tk acc' c' hkeep hS hacc => ?_
  refine ⟨.ref s.heap.objs.size, upd H s.heap.objs.size (.lst (signs x)), I.laid hkeep (Nat.le_refl _) (show ObjOk X.prog X.w _ _ _ (.lst (signs x)) from ⟨?_, acc'.toList, c', ?_, ?_⟩), rfl, q _ (I.hok.fresh (Nat.le_refl _))⟩
  · rw [hz]
    exact hn
  · have el : acc'.toList.length = acc'.size := by simp
    refine vals_of_at (by rw [hz, el, hacc.1]) fun j y w h1 h2 => ?_
    have z := hacc.2 j w (by rw [← Array.getElem?_toList]; exact h2)
    obtain ⟨c, u, z1, rfl⟩ := z
    unfold signs at h1
    rw [List.getElem?_map, Array.getElem?_toList, z1] at h1
    obtain rfl := Option.some.inj h1
    exact ⟨u, rfl⟩
  · rw [Array.toArray_toList]
    exact hS
end XS

set_option Elab.async false
set_option linter.all false
set_option maxRecDepth 100000
set_option maxHeartbeats 400000
namespace K77
open PySem PySem.Spec PyProof.Rows L2 DL
theorem let_in : ((List.range 26).map (· + 97)).all (fun c => inS LET ⟨#[c]⟩) = true := by decide +kernel
/-- letters alone, as numbers -/
def lowB (x : Str) : Bool := x.cps.toList.all fun c => decide (97 ≤ c) && decide (c ≤ 122)
theorem let_of {c : Nat} (h1 : 97 ≤ c) (h2 : c ≤ 122) : inS LET ⟨#[c]⟩ = true :=
  List.all_eq_true.mp let_in c (List.mem_map.mpr ⟨c - 97, List.mem_range.mpr (by omega), by show c - 97 + 97 = c; omega⟩)
def nameB (x : Str) : Bool := (decide (0 < x.length) && decide (x.length ≤ 8)) && (lowB x && !Txt.startswith x "bit")
theorem name_of {x : Str} (h : nameB x = true) : NameOk x := by
  obtain ⟨h1, h2⟩ := He.ba h
  obtain ⟨h3, h4⟩ := He.ba h1
  obtain ⟨h5, h6⟩ := He.ba h2
  have h3 := of_decide_eq_true h3
  have h4 := of_decide_eq_true h4
  refine ⟨⟨⟨h3, by omega, fun c hc => ?_⟩, h4⟩, by simpa using h6⟩
  obtain ⟨z1, z2⟩ := He.ba (List.all_eq_true.mp h5 c hc)
  exact let_of (of_decide_eq_true z1) (of_decide_eq_true z2)
def cand (k : Nat) : Str := (chS "qxyz" (k % 4) ++ chS LET (k / 4 % 26)) ++ chS "abcdefghij" (k / 104)
theorem cand_ok : ((List.range 600).map cand).all nameB = true := by decide +kernel
theorem cand_nodup : ((List.range 120).map cand).Nodup := by decide +kernel
def lets : List Str := ["a", "b", "c", "d", "x", "y", "z"]
theorem words_ok : (lets.all fun a => nameB (Txt.join "" [a]) && lets.all fun b => nameB (Txt.join "" [a, b]) && lets.all fun c => nameB (Txt.join "" [a, b, c])) = true := by decide +kernel
theorem signs_lets : XS.signs "abcdxyz" = lets.map V.str := by decide +kernel
section
variable {P : Program} {w : World} {K : PySem.W.Frag} {mg : Str → Option Value} {base : Heap} {f : Addr} {fd : FuncData}
/-- the word, or another in its place -/
def candN (x : Str) : Nat → Str
  | 0 => x
  | k + 1 => cand k
theorem pigeon {l m : List Str} (hn : m.Nodup) (h : ∀ x ∈ m, x ∈ l) : m.length ≤ l.length := by
  induction m generalizing l with
  | nil => exact Nat.zero_le _
  | cons a r ih =>
    obtain ⟨h1, h2⟩ := List.nodup_cons.mp hn
    have ha := h a List.mem_cons_self
    have := ih (l := l.erase a) h2 fun x hx => (List.mem_erase_of_ne fun e => h1 (by rw [← e]; exact hx)).mpr (h x (List.mem_cons_of_mem _ hx))
    rw [List.length_erase_of_mem ha] at this
    have : 0 < l.length := List.length_pos_iff.mpr fun e => by rw [e] at ha; cases ha
    rw [List.length_cons]
    omega
def spFree (K : PySem.W.Frag) : Sp := fun vs H Q _ => ∃ (t : Addr) (l : List Str) (x : Str), vs = [.ref t, .str x] ∧ SqL K H t (strsV l) ∧ l.length ≤ 100 ∧ NameOk x ∧ ∀ y H', Ex H H' → NameOk y → y ∉ l → Q (.str y) H'
theorem sc_law_free_word : FnScope ["taken", "word", "k"] ["taken", "word"] (defScope s_law_free_word) := ⟨rfl, rfl, rfl, by decide +kernel, rfl, by decide +kernel, by decide +kernel⟩
theorem ok_law_free_word (W : Wld K mg) (F : FnP K "_law_free_word" s_law_free_word f fd) : FnOk P w K mg base CX0 1 f fd ["taken", "word"] (spFree K) := by
  refine F.ok sc_law_free_word (fun vs H Q E h => ?_) (fun cdv A outer s H vs Q E hr h => ?_)
  · obtain ⟨t, l, x, rfl, _⟩ := h
    rfl
  obtain ⟨t, l, x, rfl, ht, hl, hx, k⟩ := h
  refine ⟨_, PSs.nox (pss_cons (ps_for PassesOwn.never rfl (pi_range1 (by rfl) W.n_range (pa_cons pe_int pa_nil)) (pg_name (i := 2) sc_law_free_word.nd rfl (.inl rfl))
    (pss_cons (ps_if (pt_cmpR op_notIn_seq (pv 1) (pv 0) (by rfl))
    (pss_one (ps_ret (pv 1)))
    pss_nil)
    (pss_one (ps_set (i := 1) sc_law_free_word.nd rfl (.inl rfl) (pe_op op_add_str (pe_op op_add_str (pe_ix ix_str pe_str (pe_op op_mod (pv 2) pe_int) (fun _ _ => rfl)) (pe_ix ix_str pe_str (pe_op op_mod (pe_op op_fdiv (pv 2) pe_int) pe_int) (fun _ _ => rfl))) (pe_ix ix_str pe_str (pe_op op_fdiv (pv 2) pe_int) (fun _ _ => rfl)))))))
    (pss_one (ps_ret (pv 1)))), ?_⟩
  have okN : ∀ i, i < 600 → NameOk (candN x i) := fun i hi => by
    cases i with
    | zero => exact hx
    | succ i => exact name_of (List.all_eq_true.mp cand_ok _ (List.mem_map.mpr ⟨i, List.mem_range.mpr (by omega), rfl⟩))
  have full : ¬ ∀ j, j < 120 → cand j ∈ l := fun h => by
    have := pigeon (l := l) cand_nodup fun y hy => by
      obtain ⟨j, hj, rfl⟩ := List.mem_map.mp hy
      exact h j (List.mem_range.mp hj)
    rw [List.length_map, List.length_range] at this
    omega
  refine ⟨600, rfl, by decide, by decide, ?_⟩
  refine for_range (fun i σ H' => H' = H ∧ (∀ j, j < i → candN x j ∈ l) ∧ i ≤ 600 ∧ ∃ o, σ = [some (.ref t), some (.str (candN x i)), o]) ⟨rfl, fun j h => by omega, by omega, _, rfl⟩ ?_ ?_
  · rintro i σ H2 hi ⟨rfl, hj, hi2, o, rfl⟩
    have hi : i < 600 := hi
    rw [Int.zero_add]
    refine ⟨_, rfl, _, rfl, t, _, rfl, .inl ht, rfl, flat_strs l, ?_⟩
    show ∃ b, V.bl (!inV (.str (candN x i)) (strsV l)) = .bl b ∧ _
    rw [inV_strs]
    refine ⟨_, rfl, ?_⟩
    by_cases hm : candN x i ∈ l
    · rw [decide_eq_true hm]
      refine iteF ?_
      obtain ⟨c1, a1, b1⟩ := ch_at (x := "qxyz") (i := i % 4) (by show i % 4 < 4; omega)
      obtain ⟨c2, a2, b2⟩ := ch_at (x := LET) (i := i / 4 % 26) (by show i / 4 % 26 < 26; omega)
      obtain ⟨c3, a3, b3⟩ := ch_at (x := "abcdefghij") (i := i / 104) (by show i / 104 < 10; omega)
      have m1 : ((i : Nat) : Int) % 4 = ((i % 4 : Nat) : Int) := by omega
      have m2 : ((i : Nat) : Int) / 4 % 26 = ((i / 4 % 26 : Nat) : Int) := by omega
      have m3 : ((i : Nat) : Int) / 104 = ((i / 104 : Nat) : Int) := by omega
      refine ⟨_, rfl, _, _, rfl, rfl, (by show (0 : Int) < 4; decide), _, _, c1, rfl, rfl, by show 4 ≤ sizeLine; decide, by rw [m1]; exact a1, ?_⟩
      refine ⟨_, rfl, _, _, rfl, rfl, ⟨by decide, by decide⟩, _, _, rfl, rfl, (by show (0 : Int) < 26; decide), _, _, c2, rfl, rfl, by show 26 ≤ sizeLine; decide, by rw [m2]; exact a2, ?_⟩
      refine ⟨_, _, rfl, rfl, by show 1 + 1 ≤ sizeLine; decide, ?_⟩
      refine ⟨_, rfl, _, _, rfl, rfl, ⟨by decide, by decide⟩, _, _, c3, rfl, rfl, by show 10 ≤ sizeLine; decide, by rw [m3]; exact a3, ?_⟩
      refine ⟨_, _, rfl, rfl, by show 2 + 1 ≤ sizeLine; decide, ?_⟩
      rw [← b1, ← b2, ← b3]
      refine ⟨rfl, fun j hj2 => ?_, by omega, _, rfl⟩
      by_cases h : j < i
      · exact hj j h
      · have : j = i := by omega
        rw [this]
        exact hm
    · rw [decide_eq_false hm]
      exact iteT ⟨_, rfl, k _ _ (Ex.refl _) (okN i hi) hm⟩
  · rintro σ H2 ⟨rfl, hj, hi2, o, rfl⟩
    exact absurd (fun j hj2 => hj (j + 1) (by show j + 1 < 600; omega)) full
theorem c_law_free_word (W : Wld K mg) : Cal P w K mg base 1 "_law_free_word" ["taken", "word"] (spFree K) := by
  obtain ⟨fd, F⟩ := W.c.def_ 40 rfl
  exact ⟨⟨fd, ok_law_free_word W F, F.bindsN fun _ _ _ _ _ _ us hl => match us, hl with | [_, _], _ => rfl⟩, W.g_law_free_word, F.kp⟩
end
end K77

set_option Elab.async false
set_option linter.all false
set_option maxRecDepth 100000
set_option maxHeartbeats 400000
namespace K77
open PySem PySem.Spec PyProof.Rows L2 DL
section
variable {P : Program} {w : World} {K : PySem.W.Frag} {mg : Str → Option Value} {base : Heap} {f : Addr} {fd : FuncData}
/-- a cell of so many signs -/
def Cell (n : Nat) (x : Str) : Prop := x.length = n ∧ ∀ c ∈ x.cps.toList, c = 48 ∨ c = 49
theorem cell_in {n : Nat} {x : Str} (h : Cell n x) (h0 : 0 < n) (h1 : n < 1000000) : AllIn "01" x := by
  refine ⟨by rw [h.1]; exact h0, by rw [h.1]; exact h1, fun c hc => ?_⟩
  rcases h.2 c hc with rfl | rfl <;> decide +kernel
theorem cell_snoc {n : Nat} {x y : Str} (h : Cell n x) (hy : Cell 1 y) : Cell (n + 1) (x ++ y) := by
  obtain ⟨h1, h2⟩ := h
  obtain ⟨y1, y2⟩ := hy
  refine ⟨?_, fun c hc => ?_⟩
  · show (x.cps ++ y.cps).size = _
    rw [Array.size_append]
    show x.length + y.length = _
    rw [h1, y1]
  · have hc : c ∈ (x.cps ++ y.cps).toList := hc
    rw [Array.toList_append, List.mem_append] at hc
    exact hc.elim (h2 c) (y2 c)
theorem cell_0 : Cell 1 "0" := ⟨by decide +kernel, by decide +kernel⟩
theorem cell_1 : Cell 1 "1" := ⟨by decide +kernel, by decide +kernel⟩
theorem strs_len (l : List Str) : (strsV l).length = l.length := by unfold strsV; rw [List.length_map]
theorem strs_app (l m : List Str) : strsV l ++ strsV m = strsV (l ++ m) := by unfold strsV; rw [List.map_append]
def spCells : Sp := fun vs H Q _ => ∃ n : Nat, vs = [.int n] ∧ n ≤ 10 ∧ ∀ D ys H', Ex H H' → H D = none → H' D = some (.lst (strsV ys)) → ys.length = 2 ^ n → (∀ y ∈ ys, Cell n y) → Q (.ref D) H'
theorem sc_law_cells : FnScope ["many", "cells", "k", "longer", "cell"] ["many"] (defScope s_law_cells) := ⟨rfl, rfl, rfl, by decide +kernel, rfl, by decide +kernel, by decide +kernel⟩
theorem ok_law_cells (W : Wld K mg) (F : FnP K "_law_cells" s_law_cells f fd) : FnOk P w K mg base CX0 1 f fd ["many"] spCells := by
  refine F.ok sc_law_cells (fun vs H Q E h => ?_) (fun cdv A outer s H vs Q E hr h => ?_)
  · obtain ⟨n, rfl, _⟩ := h
    rfl
  obtain ⟨n, rfl, hn, k⟩ := h
  refine ⟨_, PSs.nox (pss_cons (ps_set (i := 1) sc_law_cells.nd rfl (.inl rfl) (pe_lst (pa_cons pe_str pa_nil)))
    (pss_cons (ps_for PassesOwn.never rfl (pi_range1 (by rfl) W.n_range (pa_cons (pv 0) pa_nil)) (pg_name (i := 2) sc_law_cells.nd rfl (.inl rfl))
    (pss_cons (ps_set (i := 3) sc_law_cells.nd rfl (.inl rfl) (pe_lst pa_nil))
    (pss_cons (ps_for PassesOwn.never rfl (pi_list (pv 1)) (pg_name (i := 4) sc_law_cells.nd rfl (.inl rfl))
    (pss_one (ps_expr (pe_bm PySem.F.plainAttrs_list PySem.F.slot_list_extend PySem.F.type_list_extend mt_extend (pv 3) (pa_cons (pe_lst (pa_cons (pe_op op_add_str (pv 4) pe_str) (pa_cons (pe_op op_add_str (pv 4) pe_str) pa_nil))) pa_nil)))))
    (pss_one (ps_set (i := 1) sc_law_cells.nd rfl (.inl rfl) (pv 3))))))
    (pss_one (ps_ret (pv 1))))), ?_⟩
  refine XL.p_lst ⟨by show 1 ≤ sizeLine; decide, fun C hC => ?_⟩
  have e1 : Ex H (upd H C (.lst [.str ""])) := (Ex.refl H).new hC
  refine ⟨_, rfl, _, rfl, by omega, by omega, ?_⟩
  have en : ((n : Int)).toNat = n := Int.toNat_natCast _
  rw [en]
  refine for_range (fun i σ H' => Ex H H' ∧ ∃ C l o2 o3 o4, σ = [some (.int n), some (.ref C), o2, o3, o4] ∧ H C = none ∧ H' C = some (.lst (strsV l)) ∧ l.length = 2 ^ i ∧ ∀ x ∈ l, Cell i x)
    ⟨e1, C, [""], _, _, _, rfl, hC, upd_same, rfl, fun x hx => by rw [List.mem_singleton.mp hx]; exact ⟨by decide +kernel, by decide +kernel⟩⟩ ?_ ?_
  · rintro i σ H2 hi ⟨e2, C, l, o2, o3, o4, rfl, hC, hl, hll, hx⟩
    have pw : 2 ^ i ≤ 2 ^ 10 := Nat.pow_le_pow_right (by decide) (by omega)
    refine XL.p_lst ⟨by show 0 ≤ sizeLine; omega, fun L hL => ?_⟩
    have e3 : Ex H2 (upd H2 L (.lst [])) := (Ex.refl H2).new hL
    have hL3 : upd H2 L (.lst []) L = some (.lst (strsV [])) := upd_same
    have nCL : C ≠ L := ne_of_none hl hL
    have hl3 := e3 _ _ hl
    generalize upd H2 L (.lst []) = H3 at e3 hL3 hl3 ⊢
    refine ⟨_, rfl, C, rfl, ⟨_, SqL.of hl3⟩, ?_⟩
    refine for_it (walk_list (xs := strsV l)) (fun j σ H' => Ex H2 H' ∧ ∃ m o4, σ = [some (.int n), some (.ref C), some (.int (0 + (i : Nat))), some (.ref L), o4] ∧ H' L = some (.lst (strsV m)) ∧ m.length = 2 * j ∧ ∀ x ∈ m, Cell (i + 1) x)
      ⟨e3, [], _, rfl, hL3, rfl, fun x hx => by cases hx⟩ (fun j σ H' _ h => SqL.of (h.1 _ _ hl)) ?_ ?_
    · rintro j u σ H4 H5 hj ⟨e4, m, o4, rfl, hm, hml, hmx⟩ ⟨rfl, hu⟩
      obtain ⟨x, hxl, rfl⟩ := strs_get hu
      have cx := hx x (List.mem_of_getElem? hxl)
      rw [strs_len] at hj
      refine ⟨_, rfl, .inl ⟨rfl, _, SqL.of hm⟩, ?_⟩
      refine ⟨_, rfl, x, _, rfl, rfl, ?_, _, rfl, x, _, rfl, rfl, ?_, ?_⟩
      · show x.length + 1 ≤ sizeLine
        rw [cx.1, sizeLine_eq]
        omega
      · show x.length + 1 ≤ sizeLine
        rw [cx.1, sizeLine_eq]
        omega
      refine ⟨by show 2 ≤ sizeLine; decide, fun q hq => ?_⟩
      have nLq : L ≠ q := ne_of_none hm hq
      refine ⟨L, q, _, _, rfl, rfl, by rw [upd_ne nLq]; exact hm, upd_same, ?_, ?_⟩
      · rw [strs_len, hml, sizeLine_eq]
        show 2 * j + 2 ≤ _
        omega
      · refine ⟨fun b o hb => ?_, m ++ [x ++ "0", x ++ "1"], _, rfl, ?_, by rw [List.length_append, hml]; show 2 * j + 2 = _; omega, fun y hy => ?_⟩
        · rw [upd_ne (ne_of_none hb hL), upd_ne (ne_of_none (e4 _ _ hb) hq)]
          exact e4 _ _ hb
        · rw [upd_same, ← strs_app]
          rfl
        · rcases List.mem_append.mp hy with h | h
          · exact hmx y h
          · rcases List.mem_cons.mp h with rfl | h
            · exact cell_snoc cx cell_0
            · rw [List.mem_singleton.mp h]
              exact cell_snoc cx cell_1
    · rintro σ H4 ⟨e4, m, o4, rfl, hm, hml, hmx⟩
      rw [strs_len, hll] at hml
      refine ⟨_, rfl, e2.trans e4, L, m, _, _, _, rfl, e2.free hL, hm, by rw [hml, Nat.pow_succ]; omega, hmx⟩
  · rintro σ H2 ⟨e2, C, l, o2, o3, o4, rfl, hC, hl, hll, hx⟩
    exact ⟨_, rfl, k C l H2 e2 hC hl hll hx⟩
theorem c_law_cells (W : Wld K mg) : Cal P w K mg base 1 "_law_cells" ["many"] spCells := by
  obtain ⟨fd, F⟩ := W.c.def_ 41 rfl
  exact ⟨⟨fd, ok_law_cells W F, F.bindsN fun _ _ _ _ _ _ us hl => match us, hl with | [_], _ => rfl⟩, W.g_law_cells, F.kp⟩
end
end K77

set_option Elab.async false
set_option linter.all false
set_option maxRecDepth 100000
set_option maxHeartbeats 400000
namespace K77
open PySem PySem.Spec PyProof.Rows L2 DL
def CollV (R : Nat → V → Prop) (a c N c0 : Nat) (H1 : Hp) (D : Addr) (i : Nat) (H : Hp) : Prop :=
  StAt H a c (N + i * c0) ∧ Bar a c H1 H ∧ ∃ ys, H D = some (.lst ys) ∧ ys.length = i ∧ ∀ (j : Nat) y, ys[j]? = some y → R j y
/-- a comprehension whose items are drawn -/
theorem lc_draw {J : It} {n : Nat} {G : Hp → Prop} {Y : Nat → Hp → V → Hp → Prop} (w : Walk J n G Y) (R : Nat → V → Prop) {a c N : Nat} (c0 : Nat) {g : TG} {te : TE} {vs : List Nat} {σ : L2.St} {H1 : Hp} {D : Addr} {Qd : Hp → Prop}
    (hn : n < sizeLine) (hS : StAt H1 a c N) (hD : H1 D = none) (hG : ∀ H, Bar a c H1 H → G H)
    (hs : ∀ (i : Nat) x H H' (Q : VK), i < n → StAt H a c (N + i * c0) → Bar a c H1 H → H D ≠ none → Y i H x H' → (∀ y H4, StAt H4 a c (N + i * c0 + c0) → Bar a c H H4 → R i y → Q y H4) → g x (wipe σ vs) H' fun σ2 H2 => wipe σ2 vs = wipe σ vs ∧ te σ2 H2 Q)
    (hd : ∀ H ys, StAt H a c (N + n * c0) → Bar a c H1 H → H D = some (.lst ys) → ys.length = n → (∀ (j : Nat) y, ys[j]? = some y → R j y) → Qd H) :
    ∃ W : Nat → Nat → Hp → Prop, (∃ m, W 0 m (upd H1 D (.lst []))) ∧ ∀ i m H, W i m H →
      (J.stop i H ∧ Qd H) ∨ (J.go i H ∧ ∃ Nx : Hp → Prop, (∀ H', Nx H' → ∃ m', m' < m ∧ W (i + 1) m' H') ∧ ∀ x H', J.yld i H x H' → g x (wipe σ vs) H' fun σ2 H2 => wipe σ2 vs = wipe σ vs ∧ tYes σ2 H2 fun b H3 =>
        if b = true then te σ2 H3 fun y H4 => ∃ acc, H4 D = some (.lst acc) ∧ acc.length < sizeLine ∧ Nx (upd H4 D (.lst (acc ++ [y]))) else Nx H3) := by
  obtain ⟨Da, Dc⟩ := hS.fresh hD
  have new : ∀ {H : Hp} {o : HO}, Bar a c H1 H → Bar a c H1 (upd H D o) := fun {H o} b u v h1 h2 q => by
    rw [upd_ne (ne_of_none q hD)]
    exact b u v h1 h2 q
  refine lc_it w (fun i H => CollV R a c N c0 H1 D i H) ⟨(hS.le (by omega)).put Da Dc, new Bar.refl, [], upd_same, rfl, fun j y h => by simp at h⟩ (fun i H _ h => hG H h.2.1) ?_ fun H ⟨h1, h2, ys, h3, h4, h5⟩ => hd H ys h1 h2 h3 h4 h5
  rintro i x H H' hi ⟨S, B, ys, hys, hyl, hr⟩ y
  show g x (wipe σ vs) H' (fun σ2 H2 => wipe σ2 vs = wipe σ vs ∧ (if true = true then te σ2 H2 (fun y H4 => ∃ acc, H4 D = some (.lst acc) ∧ acc.length < sizeLine ∧ CollV R a c N c0 H1 D (i + 1) (upd H4 D (.lst (acc ++ [y])))) else CollV R a c N c0 H1 D (i + 1) H2))
  have e0 : ∀ (A B : Prop), (if true = true then A else B) = A := fun _ _ => if_pos rfl
  simp only [e0]
  refine hs i x H H' _ hi S B (by rw [hys]; exact fun z => nomatch z) y fun z H4 S4 B4 rz => ?_
  have hD4 := B4 D _ Da Dc hys
  refine ⟨ys, hD4, by omega, ?_, new (B.trans B4), ys ++ [z], upd_same, by simp [hyl], fun j u hu => ?_⟩
  · have e : N + (i + 1) * c0 = N + i * c0 + c0 := by rw [Nat.add_mul, Nat.one_mul, Nat.add_assoc]
    rw [e]
    exact S4.put Da Dc
  · by_cases hj : j < ys.length
    · rw [List.getElem?_append_left hj] at hu
      exact hr j u hu
    · have : j = ys.length := by
        have := (List.getElem?_eq_some_iff.mp hu).1
        simp at this
        omega
      subst this
      have : z = u := by simpa using hu
      subst this
      rw [hyl]
      exact rz
theorem strs_of : ∀ {ys : List V} {p : Str → Prop}, (∀ (j : Nat) y, ys[j]? = some y → ∃ x, y = .str x ∧ p x) → ∃ l : List Str, ys = strsV l ∧ l.length = ys.length ∧ ∀ x ∈ l, p x
  | [], p, _ => ⟨[], rfl, rfl, fun x hx => by cases hx⟩
  | y :: ys, p, h => by
    obtain ⟨x, rfl, hx⟩ := h 0 y rfl
    obtain ⟨l, rfl, h2, h3⟩ := strs_of (ys := ys) (p := p) fun j z hz => h (j + 1) z (by simpa using hz)
    exact ⟨x :: l, rfl, by rw [List.length_cons, List.length_cons, h2], fun z hz => (List.mem_cons.mp hz).elim (fun e => by rw [e]; exact hx) (h3 z)⟩
theorem word_name {l : List Str} (h0 : l ≠ []) (h1 : l.length ≤ 3) (h : ∀ x ∈ l, x ∈ lets) : NameOk (Txt.join "" l) := by
  have w1 := List.all_eq_true.mp words_ok
  match l, h0, h1, h with
  | [a], _, _, h => exact name_of (He.ba (w1 a (h a (by simp)))).1
  | [a, b], _, _, h => exact name_of (He.ba (List.all_eq_true.mp (He.ba (w1 a (h a (by simp)))).2 b (h b (by simp)))).1
  | [a, b, c], _, _, h => exact name_of (List.all_eq_true.mp (He.ba (List.all_eq_true.mp (He.ba (w1 a (h a (by simp)))).2 b (h b (by simp)))).2 c (h c (by simp)))
  | _ :: _ :: _ :: _ :: _, _, h1, _ => exact absurd h1 (by simp)
theorem lets_len : ∀ x ∈ lets, x.length = 1 := by decide +kernel
theorem signs_ne : XS.signs "abcdxyz" ≠ [] := by
  rw [signs_lets]
  exact (fun z => nomatch z)
theorem signs_ln : (XS.signs "abcdxyz").length < 1000000 := by
  rw [signs_lets]
  decide
theorem sum_one : ∀ {l : List Str}, (∀ x ∈ l, x ∈ lets) → (l.map (·.length)).sum = l.length
  | [], _ => rfl
  | x :: l, h => by
    rw [List.map_cons, List.sum_cons, sum_one fun y hy => h y (List.mem_cons_of_mem _ hy), lets_len x (h x List.mem_cons_self), List.length_cons]
    omega
section
variable {P : Program} {w : World} {K : PySem.W.Frag} {mg : Str → Option Value} {base : Heap} {f : Addr} {fd : FuncData}
def spNames4 (K : PySem.W.Frag) : Sp := fun vs H Q _ => ∃ (a c t : Addr) (N n : Nat) (l : List Str), vs = [.ref a, .int n, .ref t] ∧ StAt H a c N ∧ N + 40 < 1099511627776 ∧ hs a c H t = some (.lst (strsV l)) ∧ l.length ≤ 50 ∧ n ≤ 10 ∧
  ∀ D m H', StAt H' a c (N + 40) → Bar a c H H' → H D = none → H' D = some (.lst (strsV m)) → m.length = n → m.Nodup → (∀ x ∈ m, NameOk x ∧ x ∉ l) → Q (.ref D) H'
theorem sc_law_names_for : FnScope ["state", "many", "taken", "found", "k", "word", "j"] ["state", "many", "taken"] (defScope s_law_names_for) := ⟨rfl, rfl, rfl, by decide +kernel, rfl, by decide +kernel, by decide +kernel⟩
theorem ok_law_names_for (W : Wld K mg) (F : FnP K "_law_names_for" s_law_names_for f fd) : FnOk P w K mg base CX0 4 f fd ["state", "many", "taken"] (spNames4 K) := by
  have C_law_pick : Cal P w K mg base 2 "_law_pick" ["state", "many"] spPick := c_law_pick W
  have C_law_one : Cal P w K mg base 3 "_law_one" ["state", "things"] (spOne K) := c_law_one W
  have C_law_free_word : Cal P w K mg base 1 "_law_free_word" ["taken", "word"] (spFree K) := c_law_free_word W
  refine F.ok sc_law_names_for (fun vs H Q E h => ?_) (fun cdv A outer s H vs Q E hr h => ?_)
  · obtain ⟨a, c, t, N, n, l, rfl, _⟩ := h
    rfl
  obtain ⟨a, c, t, N, n, l, rfl, hS, hN, ht, hl, hn, k⟩ := h
  refine ⟨_, PSs.nox (pss_cons (ps_set (i := 3) sc_law_names_for.nd rfl (.inl rfl) (pe_lst pa_nil))
    (pss_cons (ps_for PassesOwn.never rfl (pi_range1 (by rfl) W.n_range (pa_cons (pv 1) pa_nil)) (pg_name (i := 4) sc_law_names_for.nd rfl (.inl rfl))
    (pss_cons (ps_set (i := 5) sc_law_names_for.nd rfl (.inl rfl) (pe_join pe_str (pe_lc (own := [("j", 6)]) (g := gName 6) (tt := tYes) (te := (tCall (spOne K) [] E0 (tCons (tVar 0) (tCons (tCB XS.rListS (tCons (tC (.str "abcdxyz")) tNil)) tNil)))) rfl sc_law_names_for.nd (pi_range1 (by rfl) W.n_range (pa_cons (pe_op op_add pe_int (pe_c C_law_pick (hr.mono (by decide)) (pa_cons (pv 0) (pa_cons pe_int pa_nil)))) pa_nil)) (blkOk_by (N := ["state", "many", "taken", "found", "k", "word", "j"]) (sc := defScope s_law_names_for) (by decide +kernel)) (fun _ _ _ _ _ => pg_name (i := 6) sc_law_names_for.nd rfl (Or.inl rfl)) (fun _ _ _ _ _ => pts_nil) (fun _ _ _ _ _ => (pe_c C_law_one (hr.mono (by decide)) (pa_cons (pv 0) (pa_cons (pe_callTy (XS.call_list_txt rfl) (by rfl) W.n_list (by decide +kernel) (pa_cons pe_str pa_nil)) pa_nil)))))))
    (pss_one (ps_expr (pe_bm PySem.F.plainAttrs_list PySem.F.slot_list_append PySem.F.type_list_append mt_append (pv 3) (pa_cons (pe_c C_law_free_word (hr.mono (by decide)) (pa_cons (pe_op op_cat (pv 2) (pv 3)) (pa_cons (pv 5) pa_nil))) pa_nil))))))
    (pss_one (ps_ret (pv 3))))), ?_⟩
  obtain ⟨ta, tc, ht⟩ := hs_some ht
  refine XL.p_lst ⟨by show 0 ≤ sizeLine; omega, fun D hD => ?_⟩
  obtain ⟨Da, Dc⟩ := hS.fresh hD
  have e1 : Ex H (upd H D (.lst [])) := (Ex.refl H).new hD
  have nDt : D ≠ t := (ne_of_none ht hD).symm
  refine ⟨_, rfl, _, rfl, by omega, by omega, ?_⟩
  have en : ((n : Int)).toNat = n := Int.toNat_natCast _
  rw [en]
  refine for_range (fun i σ H' => StAt H' a c (N + i * 4) ∧ Bar a c H H' ∧ (∃ m, H' D = some (.lst (strsV m)) ∧ m.length = i ∧ m.Nodup ∧ ∀ x ∈ m, NameOk x ∧ x ∉ l) ∧ ∃ o4 o5, σ = [some (.ref a), some (.int n), some (.ref t), some (.ref D), o4, o5, none])
    ⟨(hS.mono e1).le (by omega), fun b o _ _ q => e1 b o q, ⟨[], upd_same, rfl, List.nodup_nil, fun x hx => by cases hx⟩, _, _, rfl⟩ ?_ ?_
  · rintro i σ H2 hi ⟨S2, B2, ⟨m, hm, hml, hmn, hmx⟩, o4, o5, rfl⟩
    refine ⟨⟨_, rfl⟩, ?_⟩
    refine ⟨_, rfl, a, c, _, 3, rfl, S2, by omega, by decide, by decide, fun r H3 r0 r1 S3 B3 => ?_⟩
    obtain ⟨j, rfl⟩ := Int.eq_ofNat_of_zero_le r0
    refine ⟨_, _, rfl, rfl, _, rfl, by omega, by omega, fun L hL => ?_⟩
    have ej : (1 + (j : Int)).toNat = j + 1 := by omega
    rw [ej]
    refine lc_draw (n := j + 1) walk_range (fun _ y => ∃ x, y = .str x ∧ x ∈ lets) 1 (by rw [sizeLine_eq]; omega) S3 hL (fun _ _ => trivial) ?_ ?_
    · rintro i2 x Ha Hb Q2 hi2 Sa Ba nL ⟨rfl, rfl⟩ q
      refine ⟨rfl, _, rfl, "abcdxyz", rfl, (by show 7 ≤ 16777216; decide), fun p hp => ?_⟩
      have ea : Ex Hb (upd Hb p (.lst (XS.signs "abcdxyz"))) := (Ex.refl Hb).new hp
      obtain ⟨pa, pc⟩ := Sa.fresh hp
      refine ⟨a, c, p, _, XS.signs "abcdxyz", rfl, Sa.mono ea, by omega, SqL.of (hs_at pa pc upd_same), signs_ne, signs_ln, fun v H' hv S' B' => ?_⟩
      refine q v H' S' (Bar.trans (fun b o _ _ h => ea b o h) B') ?_
      rw [signs_lets] at hv
      obtain ⟨x, hx, rfl⟩ := List.mem_map.mp hv
      exact ⟨x, rfl, hx⟩
    · intro H4 ys S4 B4 hys hyl hR
      obtain ⟨l4, rfl, hl4, hx4⟩ := strs_of hR
      rw [hyl] at hl4
      have hw : NameOk (Txt.join "" l4) := word_name (fun z => by rw [z] at hl4; simp at hl4) (by omega) hx4
      have hm4 := B4 _ _ Da Dc (B3 _ _ Da Dc hm)
      have ht4 := B4 _ _ ta tc (B3 _ _ ta tc (B2 _ _ ta tc ht))
      refine ⟨"", L, l4, rfl, rfl, .inl (SqL.of hys), ?_, ?_⟩
      · rw [sum_one hx4]
        show l4.length + l4.length * 0 ≤ _
        omega
      refine ⟨_, rfl, .inl ⟨rfl, _, SqL.of hm4⟩, _, rfl, _, rfl, t, D, _, _, rfl, rfl, ht4, hm4, by rw [strs_len, strs_len, sizeLine_eq]; omega, fun d hd => ?_⟩
      have ed : Ex H4 (upd H4 d (.lst (strsV l ++ strsV m))) := (Ex.refl H4).new hd
      refine ⟨_, rfl, d, l ++ m, _, rfl, SqL.of (by rw [upd_same, strs_app]), by rw [List.length_append]; omega, hw, fun y H5 e5 y1 y2 => ?_⟩
      have e45 := ed.trans e5
      have y2 : ¬ y ∈ l ∧ ¬ y ∈ m := ⟨fun z => y2 (List.mem_append_left _ z), fun z => y2 (List.mem_append_right _ z)⟩
      refine ⟨D, _, _, rfl, rfl, e45 _ _ hm4, by rw [strs_len, sizeLine_eq]; omega, ?_⟩
      refine ⟨((S4.mono e45).le (by omega)).put Da Dc, fun b o h1 h2 q => ?_, ⟨m ++ [y], by rw [upd_same]; exact congrArg (fun z => some (HO.lst z)) (strs_app m [y]), by rw [List.length_append, hml]; rfl, ?_, fun x hx => ?_⟩, _, _, rfl⟩
      · rw [upd_ne (ne_of_none q hD)]
        exact e45 _ _ (B4 _ _ h1 h2 (B3 _ _ h1 h2 (B2 _ _ h1 h2 q)))
      · exact List.nodup_append.mpr ⟨hmn, List.nodup_cons.mpr ⟨(fun z => nomatch z), List.nodup_nil⟩, fun u hu v hv => by
          rw [List.mem_singleton.mp hv]
          exact fun z => y2.2 (by rw [← z]; exact hu)⟩
      · rcases List.mem_append.mp hx with h | h
        · exact hmx x h
        · rw [List.mem_singleton.mp h]
          exact ⟨y1, y2.1⟩
  · rintro σ H2 ⟨S2, B2, ⟨m, hm, hml, hmn, hmx⟩, o4, o5, rfl⟩
    exact ⟨_, rfl, k D m H2 (S2.le (by omega)) B2 hD hm hml hmn hmx⟩
theorem c_law_names_for (W : Wld K mg) : Cal P w K mg base 4 "_law_names_for" ["state", "many", "taken"] (spNames4 K) := by
  obtain ⟨fd, F⟩ := W.c.def_ 46 rfl
  exact ⟨⟨fd, ok_law_names_for W F, F.bindsN fun _ _ _ _ _ _ us hl => match us, hl with | [_, _, _], _ => rfl⟩, W.g_law_names_for, F.kp⟩
end
end K77

set_option Elab.async false
set_option linter.all false
set_option maxRecDepth 100000
set_option maxHeartbeats 400000
namespace K77
open PySem PySem.Spec PyProof.Rows L2 DL
/-- a raw machine's four lists, its states, its moves -/
def RawS (K : PySem.W.Frag) (H : Hp) (R : Addr) (l : List St3) : Prop := ∃ p1 p2 p3 p4 ys, SqL K H R [.ref p1, .ref p2, .ref p3, .ref p4] ∧ SqL K H p3 ys ∧ Dens K true H ys (l.map stT)
def RawM (K : PySem.W.Frag) (H : Hp) (R : Addr) (l ms : List St3) : Prop := ∃ p1 p2 p3 p4 ys zs, SqL K H R [.ref p1, .ref p2, .ref p3, .ref p4] ∧ SqL K H p3 ys ∧ Dens K true H ys (l.map stT) ∧ SqL K H p4 zs ∧ Dens K true H zs (ms.map stT)
theorem RawS.mono {K : PySem.W.Frag} {H H' : Hp} {R : Addr} {l : List St3} (h : RawS K H R l) (e : Ex H H') : RawS K H' R l := by
  obtain ⟨p1, p2, p3, p4, ys, h1, h2, h3⟩ := h
  exact ⟨p1, p2, p3, p4, ys, e.er.l h1, e.er.l h2, h3.mono e.kp⟩
theorem RawM.mono {K : PySem.W.Frag} {H H' : Hp} {R : Addr} {l ms : List St3} (h : RawM K H R l ms) (e : Ex H H') : RawM K H' R l ms := by
  obtain ⟨p1, p2, p3, p4, ys, zs, h1, h2, h3, h4, h5⟩ := h
  exact ⟨p1, p2, p3, p4, ys, zs, e.er.l h1, e.er.l h2, h3.mono e.kp, e.er.l h4, h5.mono e.kp⟩
theorem RawM.s {K : PySem.W.Frag} {H : Hp} {R : Addr} {l ms : List St3} (h : RawM K H R l ms) : RawS K H R l := by
  obtain ⟨p1, p2, p3, p4, ys, zs, h1, h2, h3, h4, h5⟩ := h
  exact ⟨p1, p2, p3, p4, ys, h1, h2, h3⟩
theorem st_cell {l : List St3} {n : Str} {s : St3} (h : stOf l n = some s) : cellOf l n = s.2.1 := by
  unfold cellOf
  have h : (l.find? fun s => decide (s.1 = n)) = some s := h
  rw [h]
  rfl
theorem chg_same (x : Str) : chg x x = [] := by
  unfold chg
  rw [List.filter_eq_nil_iff]
  intro i _
  simp
theorem ints_int (l : List Nat) : intsV l = (l.map fun k => ((k : Nat) : Int)).map V.int := by
  unfold intsV
  rw [List.map_map]
  rfl
theorem eqv_nil : ∀ ns : List Int, PyData.eqv (.list (ns.map PyData.int)) (.list []) = ns.isEmpty
  | [] => by decide
  | n :: r => by
    simp [PyData.eqv, PyData.eqvAll]
theorem rd_eqNil {K : PySem.W.Frag} {σ : L2.St} {H : Hp} {i : Nat} {p : Addr} {l : List Nat} {Q : VK} (hs : σ[i]? = some (some (.ref p))) (hp : SqL K H p (intsV l)) (q : ∀ H', Ex H H' → Q (.bl l.isEmpty) H') : tOp (rEqD K) (tVar i) (tLst tNil) σ H Q := by
  refine ⟨_, hs, by show 0 ≤ sizeLine; omega, fun t ht => ?_⟩
  have e := (Ex.refl H).new (o := .lst []) ht
  have z := q _ e
  have e0 : l.isEmpty = (l.map fun k => ((k : Nat) : Int)).isEmpty := by cases l <;> rfl
  rw [e0, ← eqv_nil] at z
  exact ⟨.list ((l.map fun k => ((k : Nat) : Int)).map PyData.int), .list [], .lst (e.er.l hp) (by rw [ints_int]; exact dp_ints _), .lst (SqL.of upd_same) .nil, PySem.W.ke_shaped_ints _, by decide, z⟩
theorem rd_neNil {K : PySem.W.Frag} {σ : L2.St} {H : Hp} {i : Nat} {p : Addr} {l : List Nat} {Q : VK} (hs : σ[i]? = some (some (.ref p))) (hp : SqL K H p (intsV l)) (q : ∀ H', Ex H H' → Q (.bl (!l.isEmpty)) H') : tOp (rNeD K) (tVar i) (tLst tNil) σ H Q := by
  refine ⟨_, hs, by show 0 ≤ sizeLine; omega, fun t ht => ?_⟩
  have e := (Ex.refl H).new (o := .lst []) ht
  have z := q _ e
  have e0 : l.isEmpty = (l.map fun k => ((k : Nat) : Int)).isEmpty := by cases l <;> rfl
  rw [e0, ← eqv_nil] at z
  exact ⟨.list ((l.map fun k => ((k : Nat) : Int)).map PyData.int), .list [], .lst (e.er.l hp) (by rw [ints_int]; exact dp_ints _), .lst (SqL.of upd_same) .nil, PySem.W.ke_shaped_ints _, by decide, z⟩
section
variable {P : Program} {w : World} {K : PySem.W.Frag} {mg : Str → Option Value} {base : Heap} {f : Addr} {fd : FuncData}
def spLState (K : PySem.W.Frag) : Sp := fun vs H Q _ => ∃ (R : Addr) (n : Str) (l : List St3), vs = [.ref R, .str n] ∧ RawS K H R l ∧ l.length < 10000 ∧ n ∈ l.map (·.1) ∧ ∀ u s H', Ex H H' → stOf l n = some s → SqT K H' u (stV s) → Q (.ref u) H'
theorem sc_law_state : FnScope ["raw", "name", "one"] ["raw", "name"] (defScope s_law_state) := ⟨rfl, rfl, rfl, by decide +kernel, rfl, by decide +kernel, by decide +kernel⟩
theorem ok_law_state (W : Wld K mg) (F : FnP K "_law_state" s_law_state f fd) : FnOk P w K mg base CX0 1 f fd ["raw", "name"] (spLState K) := by
  refine F.ok sc_law_state (fun vs H Q E h => ?_) (fun cdv A outer s H vs Q E hr h => ?_)
  · obtain ⟨R, n, l, rfl, _⟩ := h
    rfl
  obtain ⟨R, n, l, rfl, ⟨p1, p2, p3, p4, ys, h1, h2, hds⟩, hl, hn, k⟩ := h
  refine ⟨_, PSs.nox (pss_one (ps_ret (pe_ix ix_list (pe_lc (own := [("one", 2)]) (g := gName 2) (tt := (tTest (tOp rEq (tOp (rIxT K) (tVar 2) (tC (.int 0))) (tVar 1)))) (te := (tVar 2)) rfl sc_law_state.nd (pi_list (pe_ix ix_list (pv 0) pe_int (fun _ _ => rfl))) (blkOk_by (N := ["raw", "name", "one"]) (sc := defScope s_law_state) (by decide +kernel)) (fun _ _ _ _ _ => pg_name (i := 2) sc_law_state.nd rfl (Or.inl rfl)) (fun _ _ _ _ _ => pts_one (pt_cmpR op_eq (pe_ix ix_tup (pv 2) pe_int (fun _ _ => rfl)) (pv 1) (nomark _))) (fun _ _ _ _ _ => (pv 2))) pe_int (fun _ _ => rfl)))), ?_⟩
  have yl : ys.length = l.length := by rw [hds.length, List.length_map]
  obtain ⟨j, s0, hj, hs0, hb, hf⟩ := first_st hn
  refine ⟨_, rfl, R, _, 2, .ref p3, rfl, rfl, h1, rfl, p3, rfl, ⟨_, h2⟩, fun D hD => ?_⟩
  refine lc_sel walk_list (fun i => match l[i]? with | some t => decide (t.1 = n) | none => false) (by rw [yl, sizeLine_eq]; omega) hD (fun H' e => e.er.l h2) (fun _ => rfl) (fun _ => rfl) ?_ ?_
  · intro i v H2 Q2 hv e2 q
    obtain ⟨t, ht, dt⟩ := dens_st hds hv
    obtain ⟨u, rfl, hu⟩ := den_st dt
    refine ⟨_, rfl, u, _, 0, _, rfl, rfl, e2.er.t hu, rfl, _, rfl, rfl, _, rfl, ?_⟩
    have z := q H2 (Ex.refl _)
    rw [ht] at z
    rw [dec_s]
    exact z
  · intro H2 h5 e2
    obtain ⟨y, hy, dy⟩ : ∃ y, ys[j]? = some y ∧ Den K true H y (stT s0) := hds.get' (i := j) (d := stT s0) (by rw [List.getElem?_map, hj]; rfl)
    obtain ⟨u, rfl, hu⟩ := den_st dy
    have hz := selN_head (b := fun i => match l[i]? with | some t => decide (t.1 = n) | none => false) (k := j) (by show (match l[j]? with | some t => decide (t.1 = n) | none => false) = true; rw [hj]; exact decide_eq_true hs0) hy (fun i hi => by
      show (match l[i]? with | some t => decide (t.1 = n) | none => false) = false
      cases e : l[i]? with
      | none => rfl
      | some t => exact decide_eq_false (hb i hi t e)) (i := ys.length) (List.getElem?_eq_some_iff.mp hy).1
    exact ⟨D, _, 0, _, rfl, rfl, SqL.of h5, atI_nat (j := 0) hz, k u s0 H2 e2 hf (e2.er.t hu)⟩
theorem c_law_state (W : Wld K mg) : Cal P w K mg base 1 "_law_state" ["raw", "name"] (spLState K) := by
  obtain ⟨fd, F⟩ := W.c.def_ 44 rfl
  exact ⟨⟨fd, ok_law_state W F, F.bindsN fun _ _ _ _ _ _ us hl => match us, hl with | [_, _], _ => rfl⟩, W.g_law_state, F.kp⟩
def spCan (K : PySem.W.Frag) : Sp := fun vs H Q _ => ∃ (R : Addr) (n g : Str) (l ms : List St3) (nl : Nat), vs = [.ref R, .str n, .str g] ∧ RawM K H R l ms ∧ l.length < 10000 ∧ ms.length < 10000 ∧ n ∈ l.map (·.1) ∧ g ∈ l.map (·.1) ∧ LenOk l nl ∧ (∀ q ∈ ms, q.1 ∈ l.map (·.1) ∧ q.2.1.length = nl) ∧
  ∀ b H', Ex H H' → (b = true → MvOk l ms (n, cellOf l g, g)) → Q (.bl b) H'
theorem sc_law_can_move : FnScope ["raw", "name", "following", "one", "two", "mine", "state", "cell", "more", "theirs"] ["raw", "name", "following"] (defScope s_law_can_move) := ⟨rfl, rfl, rfl, by decide +kernel, rfl, by decide +kernel, by decide +kernel⟩
theorem ok_law_can_move (W : Wld K mg) (F : FnP K "_law_can_move" s_law_can_move f fd) : FnOk P w K mg base CX0 2 f fd ["raw", "name", "following"] (spCan K) := by
  have C_law_state : Cal P w K mg base 1 "_law_state" ["raw", "name"] (spLState K) := c_law_state W
  have C_law_changed : Cal P w K mg base 1 "_law_changed" ["cell", "other"] spChg := c_law_changed W
  have C_law_all_in : Cal P w K mg base 1 "_law_all_in" ["lot", "other"] (spIn K) := c_law_all_in W
  refine F.ok sc_law_can_move (fun vs H Q E h => ?_) (fun cdv A outer s H vs Q E hr h => ?_)
  · obtain ⟨R, n, g, l, ms, nl, rfl, _⟩ := h
    rfl
  obtain ⟨R, n, g, l, ms, nl, rfl, hR, hl, hml, hn, hg, ⟨hnl, hlen⟩, hpre, k⟩ := h
  refine ⟨_, PSs.nox (pss_cons (ps_par (i := 3) (j := 4) rfl sc_law_can_move.nd rfl rfl (by decide) rfl rfl (pa_cons (pe_c C_law_state (hr.mono (by decide)) (pa_cons (pv 0) (pa_cons (pv 1) pa_nil))) (pa_cons (pe_c C_law_state (hr.mono (by decide)) (pa_cons (pv 0) (pa_cons (pv 2) pa_nil))) pa_nil)) (by rfl))
    (pss_cons (ps_set (i := 5) sc_law_can_move.nd rfl (.inl rfl) (pe_c C_law_changed (hr.mono (by decide)) (pa_cons (pe_ix ix_tup (pv 3) pe_int (fun _ _ => rfl)) (pa_cons (pe_ix ix_tup (pv 4) pe_int (fun _ _ => rfl)) pa_nil))))
    (pss_cons (ps_if (PW.pt (pw_or (pt_cmpR op_eq (pv 1) (pv 2) (nomark _)) (pw_or1 (pt_cmpR (op_eqD hr.units) (pv 5) (pe_lst pa_nil) (nomark _)))))
    (pss_one (ps_ret pe_bl))
    pss_nil)
    (pss_cons (ps_for PassesOwn.never rfl (pi_list (pe_ix ix_list (pv 0) pe_int (fun _ _ => rfl))) (pg_tup rfl (pgs_cons (pg_name (i := 6) sc_law_can_move.nd rfl (.inl rfl)) (pgs_cons (pg_name (i := 7) sc_law_can_move.nd rfl (.inl rfl)) (pgs_cons (pg_name (i := 8) sc_law_can_move.nd rfl (.inl rfl)) pgs_nil))))
    (pss_cons (ps_set (i := 9) sc_law_can_move.nd rfl (.inl rfl) (pe_c C_law_changed (hr.mono (by decide)) (pa_cons (pe_ix ix_tup (pe_c C_law_state (hr.mono (by decide)) (pa_cons (pv 0) (pa_cons (pv 6) pa_nil))) pe_int (fun _ _ => rfl)) (pa_cons (pv 7) pa_nil))))
    (pss_one (ps_if (PW.pt (pw_and (pt_cmpR op_eq (pv 6) (pv 1) (nomark _)) (pw_and1 (PW.pt (pw_or (pt_val (pe_c C_law_all_in (hr.mono (by decide)) (pa_cons (pv 5) (pa_cons (pv 9) pa_nil)))) (pw_or1 (pt_val (pe_c C_law_all_in (hr.mono (by decide)) (pa_cons (pv 9) (pa_cons (pv 5) pa_nil))))))))))
    (pss_one (ps_ret pe_bl))
    pss_nil))))
    (pss_one (ps_ret pe_bl)))))), ?_⟩
  refine ⟨_, rfl, _, rfl, R, n, l, rfl, hR.s, hl, hn, fun u1 s1 H1 e1 f1 t1 => ?_⟩
  have hR1 := hR.mono e1
  refine ⟨_, rfl, _, rfl, R, g, l, rfl, hR1.s, hl, hg, fun u2 s2 H2 e2 f2 t2 => ?_⟩
  have hR2 := hR1.mono e2
  have e02 := e1.trans e2
  have t1 := e2.er.t t1
  have c1 := st_cell f1
  have c2 := st_cell f2
  have z1 := hlen n hn
  have z2 := hlen g hg
  refine ⟨_, _, rfl, ?_⟩
  refine ⟨_, rfl, u1, _, 1, _, rfl, rfl, t1, rfl, _, rfl, u2, _, 1, _, rfl, rfl, t2, rfl, s1.2.1, s2.2.1, rfl, by rw [← c1, ← c2, z1, z2], by rw [← c1, z1]; omega, fun M H3 e3 n3 h3 => ?_⟩
  rw [← c1, ← c2] at h3
  have e03 := e02.trans e3
  have hR3 := hR2.mono e3
  refine ⟨_, rfl, _, rfl, rfl, _, rfl, ?_⟩
  rw [dec_s]
  by_cases hng : n = g
  · rw [decide_eq_true hng]
    exact iteT (k false H3 e03 fun z => nomatch z)
  rw [decide_eq_false hng]
  refine iteF ?_
  have fin : ∀ (b : Bool) H', Ex H H' → (b = true → chg (cellOf l n) (cellOf l g) ≠ [] ∧ ∀ q ∈ ms, q.1 = n → ((chg (cellOf l n) (cellOf l g)).all fun k => decide (k ∈ chg (cellOf l q.1) q.2.1)) = false ∧ ((chg (cellOf l q.1) q.2.1).all fun k => decide (k ∈ chg (cellOf l n) (cellOf l g))) = false) → Q (.bl b) H' := fun b H' e hb =>
    k b H' e fun z => ⟨hn, hg, hng, rfl, fun w => (hb z).1 (by
      have w : cellOf l g = cellOf l n := w
      rw [w, chg_same]), (hb z).2⟩
  refine rd_eqNil rfl (SqL.of h3) fun H4 e4 => ⟨_, rfl, ?_⟩
  have e04 := e03.trans e4
  have hR4 := hR3.mono e4
  have h4 := e4 _ _ h3
  cases hc : (chg (cellOf l n) (cellOf l g)).isEmpty with
  | true => exact iteT (fin false H4 e04 fun z => nomatch z)
  | false =>
    refine iteF ?_
    have hc : chg (cellOf l n) (cellOf l g) ≠ [] := fun z => by rw [z] at hc; cases hc
    have hRi := hR4
    obtain ⟨p1, p2, p3, p4, ys, zs, r1, r2, r3, r4, r5⟩ := hRi
    have zl : zs.length = ms.length := by rw [r5.length, List.length_map]
    refine ⟨_, rfl, R, _, 3, .ref p4, rfl, rfl, r1, rfl, p4, rfl, ⟨_, r4⟩, ?_⟩
    refine for_it (walk_list (xs := zs)) (fun i σ H' => Ex H4 H' ∧ (∀ q ∈ ms.take i, q.1 = n → ((chg (cellOf l n) (cellOf l g)).all fun k => decide (k ∈ chg (cellOf l q.1) q.2.1)) = false ∧ ((chg (cellOf l q.1) q.2.1).all fun k => decide (k ∈ chg (cellOf l n) (cellOf l g))) = false) ∧
      ∃ o6 o7 o8 o9, σ = [some (.ref R), some (.str n), some (.str g), some (.ref u1), some (.ref u2), some (.ref M), o6, o7, o8, o9]) ⟨Ex.refl _, (fun q hq => by rw [List.take_zero] at hq; cases hq), _, _, _, _, rfl⟩ (fun i σ H' _ h => h.1.er.l r4) ?_ ?_
    · rintro i x σ H5 H6 hi ⟨e5, hq, o6, o7, o8, o9, rfl⟩ ⟨rfl, hx⟩
      obtain ⟨q, hqi, dq⟩ := dens_st r5 hx
      obtain ⟨t, rfl, ht⟩ := den_st dq
      have hqm := List.mem_of_getElem? hqi
      obtain ⟨q1, q2⟩ := hpre q hqm
      have ht5 := e5.er.t ht
      refine ⟨t, _, rfl, ht5, rfl, _, _, rfl, _, _, rfl, _, _, rfl, rfl, ?_⟩
      refine ⟨_, rfl, _, rfl, R, q.1, l, rfl, (hR4.mono e5).s, hl, q1, fun u s5 H7 e7 f7 t7 => ?_⟩
      have c7 := st_cell f7
      have z7 := hlen q.1 q1
      refine ⟨u, _, 1, _, rfl, rfl, t7, rfl, _, rfl, s5.2.1, q.2.1, rfl, by rw [← c7, z7, q2], by rw [← c7, z7]; omega, fun T H8 e8 n8 h8 => ?_⟩
      rw [← c7] at h8
      have e58 := e5.trans (e7.trans e8)
      have hM8 := e58 _ _ h4
      refine ⟨_, rfl, _, rfl, rfl, _, rfl, ?_⟩
      rw [dec_s]
      have step : (q.1 = n → ((chg (cellOf l n) (cellOf l g)).all fun k => decide (k ∈ chg (cellOf l q.1) q.2.1)) = false ∧ ((chg (cellOf l q.1) q.2.1).all fun k => decide (k ∈ chg (cellOf l n) (cellOf l g))) = false) →
          ∀ q' ∈ ms.take (i + 1), q'.1 = n → ((chg (cellOf l n) (cellOf l g)).all fun k => decide (k ∈ chg (cellOf l q'.1) q'.2.1)) = false ∧ ((chg (cellOf l q'.1) q'.2.1).all fun k => decide (k ∈ chg (cellOf l n) (cellOf l g))) = false := by
        intro h q' hq' e'
        rw [List.take_add_one, hqi] at hq'
        rcases List.mem_append.mp hq' with z | z
        · exact hq q' z e'
        · rw [List.mem_singleton.mp z] at e' ⊢
          exact h e'
      by_cases z : q.1 = n
      · rw [decide_eq_true z]
        refine iteT ?_
        refine ⟨_, rfl, _, rfl, M, T, _, _, rfl, SqL.of hM8, SqL.of h8, Nat.lt_of_le_of_lt (chg_len _ _) (by rw [z1]; omega), fun H9 e9 => ⟨_, rfl, ?_⟩⟩
        cases y1 : (chg (cellOf l n) (cellOf l g)).all fun k => decide (k ∈ chg (cellOf l q.1) q.2.1) with
        | true => exact iteT (iteT (fin false H9 (e04.trans (e58.trans e9)) fun z => nomatch z))
        | false =>
          refine iteF ?_
          refine ⟨_, rfl, _, rfl, T, M, _, _, rfl, SqL.of (e9 _ _ h8), SqL.of (e9 _ _ hM8), Nat.lt_of_le_of_lt (chg_len _ _) (by rw [z7]; omega), fun H10 e10 => ⟨_, rfl, ?_⟩⟩
          cases y2 : (chg (cellOf l q.1) q.2.1).all fun k => decide (k ∈ chg (cellOf l n) (cellOf l g)) with
          | true => exact iteT (fin false H10 (e04.trans (e58.trans (e9.trans e10))) fun z => nomatch z)
          | false => exact iteF ⟨e58.trans (e9.trans e10), step fun _ => ⟨y1, y2⟩, _, _, _, _, rfl⟩
      · rw [decide_eq_false z]
        exact iteF ⟨e58, step fun w => absurd w z, _, _, _, _, rfl⟩
    · rintro σ H5 ⟨e5, hq, o6, o7, o8, o9, rfl⟩
      rw [zl, List.take_length] at hq
      exact fin true H5 (e04.trans e5) fun _ => ⟨hc, hq⟩
theorem c_law_can_move (W : Wld K mg) : Cal P w K mg base 2 "_law_can_move" ["raw", "name", "following"] (spCan K) := by
  obtain ⟨fd, F⟩ := W.c.def_ 45 rfl
  exact ⟨⟨fd, ok_law_can_move W F, F.bindsN fun _ _ _ _ _ _ us hl => match us, hl with | [_, _, _], _ => rfl⟩, W.g_law_can_move, F.kp⟩
end
end K77

set_option Elab.async false
set_option linter.all false
set_option maxRecDepth 100000
set_option maxHeartbeats 400000
namespace K77
open PySem PySem.Spec PyProof.Rows L2 DL
def rLenQ (K : PySem.W.Frag) : List V → Hp → VK → Prop := fun xs H Q => ∃ p ys, xs = [.ref p] ∧ (SqL K H p ys ∨ SqT K H p ys) ∧ Q (.int ys.length) H
/-- all but lists stays -/
def NoL (H H' : Hp) : Prop := ∀ b o, (∀ xs, o ≠ .lst xs) → H b = some o → H' b = some o
theorem NoL.of {H H' : Hp} (e : Ex H H') : NoL H H' := fun b o _ h => e b o h
theorem NoL.trans {H H1 H2 : Hp} (x : NoL H H1) (y : NoL H1 H2) : NoL H H2 := fun b o n h => y b o n (x b o n h)
theorem NoL.put {H : Hp} {p : Addr} {xs : List V} {o : HO} (h : H p = some (.lst xs)) : NoL H (upd H p o) := fun b u n q => by
  rw [upd_ne fun z => n xs (by rw [z, h] at q; exact (Option.some.inj q).symm)]
  exact q
theorem NoL.bar {a c : Addr} {H H' : Hp} {N : Nat} (S : StAt H a c N) (h : Bar a c H H') : NoL H H' := fun b o n q => by
  obtain ⟨ns, cur, cnt, mix, h1, h2, _⟩ := S
  refine h b o (fun z => ?_) (fun z => ?_) q
  · rw [z, h1] at q
    exact n _ (Option.some.inj q).symm
  · rw [z, h2] at q
    exact n _ (Option.some.inj q).symm
theorem NoL.t {K : PySem.W.Frag} {H H' : Hp} {t : Addr} {xs : List V} (e : NoL H H') (h : SqT K H t xs) : SqT K H' t xs := by
  rcases h with (h | ⟨o, h⟩) | h
  · exact .inl (.inl (e _ _ (fun _ z => nomatch z) h))
  · exact .inl (.inr ⟨o, e _ _ (fun _ z => nomatch z) h⟩)
  · exact .inr h
theorem NoL.sts {K : PySem.W.Frag} {H H' : Hp} (e : NoL H H') : ∀ {ys : List V} {l : List St3}, Dens K true H ys (l.map stT) → Dens K true H' ys (l.map stT)
  | _, [], .nil => .nil
  | _, s :: l, .cons a r => by
    obtain ⟨t, rfl, ht⟩ := den_st a
    exact .cons (den_stI (e.t ht)) (NoL.sts e r)
theorem via_key {T : VK → Prop} {Q : VK} (F : V → Hp → Prop) (main : ∀ Q' : VK, (∀ v H, F v H → Q' v H) → T Q') (tail : ∀ v H, F v H → Q v H) : T Q := main Q tail
theorem hx_bar {X : Addr → Prop} {a c : Addr} {H H' : Hp} (ha : X a) (hc : X c) (h : Bar a c H H') : Ex (hid X H) (hid X H') := fun b o q => by
  obtain ⟨h1, h2⟩ := hid_some.mp q
  exact hid_some.mpr ⟨h1, h b o (fun z => h1 (by rw [z]; exact ha)) (fun z => h1 (by rw [z]; exact hc)) h2⟩
theorem hx_put {X : Addr → Prop} {H : Hp} {p : Addr} {o : HO} (hp : X p) : Ex (hid X H) (hid X (upd H p o)) := fun b u q => by
  obtain ⟨h1, h2⟩ := hid_some.mp q
  exact hid_some.mpr ⟨h1, by rw [upd_ne fun z => h1 (by rw [z]; exact hp)]; exact h2⟩
structure Small (r : Raw) : Prop where
  l : r.lev.length ≤ 3
  m : r.lam.length ≤ 3
  s : r.sts.length ≤ 4
  v : r.mvs.length ≤ 6
  c : ∀ s ∈ r.sts, Cell r.lam.length s.2.2
section
variable {P : Program} {w : World} {K : PySem.W.Frag} {mg : Str → Option Value} {base : Heap} {f : Addr} {fd : FuncData}
/-- a drawn cell: _law_one(state, _law_cells(len(raw[j]))) -/
theorem rd_cell {σ : L2.St} {H : Hp} {a c R p : Addr} {N : Nat} {j : Int} {ps : List V} {l : List Str} {Q : VK} (s0 : σ[0]? = some (some (.ref a))) (s6 : σ[6]? = some (some (.ref R))) (hR : SqL K H R ps) (hj : atI ps j = some (.ref p)) (hp : SqL K H p (strsV l)) (hl : l.length ≤ 10) (S : StAt H a c N) (hN : N + 1 < 1099511627776)
    (q : ∀ x H', Cell l.length x → StAt H' a c (N + 1) → Bar a c H H' → Q (.str x) H') : tCall (spOne K) [] E0 (tCons (tVar 0) (tCons (tCall spCells [] E0 (tCons (tCB (rLenQ K) (tCons (tOp (rIxL K) (tVar 6) (tC (.int j))) tNil)) tNil)) tNil)) σ H Q := by
  refine ⟨_, s0, _, s6, R, ps, j, .ref p, rfl, rfl, hR, hj, p, _, rfl, .inl hp, l.length, by rw [strs_len]; rfl, hl, fun D ys Hy ey fy hy ly cy => ?_⟩
  obtain ⟨Da, Dc⟩ := S.fresh fy
  have pw : 2 ^ l.length ≤ 2 ^ 10 := Nat.pow_le_pow_right (by decide) hl
  refine ⟨a, c, D, N, _, rfl, S.mono ey, hN, SqL.of (hs_at Da Dc hy), fun z => ?_, by rw [strs_len, ly]; omega, fun v Hz hv Sz Bz => ?_⟩
  · have t1 : 2 ^ l.length = 0 := by
      rw [← ly, ← strs_len, z]
      rfl
    have : 0 < 2 ^ l.length := Nat.pow_pos (by decide)
    omega
  · obtain ⟨x, hx, rfl⟩ := List.mem_map.mp hv
    exact q x Hz (cy x hx) Sz (Bar.trans (fun b o _ _ h => ey b o h) Bz)
def RawAt (K : PySem.W.Frag) (H : Hp) (R : Addr) (r : Raw) : Prop := ∃ p1 p2 p3 p4, H R = some (.lst [.ref p1, .ref p2, .ref p3, .ref p4]) ∧ Parts K H r p1 p2 p3 p4
theorem RawAt.mono {K : PySem.W.Frag} {H H' : Hp} {R : Addr} {r : Raw} (h : RawAt K H R r) (e : Ex H H') : RawAt K H' R r := by
  obtain ⟨p1, p2, p3, p4, h1, h2⟩ := h
  exact ⟨p1, p2, p3, p4, e _ _ h1, h2.mono e⟩
def spDraw (K : PySem.W.Frag) : Sp := fun vs H Q _ => ∃ (a c : Addr) (N : Nat), vs = [.ref a, .int 3, .int 3, .int 4, .int 6] ∧ StAt H a c N ∧ N + 1000 < 1099511627776 ∧
  ∀ R r H', StAt H' a c (N + 1000) → Bar a c H H' → H R = none → RawAt K (hs a c H') R r → RawOk r → Small r → Q (.ref R) H'
theorem sc_law_draw_machine : FnScope ["state", "levers", "lamps", "states", "moves", "names", "raw", "called", "cells", "k", "name", "cell", "one", "two"] ["state", "levers", "lamps", "states", "moves"] (defScope s_law_draw_machine) := ⟨rfl, rfl, rfl, by decide +kernel, rfl, by decide +kernel, by decide +kernel⟩
theorem ok_law_draw_machine (W : Wld K mg) (F : FnP K "_law_draw_machine" s_law_draw_machine f fd) : FnOk P w K mg base CX0 5 f fd ["state", "levers", "lamps", "states", "moves"] (spDraw K) := by
  have C_law_pick : Cal P w K mg base 2 "_law_pick" ["state", "many"] spPick := c_law_pick W
  have C_law_one : Cal P w K mg base 3 "_law_one" ["state", "things"] (spOne K) := c_law_one W
  have C_law_cells : Cal P w K mg base 1 "_law_cells" ["many"] spCells := c_law_cells W
  have C_law_names_for : Cal P w K mg base 4 "_law_names_for" ["state", "many", "taken"] (spNames4 K) := c_law_names_for W
  have C_law_state : Cal P w K mg base 1 "_law_state" ["raw", "name"] (spLState K) := c_law_state W
  have C_law_can_move : Cal P w K mg base 2 "_law_can_move" ["raw", "name", "following"] (spCan K) := c_law_can_move W
  refine F.ok sc_law_draw_machine (fun vs H Q E h => ?_) (fun cdv A outer s H vs Q E hr h => ?_)
  · obtain ⟨a, c, N, rfl, _⟩ := h
    rfl
  obtain ⟨a, c, N, rfl, hS, hN, k⟩ := h
  refine ⟨_, PSs.nox (pss_cons (ps_set (i := 5) sc_law_draw_machine.nd rfl (.inl rfl) (pe_c C_law_names_for (hr.mono (by decide)) (pa_cons (pv 0) (pa_cons (pe_op op_add pe_int (pe_c C_law_pick (hr.mono (by decide)) (pa_cons (pv 0) (pa_cons (pe_op op_sub (pv 1) pe_int) pa_nil)))) (pa_cons (pe_lst pa_nil) pa_nil)))))
    (pss_cons (ps_set (i := 6) sc_law_draw_machine.nd rfl (.inr rfl) (pe_lst (pa_cons (pv 5) (pa_cons (pe_c C_law_names_for (hr.mono (by decide)) (pa_cons (pv 0) (pa_cons (pe_op op_add pe_int (pe_c C_law_pick (hr.mono (by decide)) (pa_cons (pv 0) (pa_cons (pv 2) pa_nil)))) (pa_cons (pv 5) pa_nil)))) (pa_cons (pe_lst pa_nil) (pa_cons (pe_lst pa_nil) pa_nil))))))
    (pss_cons (ps_set (i := 7) sc_law_draw_machine.nd rfl (.inl rfl) (pe_c C_law_names_for (hr.mono (by decide)) (pa_cons (pv 0) (pa_cons (pe_op op_add pe_int (pe_c C_law_pick (hr.mono (by decide)) (pa_cons (pv 0) (pa_cons (pv 3) pa_nil)))) (pa_cons (pe_lst pa_nil) pa_nil)))))
    (pss_cons (ps_setLc (i := 8) (own := [("k", 9)]) (g := gName 9) (tt := tYes) (te := (tCall (spOne K) [] E0 (tCons (tVar 0) (tCons (tCall spCells [] E0 (tCons (tCB (rLenQ K) (tCons (tOp (rIxL K) (tVar 6) (tC (.int 0))) tNil)) tNil)) tNil)))) rfl sc_law_draw_machine.nd rfl rfl (sw_true rfl rfl rfl (by decide +kernel)) (pi_range1 (by rfl) W.n_range (pa_cons pe_int pa_nil)) (blkOk_by (N := ["state", "levers", "lamps", "states", "moves", "names", "raw", "called", "cells", "k", "name", "cell", "one", "two"]) (sc := defScope s_law_draw_machine) (by decide +kernel)) (fun _ _ _ _ _ => pg_name (i := 9) sc_law_draw_machine.nd rfl (Or.inl rfl)) (fun _ _ _ _ _ => pts_nil) (fun _ _ _ _ _ => (pe_c C_law_one (hr.mono (by decide)) (pa_cons (pv 0) (pa_cons (pe_c C_law_cells (hr.mono (by decide)) (pa_cons (pe_callB call_len_seq (by rfl) W.n_len (by decide +kernel) (pa_cons (pe_ix ix_list (pv 6) pe_int (fun _ _ => rfl)) pa_nil)) pa_nil)) pa_nil)))))
    (pss_cons (ps_for PassesOwn.never rfl (pi_list (pv 7)) (pg_name (i := 10) sc_law_draw_machine.nd rfl (.inl rfl))
    (pss_cons (ps_set (i := 11) sc_law_draw_machine.nd rfl (.inl rfl) (pe_ifExp (pt_cmpR op_eq (pe_c C_law_pick (hr.mono (by decide)) (pa_cons (pv 0) (pa_cons pe_int pa_nil))) pe_int (nomark _)) (pe_c C_law_one (hr.mono (by decide)) (pa_cons (pv 0) (pa_cons (pe_c C_law_cells (hr.mono (by decide)) (pa_cons (pe_callB call_len_seq (by rfl) W.n_len (by decide +kernel) (pa_cons (pe_ix ix_list (pv 6) pe_int (fun _ _ => rfl)) pa_nil)) pa_nil)) pa_nil))) (pe_c C_law_one (hr.mono (by decide)) (pa_cons (pv 0) (pa_cons (pv 8) pa_nil)))))
    (pss_one (ps_expr (pe_bm PySem.F.plainAttrs_list PySem.F.slot_list_append PySem.F.type_list_append mt_append (pe_ix ix_list (pv 6) pe_int (fun _ _ => rfl)) (pa_cons (pe_tup (pa_cons (pv 10) (pa_cons (pv 11) (pa_cons (pe_c C_law_one (hr.mono (by decide)) (pa_cons (pv 0) (pa_cons (pe_c C_law_cells (hr.mono (by decide)) (pa_cons (pe_callB call_len_seq (by rfl) W.n_len (by decide +kernel) (pa_cons (pe_ix ix_list (pv 6) pe_int (fun _ _ => rfl)) pa_nil)) pa_nil)) pa_nil))) pa_nil)))) pa_nil))))))
    (pss_cons (ps_for PassesOwn.never rfl (pi_range1 (by rfl) W.n_range (pa_cons (pe_op op_mul pe_int (pv 4)) pa_nil)) (pg_name (i := 9) sc_law_draw_machine.nd rfl (.inl rfl))
    (pss_cons (ps_par (i := 12) (j := 13) rfl sc_law_draw_machine.nd rfl rfl (by decide) rfl rfl (pa_cons (pe_c C_law_one (hr.mono (by decide)) (pa_cons (pv 0) (pa_cons (pv 7) pa_nil))) (pa_cons (pe_c C_law_one (hr.mono (by decide)) (pa_cons (pv 0) (pa_cons (pv 7) pa_nil))) pa_nil)) (by rfl))
    (pss_one (ps_if (PW.pt (pw_and (pt_cmpR op_lt (pe_callB call_len_seq (by rfl) W.n_len (by decide +kernel) (pa_cons (pe_ix ix_list (pv 6) pe_int (fun _ _ => rfl)) pa_nil)) (pv 4) (nomark _)) (pw_and1 (pt_val (pe_c C_law_can_move (hr.mono (by decide)) (pa_cons (pv 6) (pa_cons (pv 12) (pa_cons (pv 13) pa_nil))))))))
    (pss_one (ps_expr (pe_bm PySem.F.plainAttrs_list PySem.F.slot_list_append PySem.F.type_list_append mt_append (pe_ix ix_list (pv 6) pe_int (fun _ _ => rfl)) (pa_cons (pe_tup (pa_cons (pv 12) (pa_cons (pe_ix ix_tup (pe_c C_law_state (hr.mono (by decide)) (pa_cons (pv 6) (pa_cons (pv 13) pa_nil))) pe_int (fun _ _ => rfl)) (pa_cons (pv 13) pa_nil)))) pa_nil))))
    pss_nil))))
    (pss_one (ps_ret (pv 6))))))))), ?_⟩
  -- the levers
  refine ⟨_, rfl, _, rfl, _, rfl, _, _, rfl, rfl, a, c, _, 2, rfl, hS, by omega, by decide, by decide, fun r1 H1 r10 r11 S1 B1 => ?_⟩
  obtain ⟨n1, rfl⟩ := Int.eq_ofNat_of_zero_le r10
  refine ⟨_, _, rfl, rfl, by show 0 ≤ sizeLine; omega, fun t1 ht1 => ?_⟩
  have e1 : Ex H1 (upd H1 t1 (.lst [])) := (Ex.refl H1).new ht1
  obtain ⟨t1a, t1c⟩ := S1.fresh ht1
  refine ⟨a, c, t1, _, 2 + n1, [], by rw [Int.natCast_add]; rfl, S1.mono e1, by omega, hs_at t1a t1c upd_same, by decide, by omega, fun p1 lev H2 S2 B2 f1 h1 l1 d1 x1 => ?_⟩
  have B2 : Bar a c H1 H2 := Bar.trans (fun b o _ _ q => e1 b o q) B2
  have f1 := e1.free f1
  obtain ⟨p1a, p1c⟩ := S1.fresh f1
  -- the lamps
  refine ⟨_, rfl, ?_⟩
  refine ⟨_, rfl, _, rfl, _, rfl, a, c, _, 3, rfl, S2, by omega, by decide, by decide, fun r2 H3 r20 r21 S3 B3 => ?_⟩
  obtain ⟨n2, rfl⟩ := Int.eq_ofNat_of_zero_le r20
  have h1 := B3 _ _ p1a p1c h1
  refine ⟨_, _, rfl, rfl, _, rfl, a, c, p1, _, 1 + n2, lev, by rw [Int.natCast_add]; rfl, S3, by omega, hs_at p1a p1c h1, by omega, by omega, fun p2 lam H4 S4 B4 f2 h2 l2 d2 x2 => ?_⟩
  have h1 := B4 _ _ p1a p1c h1
  obtain ⟨p2a, p2c⟩ := S3.fresh f2
  have B04 : Bar a c H H4 := B1.trans (B2.trans (B3.trans B4))
  refine ⟨by show 0 ≤ sizeLine; omega, fun p3 hp3 => ?_⟩
  have e5 : Ex H4 (upd H4 p3 (.lst [])) := (Ex.refl H4).new hp3
  have g3 : upd H4 p3 (.lst []) p3 = some (.lst []) := upd_same
  obtain ⟨p3a, p3c⟩ := S4.fresh hp3
  have n31 : p3 ≠ p1 := (ne_of_none h1 hp3).symm
  have n32 : p3 ≠ p2 := (ne_of_none h2 hp3).symm
  generalize upd H4 p3 (.lst []) = H5 at e5 g3 ⊢
  refine ⟨by show 0 ≤ sizeLine; omega, fun p4 hp4 => ?_⟩
  have e6 : Ex H5 (upd H5 p4 (.lst [])) := (Ex.refl H5).new hp4
  have g4 : upd H5 p4 (.lst []) p4 = some (.lst []) := upd_same
  have S5 := S4.mono e5
  obtain ⟨p4a, p4c⟩ := S5.fresh hp4
  have n41 : p4 ≠ p1 := (ne_of_none (e5 _ _ h1) hp4).symm
  have n42 : p4 ≠ p2 := (ne_of_none (e5 _ _ h2) hp4).symm
  have n43 : p4 ≠ p3 := (ne_of_none g3 hp4).symm
  generalize upd H5 p4 (.lst []) = H6 at e6 g4 ⊢
  have S6 := S5.mono e6
  refine ⟨by show 4 ≤ sizeLine; decide, fun R hR => ?_⟩
  have e7 : Ex H6 (upd H6 R (.lst [.ref p1, .ref p2, .ref p3, .ref p4])) := (Ex.refl H6).new hR
  have gR : upd H6 R (.lst [.ref p1, .ref p2, .ref p3, .ref p4]) R = some (.lst [.ref p1, .ref p2, .ref p3, .ref p4]) := upd_same
  obtain ⟨Ra, Rc⟩ := S6.fresh hR
  have nR3 : R ≠ p3 := (ne_of_none (e6 _ _ g3) hR).symm
  have nR4 : R ≠ p4 := (ne_of_none g4 hR).symm
  have S7 := S6.mono e7
  have e47 := e5.trans (e6.trans e7)
  have g3 := e7 _ _ (e6 _ _ g3)
  have g4 := e7 _ _ g4
  have R0 : H R = none := by
    cases h : H R with
    | none => rfl
    | some u =>
      have := (e5.trans e6) _ _ (B04 R u Ra Rc h)
      rw [hR] at this
      cases this
  have p30 : H p3 = none := by
    cases h : H p3 with
    | none => rfl
    | some u =>
      have := B04 p3 u p3a p3c h
      rw [hp3] at this
      cases this
  have p40 : H p4 = none := by
    cases h : H p4 with
    | none => rfl
    | some u =>
      have := e5 _ _ (B04 p4 u p4a p4c h)
      rw [hp4] at this
      cases this
  generalize upd H6 R (.lst [.ref p1, .ref p2, .ref p3, .ref p4]) = H7 at e7 gR S7 e47 g3 g4 ⊢
  have B07 : Bar a c H H7 := B04.trans fun b o _ _ q => e47 b o q
  have h1 := e47 _ _ h1
  have h2 := e47 _ _ h2
  -- the names of the states
  refine ⟨_, rfl, _, rfl, _, rfl, a, c, _, 4, rfl, S7, by omega, by decide, by decide, fun r3 H8 r30 r31 S8 B8 => ?_⟩
  obtain ⟨n3, rfl⟩ := Int.eq_ofNat_of_zero_le r30
  refine ⟨_, _, rfl, rfl, by show 0 ≤ sizeLine; omega, fun t2 ht2 => ?_⟩
  have e8 : Ex H8 (upd H8 t2 (.lst [])) := (Ex.refl H8).new ht2
  obtain ⟨t2a, t2c⟩ := S8.fresh ht2
  refine ⟨a, c, t2, _, 1 + n3, [], by rw [Int.natCast_add]; rfl, S8.mono e8, by omega, hs_at t2a t2c upd_same, by decide, by omega, fun p5 cal H9 S9 B9 f5 h5 l5 d5 x5 => ?_⟩
  have B9 : Bar a c H8 H9 := Bar.trans (fun b o _ _ q => e8 b o q) B9
  have f5 := e8.free f5
  obtain ⟨p5a, p5c⟩ := S8.fresh f5
  have B79 := B8.trans B9
  have n53 : p5 ≠ p3 := (ne_of_none (B8 _ _ p3a p3c g3) f5).symm
  have n54 : p5 ≠ p4 := (ne_of_none (B8 _ _ p4a p4c g4) f5).symm
  have gR := B79 _ _ Ra Rc gR
  have h1 := B79 _ _ p1a p1c h1
  have h2 := B79 _ _ p2a p2c h2
  have g3 := B79 _ _ p3a p3c g3
  have g4 := B79 _ _ p4a p4c g4
  -- three cells
  refine ⟨3, rfl, by decide, by decide, fun p6 hp6 => ?_⟩
  have nl0 : lev.length ≤ 10 := by omega
  have nm0 : lam.length ≤ 10 := by omega
  have pw : ∀ n : Nat, n ≤ 10 → 2 ^ n ≤ 1024 := fun n hn => Nat.pow_le_pow_right (n := 2) (by decide) hn
  obtain ⟨p6a, p6c⟩ := S9.fresh hp6
  have n63 : p6 ≠ p3 := (ne_of_none g3 hp6).symm
  have n64 : p6 ≠ p4 := (ne_of_none g4 hp6).symm
  refine lc_draw (n := 3) walk_range (fun _ y => ∃ x, y = .str x ∧ Cell lev.length x) 1 (by rw [sizeLine_eq]; decide) S9 hp6 (fun _ _ => trivial) ?_ ?_
  · rintro i x Ha Hb Q2 hi Sa Ba nD ⟨rfl, rfl⟩ q
    refine ⟨rfl, rd_cell rfl rfl (SqL.of (Ba _ _ Ra Rc gR)) rfl (SqL.of (Ba _ _ p1a p1c h1)) nl0 Sa (by omega) fun x Hz cx Sz Bz => q _ _ Sz Bz ⟨x, rfl, cx⟩⟩
  intro H10 ws S10 B10 hw hwl hwR
  obtain ⟨cs, rfl, hcl, hcx⟩ := strs_of hwR
  rw [hwl] at hcl
  have h3 := B10 _ _ p3a p3c g3
  have h4 := B10 _ _ p4a p4c g4
  have X3 : ∀ {b : Addr}, b ≠ a → b ≠ c → b ≠ p3 → b ≠ p4 → ¬ (b = a ∨ b = c ∨ b = p3 ∨ b = p4) := fun h1 h2 h3 h4 z => z.elim h1 fun z => z.elim h2 fun z => z.elim h3 h4
  have Q1 : hid (fun b => b = a ∨ b = c ∨ b = p3 ∨ b = p4) H10 p1 = some (.lst (strsV lev)) := hid_some.mpr ⟨X3 p1a p1c n31.symm n41.symm, B10 _ _ p1a p1c h1⟩
  have Q2 : hid (fun b => b = a ∨ b = c ∨ b = p3 ∨ b = p4) H10 p2 = some (.lst (strsV lam)) := hid_some.mpr ⟨X3 p2a p2c n32.symm n42.symm, B10 _ _ p2a p2c h2⟩
  have QR : hid (fun b => b = a ∨ b = c ∨ b = p3 ∨ b = p4) H10 R = some (.lst [.ref p1, .ref p2, .ref p3, .ref p4]) := hid_some.mpr ⟨X3 Ra Rc nR3 nR4, B10 _ _ Ra Rc gR⟩
  have Q5 : hid (fun b => b = a ∨ b = c ∨ b = p3 ∨ b = p4) H10 p5 = some (.lst (strsV cal)) := hid_some.mpr ⟨X3 p5a p5c n53 n54, B10 _ _ p5a p5c h5⟩
  have Q6 : hid (fun b => b = a ∨ b = c ∨ b = p3 ∨ b = p4) H10 p6 = some (.lst (strsV cs)) := hid_some.mpr ⟨X3 p6a p6c n63 n64, hw⟩
  have B010 : Bar a c H H10 := B07.trans (B79.trans B10)
  have Xa : a = a ∨ a = c ∨ a = p3 ∨ a = p4 := .inl rfl
  have Xc : c = a ∨ c = c ∨ c = p3 ∨ c = p4 := .inr (.inl rfl)
  have X33 : p3 = a ∨ p3 = c ∨ p3 = p3 ∨ p3 = p4 := .inr (.inr (.inl rfl))
  have X44 : p4 = a ∨ p4 = c ∨ p4 = p3 ∨ p4 = p4 := .inr (.inr (.inr rfl))
  have kp0 : ∀ {H' : Hp} {p : Addr} {o : HO}, Bar a c H H' → H p = none → Bar a c H (upd H' p o) := fun {H' p o} B hp b u k1 k2 q => by
    rw [upd_ne (ne_of_none q hp)]
    exact B b u k1 k2 q
  -- the states
  refine ⟨_, rfl, p5, rfl, ⟨_, SqL.of (hid_some.mp Q5).2⟩, ?_⟩
  refine for_it (walk_list (xs := strsV cal)) (fun i σ H' => StAt H' a c (N + 126 + i * 3) ∧ Ex (hid (fun b => b = a ∨ b = c ∨ b = p3 ∨ b = p4) H10) (hid (fun b => b = a ∨ b = c ∨ b = p3 ∨ b = p4) H') ∧ Bar a c H H' ∧ H' p4 = some (.lst []) ∧
    (∃ l ys, H' p3 = some (.lst ys) ∧ Dens K true H' ys (l.map stT) ∧ l.map (·.1) = cal.take i ∧ ∀ s ∈ l, Cell lev.length s.2.1 ∧ Cell lam.length s.2.2) ∧ ∃ o10 o11, σ = [some (.ref a), some (.int 3), some (.int 3), some (.int 4), some (.int 6), some (.ref p1), some (.ref R), some (.ref p5), some (.ref p6), none, o10, o11, none, none])
    ⟨S10.le (by omega), Ex.refl _, B010, h4, ⟨[], [], h3, .nil, by rw [List.take_zero]; rfl, fun s hs => by cases hs⟩, _, _, rfl⟩ (fun i σ H' _ h => SqL.of (hid_some.mp (h.2.1 _ _ Q5)).2) ?_ ?_
  · rintro i x σ Ha Hb hi ⟨Sa, Ea, Ba, ha4, ⟨l, ys, ha3, hds, hlm, hlc⟩, o10, o11, rfl⟩ ⟨rfl, hx⟩
    obtain ⟨nm, hnm, rfl⟩ := strs_get hx
    rw [strs_len] at hi
    show tIf _ _ _ _ _ _
    refine via_key (T := fun Q => tIf _ _ _ _ _ Q) (fun v H' => ∃ z, v = .str z ∧ Cell lev.length z ∧ StAt H' a c (N + 126 + i * 3 + 2) ∧ Bar a c Hb H') (fun Q' key => ?_) ?_
    · refine ⟨_, rfl, a, c, _, 2, rfl, Sa, by omega, by decide, by decide, fun r Hc _ _ Sc Bc => ⟨rfl, _, rfl, ?_⟩⟩
      have Ec := Ea.trans (hx_bar Xa Xc Bc)
      refine ite2 (fun _ => ?_) (fun _ => ?_)
      · exact rd_cell rfl rfl (SqL.of (hid_some.mp (Ec _ _ QR)).2) rfl (SqL.of (hid_some.mp (Ec _ _ Q1)).2) nl0 Sc (by omega) fun z Hz cz Sz Bz => key _ _ ⟨z, rfl, cz, Sz, Bc.trans Bz⟩
      · refine ⟨_, rfl, _, rfl, a, c, p6, _, strsV cs, rfl, Sc, by omega, SqL.of (hs_at p6a p6c (hid_some.mp (Ec _ _ Q6)).2), fun z => ?_, by rw [strs_len, hcl]; decide, fun v Hz hv Sz Bz => ?_⟩
        · have := congrArg List.length z
          rw [strs_len, hcl] at this
          cases this
        · obtain ⟨z, hz, rfl⟩ := List.mem_map.mp hv
          exact key _ _ ⟨z, rfl, hcx z hz, Sz, Bc.trans Bz⟩
    rintro v Hc ⟨z, rfl, cz, Sc, Bc⟩
    have Ec := Ea.trans (hx_bar Xa Xc Bc)
    have hc3 := Bc _ _ p3a p3c ha3
    refine ⟨_, rfl, R, _, 2, .ref p3, rfl, rfl, SqL.of (hid_some.mp (Ec _ _ QR)).2, rfl, .inl ⟨rfl, _, SqL.of hc3⟩, ?_⟩
    refine ⟨_, rfl, _, rfl, rd_cell rfl rfl (SqL.of (hid_some.mp (Ec _ _ QR)).2) rfl (SqL.of (hid_some.mp (Ec _ _ Q2)).2) nm0 Sc (by omega) fun y Hd cy Sd Bd => ⟨by show 3 ≤ sizeLine; decide, fun t ht => ?_⟩⟩
    have ed : Ex Hd (upd Hd t (.tup [.str nm, .str z, .str y])) := (Ex.refl Hd).new ht
    have hd3 := Bd _ _ p3a p3c hc3
    have ll : l.length = i := by
      have := congrArg List.length hlm
      rw [List.length_map, List.length_take] at this
      omega
    have yl : ys.length = l.length := by rw [hds.length, List.length_map]
    refine ⟨p3, ys, _, rfl, rfl, ed _ _ hd3, by rw [yl, ll, sizeLine_eq]; omega, ?_⟩
    refine ⟨((Sd.mono ed).le (by omega)).put p3a p3c, ?_, kp0 (Ba.trans (Bc.trans (Bd.trans fun b o _ _ q => ed b o q))) p30, ?_, ⟨l ++ [(nm, z, y)], ys ++ [.ref t], upd_same, ?_, ?_, fun s hs => ?_⟩, _, _, rfl⟩
    · exact Ea.trans ((hx_bar Xa Xc Bc).trans ((hx_bar Xa Xc Bd).trans ((hid_of ed).trans (hx_put X33))))
    · rw [upd_ne n43]
      exact ed _ _ (Bd _ _ p4a p4c (Bc _ _ p4a p4c ha4))
    · rw [List.map_append]
      have no : NoL Hb (upd (upd Hd t (.tup [.str nm, .str z, .str y])) p3 (.lst (ys ++ [.ref t]))) := (NoL.bar Sa Bc).trans ((NoL.bar Sc Bd).trans ((NoL.of ed).trans (NoL.put (ed _ _ hd3))))
      refine dens_snoc (no.sts hds) (den_stI (SqT.of ?_))
      rw [upd_ne (ne_of (upd_same (H := Hd) (a := t)) (ed _ _ hd3) (by intro w; cases w)), upd_same]
      rfl
    · rw [List.map_append, hlm, List.take_add_one, hnm]
      rfl
    · rcases List.mem_append.mp hs with h | h
      · exact hlc s h
      · rw [List.mem_singleton.mp h]
        exact ⟨cz, cy⟩
  rintro σ Ha ⟨Sa, Ea, Ba, ha4, ⟨l, ys, ha3, hds, hlm, hlc⟩, o10, o11, rfl⟩
  rw [strs_len] at hlm Sa
  rw [List.take_length] at hlm
  have ll : l.length = cal.length := by rw [← hlm, List.length_map]
  have cal0 : cal ≠ [] := fun z => by rw [z] at l5; simp at l5; omega
  -- what the states are
  have Rso : StsOk lev.length lam.length l := fun i s hs => by
    have hm := List.mem_of_getElem? hs
    have hn : cal[i]? = some s.1 := by
      rw [← hlm, List.getElem?_map, hs]
      rfl
    obtain ⟨c1, c2⟩ := hlc s hm
    refine ⟨(x5 s.1 (List.mem_of_getElem? hn)).1.1, ?_, ⟨cell_in c1 (by omega) (by omega), c1.1⟩, cell_in c2 (by omega) (by omega), c2.1⟩
    rw [List.map_take, hlm]
    exact not_take d5 hn
  have Rle : LenOk l lev.length := ⟨by omega, fun n hn => by
    obtain ⟨k0, s0, hk, hs, _, hf⟩ := first_st hn
    rw [st_cell (show stOf l n = some s0 from hf)]
    exact (hlc s0 (List.mem_of_getElem? hk)).1.1⟩
  have hcm : ∀ x ∈ cal, x ∈ l.map (·.1) := fun x hx => by rw [hlm]; exact hx
  refine ⟨_, rfl, _, _, rfl, rfl, .inl ⟨by decide, by decide⟩, _, rfl, by decide, by decide, ?_⟩
  refine for_range (n := 18) (fun i σ H' => StAt H' a c (N + 138 + i * 2) ∧ Ex (hid (fun b => b = a ∨ b = c ∨ b = p3 ∨ b = p4) Ha) (hid (fun b => b = a ∨ b = c ∨ b = p3 ∨ b = p4) H') ∧ Bar a c H H' ∧ H' p3 = some (.lst ys) ∧ Dens K true H' ys (l.map stT) ∧
    (∃ ms zs, H' p4 = some (.lst zs) ∧ Dens K true H' zs (ms.map stT) ∧ MvsOk l lev.length ms ∧ ms.length ≤ 6) ∧ ∃ o9 o10 o11 o12 o13, σ = [some (.ref a), some (.int 3), some (.int 3), some (.int 4), some (.int 6), some (.ref p1), some (.ref R), some (.ref p5), some (.ref p6), o9, o10, o11, o12, o13])
    ⟨Sa.le (by omega), Ex.refl _, Ba, ha3, hds, ⟨[], [], ha4, .nil, ⟨fun q hq => (by cases hq), fun i m hm => by simp at hm⟩, Nat.zero_le _⟩, _, _, _, _, _, rfl⟩ ?_ ?_
  · rintro i σ Hb hi ⟨Sb, Eb, Bb, hb3, hdb, ⟨ms, zs, hb4, hdm, ⟨m1, m2⟩, m3⟩, o9, o10, o11, o12, o13, rfl⟩
    have QRa := Ea _ _ QR
    have Q5a := Ea _ _ Q5
    have pick : ∀ {Hx : Hp}, Ex (hid (fun b => b = a ∨ b = c ∨ b = p3 ∨ b = p4) Ha) (hid (fun b => b = a ∨ b = c ∨ b = p3 ∨ b = p4) Hx) → SqL K (hs a c Hx) p5 (strsV cal) := fun e => SqL.of (hs_at p5a p5c (hid_some.mp (e _ _ Q5a)).2)
    have ne5 : strsV cal ≠ [] := fun z => by
      have : cal.length = 0 := by
        rw [← strs_len, z]
        rfl
      omega
    have ln5 : (strsV cal).length < 1000000 := by
      rw [strs_len]
      omega
    refine ⟨_, rfl, _, rfl, a, c, p5, _, _, rfl, Sb, by omega, pick Eb, ne5, ln5, fun v1 Hc hv1 Sc Bc => ?_⟩
    have Ec := Eb.trans (hx_bar Xa Xc Bc)
    refine ⟨_, rfl, _, rfl, a, c, p5, _, _, rfl, Sc, by omega, pick Ec, ne5, ln5, fun v2 Hd hv2 Sd Bd => ?_⟩
    have Ed := Ec.trans (hx_bar Xa Xc Bd)
    obtain ⟨x1, hx1, rfl⟩ := List.mem_map.mp hv1
    obtain ⟨x2, hx2, rfl⟩ := List.mem_map.mp hv2
    have no1 : NoL Hb Hd := (NoL.bar Sb Bc).trans (NoL.bar Sc Bd)
    have hd3 := Bd _ _ p3a p3c (Bc _ _ p3a p3c hb3)
    have hd4 := Bd _ _ p4a p4c (Bc _ _ p4a p4c hb4)
    have hdl := no1.sts hdb
    have hdm2 := no1.sts hdm
    have hRd := (hid_some.mp (Ed _ _ QRa)).2
    have zl : zs.length = ms.length := by rw [hdm.length, List.length_map]
    refine ⟨_, _, rfl, ?_⟩
    refine ⟨_, rfl, R, _, 3, .ref p4, rfl, rfl, SqL.of hRd, rfl, p4, _, rfl, .inl (SqL.of hd4), _, rfl, _, _, rfl, rfl, _, rfl, ?_⟩
    have stay : ∀ {Hx : Hp}, Ex Hd Hx → StAt Hx a c (N + 138 + (i + 1) * 2) ∧ Ex (hid (fun b => b = a ∨ b = c ∨ b = p3 ∨ b = p4) Ha) (hid (fun b => b = a ∨ b = c ∨ b = p3 ∨ b = p4) Hx) ∧ Bar a c H Hx ∧ Hx p3 = some (.lst ys) ∧ Dens K true Hx ys (l.map stT) := fun {Hx} e =>
      ⟨(Sd.mono e).le (by omega), Ed.trans (hid_of e), Bb.trans (Bc.trans (Bd.trans fun b o _ _ q => e b o q)), e _ _ hd3, hdl.mono e.kp⟩
    by_cases h6 : ((zs.length : Int) < 6)
    · rw [decide_eq_true h6]
      refine iteT ?_
      refine ⟨_, rfl, _, rfl, _, rfl, R, x1, x2, l, ms, lev.length, rfl, ⟨p1, p2, p3, p4, ys, zs, SqL.of hRd, SqL.of hd3, hdl, SqL.of hd4, hdm2⟩, by omega, by omega, hcm x1 hx1, hcm x2 hx2, Rle, m1, fun b He ee hb => ⟨_, rfl, ?_⟩⟩
      have he4 := ee _ _ hd4
      have hRe := ee _ _ hRd
      have he3 := ee _ _ hd3
      cases b with
      | false =>
        obtain ⟨y1, y2, y3, y4, y5⟩ := stay ee
        exact iteF ⟨y1, y2, y3, y4, y5, ⟨ms, zs, he4, hdm2.mono ee.kp, ⟨m1, m2⟩, m3⟩, _, _, _, _, _, rfl⟩
      | true =>
        have hmv := hb rfl
        refine iteT ?_
        refine ⟨_, rfl, R, _, 3, .ref p4, rfl, rfl, SqL.of hRe, rfl, .inl ⟨rfl, _, SqL.of he4⟩, ?_⟩
        refine ⟨_, rfl, _, rfl, _, rfl, R, x2, l, rfl, ⟨p1, p2, p3, p4, ys, SqL.of hRe, SqL.of he3, hdl.mono ee.kp⟩, by omega, hcm x2 hx2, fun u s0 Hf ef hf hu => ?_⟩
        refine ⟨u, _, 1, _, rfl, rfl, hu, rfl, _, rfl, by show 3 ≤ sizeLine; decide, fun t ht => ?_⟩
        have eg : Ex Hf (upd Hf t (.tup [.str x1, .str s0.2.1, .str x2])) := (Ex.refl Hf).new ht
        have eall := ee.trans (ef.trans eg)
        have hg4 := eall _ _ hd4
        obtain ⟨y1, y2, y3, y4, y5⟩ := stay eall
        refine ⟨p4, zs, _, rfl, rfl, hg4, by rw [zl, sizeLine_eq]; omega, ?_⟩
        have no2 : NoL (upd Hf t (.tup [.str x1, .str s0.2.1, .str x2])) (upd (upd Hf t (.tup [.str x1, .str s0.2.1, .str x2])) p4 (.lst (zs ++ [.ref t]))) := NoL.put hg4
        have ec : s0.2.1 = cellOf l x2 := (st_cell hf).symm
        refine ⟨y1.put p4a p4c, y2.trans (hx_put X44), kp0 y3 p40, by rw [upd_ne n43.symm]; exact y4, no2.sts y5, ⟨ms ++ [(x1, cellOf l x2, x2)], zs ++ [.ref t], upd_same, ?_, ⟨fun q hq => ?_, fun i2 m hm => ?_⟩, ?_⟩, _, _, _, _, _, rfl⟩
        · rw [List.map_append]
          refine dens_snoc (no2.sts (hdm2.mono eall.kp)) (den_stI (SqT.of ?_))
          rw [upd_ne (ne_of (upd_same (H := Hf) (a := t)) hg4 (by intro w; cases w)), upd_same, ← ec]
          rfl
        · rcases List.mem_append.mp hq with h | h
          · exact m1 q h
          · rw [List.mem_singleton.mp h]
            exact ⟨hcm x1 hx1, Rle.2 x2 (hcm x2 hx2)⟩
        · by_cases hlt : i2 < ms.length
          · rw [List.getElem?_append_left hlt] at hm
            rw [List.take_append_of_le_length (by omega)]
            exact m2 i2 m hm
          · have hi2 : i2 = ms.length := by
              have := (List.getElem?_eq_some_iff.mp hm).1
              simp at this
              omega
            subst hi2
            have hm : (x1, cellOf l x2, x2) = m := by simpa using hm
            rw [← hm, List.take_append_of_le_length (Nat.le_refl _), List.take_length]
            exact hmv
        · rw [List.length_append]
          show ms.length + 1 ≤ 6
          omega
    · rw [decide_eq_false h6]
      obtain ⟨y1, y2, y3, y4, y5⟩ := stay (Ex.refl Hd)
      exact iteF (iteF ⟨y1, y2, y3, y4, y5, ⟨ms, zs, hd4, hdm2, ⟨m1, m2⟩, m3⟩, _, _, _, _, _, rfl⟩)
  · rintro σ Hb ⟨Sb, Eb, Bb, hb3, hdb, ⟨ms, zs, hb4, hdm, mo, m3⟩, o9, o10, o11, o12, o13, rfl⟩
    have Eb0 := Ea.trans Eb
    have QRb := Eb0 _ _ QR
    have Q1b := Eb0 _ _ Q1
    have Q2b := Eb0 _ _ Q2
    have up : ∀ {b : Addr} {o : HO}, hid (fun b => b = a ∨ b = c ∨ b = p3 ∨ b = p4) Hb b = some o → hs a c Hb b = some o := fun h => hid_sub (fun b z => z.imp id .inl) _ _ h
    have noS : NoL Hb (hs a c Hb) := fun b o n q => by
      obtain ⟨ns, cur, cnt, mix, s1, s2, _⟩ := Sb
      refine hs_at (fun z => ?_) (fun z => ?_) q
      · rw [z, s1] at q
        exact n _ (Option.some.inj q).symm
      · rw [z, s2] at q
        exact n _ (Option.some.inj q).symm
    have nz : ∀ {α : Type} {l : List α}, 0 < l.length → l ≠ [] := fun h z => by rw [z] at h; cases h
    have z1 : lev ≠ [] := nz (by omega)
    have z2 : lev.length < 10000 := by omega
    have z3 : lam ≠ [] := nz (by omega)
    have z4 : lam.length < 10000 := by omega
    have z5 : l ≠ [] := nz (by omega)
    have z6 : l.length < 10000 := by omega
    have z7 : ms.length < 10000 := by omega
    have z8 : lev.length ≤ 3 := by omega
    have z9 : lam.length ≤ 3 := by omega
    have z10 : l.length ≤ 4 := by omega
    refine ⟨_, rfl, k R ⟨lev, lam, l, ms⟩ Hb (Sb.le (by omega)) Bb R0 ⟨p1, p2, p3, p4, up QRb, up Q1b, up Q2b, ys, zs, hs_at p3a p3c hb3, noS.sts hdb, hs_at p4a p4c hb4, noS.sts hdm⟩ ⟨z1, d1, fun x hx => (x1 x hx).1, z2, z3, d2, x2, z4, z5, Rso, by rw [hlm]; exact d5, z6, Rle, mo, z7⟩ ⟨z8, z9, z10, m3, fun s hs => (hlc s hs).2⟩⟩
theorem c_law_draw_machine (W : Wld K mg) : Cal P w K mg base 5 "_law_draw_machine" ["state", "levers", "lamps", "states", "moves"] (spDraw K) := by
  obtain ⟨fd, F⟩ := W.c.def_ 47 rfl
  exact ⟨⟨fd, ok_law_draw_machine W F, F.bindsN fun _ _ _ _ _ _ us hl => match us, hl with | [_, _, _, _, _], _ => rfl⟩, W.g_law_draw_machine, F.kp⟩
end
end K77

set_option Elab.async false
set_option linter.all false
set_option maxRecDepth 100000
set_option maxHeartbeats 400000
namespace K77
open PySem PySem.Spec PyProof.Rows L2 DL
/-- an __init__ that keeps a promise -/
structure Ini (P : Program) (w : World) (K : PySem.W.Frag) (mg : Str → Option Value) (base : Heap) (k : Nat) (C f : Addr) (ps : List Str) (sp : Sp) : Prop where
  ex : ∃ fd : FuncData, FnOk P w K mg base CX0 k f fd ps sp ∧ Binds K fd ps []
theorem pe_mk {X : Cx} {k : Nat} {C f : Addr} {x : Str} {ps : List Str} {sp : Sp} {p pos : Pos} {e : Expr} {es : List Expr} {t : TA} (I : Ini X.prog X.w X.K X.mg X.base k C f ps sp) (M : Mk X.K C f) (hm : X.mg x = some (.ref C)) (hr : Room (k + 1) X.A) (ha : PA X (e :: es) t) (hg : Gl X x := by rfl)
    (hdb : (x == ("__debug__" : Str)) = false := by decide) (he : starEach (e :: es) X.env = (false, eval e X.env) :: starEach es X.env := by rfl) (hpl : (backTo pos (starEach es X.env)).any (·.1) = false := by rfl) :
    PE X (.Call (.Name x p) (e :: es) [] pos) (tMake C sp [] E0 t) := by
  obtain ⟨fd, F, b⟩ := I.ex
  exact pe_make M F hr hg hm b .nil pass0 ha hdb he hpl
/-- the raw machine as a tree -/
def rawT (r : Raw) : Tr := .lst [.lst (r.lev.map Tr.str), .lst (r.lam.map Tr.str), .lst (r.sts.map stT), .lst (r.mvs.map stT)]
theorem raw_den {K : PySem.W.Frag} {H : Hp} {R : Addr} {r : Raw} (h : RawAt K H R r) : Den K true H (.ref R) (rawT r) := by
  obtain ⟨p1, p2, p3, p4, h0, h1, h2, ys, zs, h3, h4, h5, h6⟩ := h
  exact .lst (SqL.of h0) (.cons (.lst (SqL.of h1) (dens_strs _)) (.cons (.lst (SqL.of h2) (dens_strs _)) (.cons (.lst (SqL.of h3) h4) (.cons (.lst (SqL.of h5) h6) .nil))))
theorem dens_strI {K : PySem.W.Frag} {b : Bool} {H : Hp} : ∀ {ys : List V} {l : List Str}, Dens K b H ys (l.map Tr.str) → ys = strsV l
  | _, [], .nil => rfl
  | _, x :: l, .cons a r => by
    cases a
    rw [dens_strI r]
    rfl
theorem den_lst {K : PySem.W.Frag} {b : Bool} {H : Hp} {v : V} {ds : List Tr} (h : Den K b H v (.lst ds)) : ∃ p ys, v = .ref p ∧ SqL K H p ys ∧ Dens K b H ys ds := by
  cases h with
  | lst h1 h2 => exact ⟨_, _, rfl, h1, h2⟩
theorem den_raw {K : PySem.W.Frag} {H : Hp} {v : V} {r : Raw} (h : Den K true H v (rawT r)) : ∃ R a b c d, v = .ref R ∧ SqL K H R [.ref a, .ref b, .ref c, .ref d] ∧ PartsQ K H r a b c d := by
  obtain ⟨R, ys, rfl, h0, hs⟩ := den_lst h
  cases hs with
  | cons h1 hs =>
    cases hs with
    | cons h2 hs =>
      cases hs with
      | cons h3 hs =>
        cases hs with
        | cons h4 hs =>
          cases hs
          obtain ⟨a, x1, rfl, q1, s1⟩ := den_lst h1
          obtain ⟨b, x2, rfl, q2, s2⟩ := den_lst h2
          obtain ⟨c, x3, rfl, q3, s3⟩ := den_lst h3
          obtain ⟨d, x4, rfl, q4, s4⟩ := den_lst h4
          rw [dens_strI s1] at q1
          rw [dens_strI s2] at q2
          exact ⟨R, a, b, c, d, rfl, h0, q1, q2, x3, x4, q3, s3, q4, s4⟩
theorem raw_okc {r : Raw} (R : RawOk r) (z : Small r) : Okc 3 (rawT r) := by
  have st : ∀ l : List St3, l.length ≤ 10 → Okc 2 (.lst (l.map stT)) := fun l hl => ⟨by rw [List.length_map]; omega, fun x hx => by
    obtain ⟨s, _, rfl⟩ := List.mem_map.mp hx
    exact ⟨by show 3 ≤ 100000; decide, fun y hy => by
      rcases List.mem_cons.mp hy with rfl | hy
      · trivial
      · rcases List.mem_cons.mp hy with rfl | hy
        · trivial
        · rw [List.mem_singleton.mp hy]
          trivial⟩⟩
  have sr : ∀ l : List Str, l.length ≤ 10 → Okc 2 (.lst (l.map Tr.str)) := fun l hl => ⟨by rw [List.length_map]; omega, fun x hx => by
    obtain ⟨s, _, rfl⟩ := List.mem_map.mp hx
    trivial⟩
  refine ⟨by show 4 ≤ 100000; decide, fun x hx => ?_⟩
  have z1 := z.l
  have z2 := z.m
  have z3 := z.s
  have z4 := z.v
  rcases List.mem_cons.mp hx with rfl | hx
  · exact sr _ (by omega)
  rcases List.mem_cons.mp hx with rfl | hx
  · exact sr _ (by omega)
  rcases List.mem_cons.mp hx with rfl | hx
  · exact st _ (by omega)
  · rw [List.mem_singleton.mp hx]
    exact st _ (by omega)
section
variable {P : Program} {w : World} {K : PySem.W.Frag} {mg : Str → Option Value} {base : Heap} {f : Addr} {fd : FuncData}
theorem cMachine_init (W : Wld K mg) : Ini P w K mg base 7 (He.ga K "Machine") (He.ma K (He.ga K "Machine") "__init__") ["self", "levers", "lamps", "states", "moves"] (spInit K) := by
  obtain ⟨fd, F⟩ := W.c.def_ d_Machine_init rfl
  exact ⟨fd, ok_Machine_init W F, F.bindsN fun _ _ _ _ _ _ us hl => match us, hl with | [_, _, _, _, _], _ => rfl⟩
def spMacOf (K : PySem.W.Frag) : Sp := fun vs H Q _ => ∃ (S : Addr → Prop) (R : Addr) (r : Raw), vs = [.ref R] ∧ RawAt K H R r ∧ RawOk r ∧ Small r ∧ (∀ z, S z → H z ≠ none) ∧ ∀ m H', Ex H H' → MacAt K (hid S H') m r → Q (.ref m) H'
theorem sc_law_machine_of : FnScope ["raw", "some"] ["raw"] (defScope s_law_machine_of) := ⟨rfl, rfl, rfl, by decide +kernel, rfl, by decide +kernel, by decide +kernel⟩
theorem ok_law_machine_of (W : Wld K mg) (F : FnP K "_law_machine_of" s_law_machine_of f fd) : FnOk P w K mg base CX0 9 f fd ["raw"] (spMacOf K) := by
  have C_law_copy : Cal P w K mg base 4 "_law_copy" ["thing"] (spCopy K 4) := c_law_copy W 4
  have CMachine_init : Ini P w K mg base 7 (He.ga K "Machine") (He.ma K (He.ga K "Machine") "__init__") ["self", "levers", "lamps", "states", "moves"] (spInit K) := cMachine_init W
  refine F.ok sc_law_machine_of (fun vs H Q E h => ?_) (fun cdv A outer s H vs Q E hr h => ?_)
  · obtain ⟨S, R, r, rfl, _⟩ := h
    rfl
  obtain ⟨S, R, r, rfl, hR, hok, hsm, hS, k⟩ := h
  refine ⟨_, PSs.nox (pss_cons (ps_set (i := 1) sc_law_machine_of.nd rfl (.inl rfl) (pe_c C_law_copy (hr.mono (by decide)) (pa_cons (pv 0) pa_nil)))
    (pss_one (ps_ret (pe_mk CMachine_init W.mk_Machine W.g_Machine (hr.mono (by decide)) (pa_cons (pe_ix ix_list (pv 1) pe_int (fun _ _ => rfl)) (pa_cons (pe_ix ix_list (pv 1) pe_int (fun _ _ => rfl)) (pa_cons (pe_ix ix_list (pv 1) pe_int (fun _ _ => rfl)) (pa_cons (pe_ix ix_list (pv 1) pe_int (fun _ _ => rfl)) pa_nil)))))))), ?_⟩
  refine ⟨_, rfl, .ref R, rawT r, rfl, raw_den hR, raw_okc hok hsm, fun v' H1 e1 d1 => ?_⟩
  have toS : Ex (nw H H1) (hid S H1) := hid_sub fun b z => hS b z
  obtain ⟨R1, a, b, c, d, rfl, q0, qp⟩ := den_raw (d1.mono toS.kp)
  have q0' := (hid_ex (S := S)).er.l q0
  refine ⟨_, rfl, R1, _, 0, .ref a, rfl, rfl, q0', rfl, ?_⟩
  refine ⟨_, rfl, R1, _, 1, .ref b, rfl, rfl, q0', rfl, ?_⟩
  refine ⟨_, rfl, R1, _, 2, .ref c, rfl, rfl, q0', rfl, ?_⟩
  refine ⟨_, rfl, R1, _, 3, .ref d, rfl, rfl, q0', rfl, fun x dx hx hdx nd => ?_⟩
  have e2 : Ex H1 (upd (upd H1 dx (.own x)) x (.ins (He.ga K "Machine") dx [])) := XL.ex_two hx hdx
  have e3 : Ex (hid S H1) (hid S (wo x (upd (upd H1 dx (.own x)) x (.ins (He.ga K "Machine") dx [])))) := fun b o q => by
    obtain ⟨h1, h2⟩ := hid_some.mp q
    exact hid_some.mpr ⟨h1, hid_some.mpr ⟨ne_of_none h2 hx, e2 b o h2⟩⟩
  have h1S : ∀ z, S z → H1 z ≠ none := fun z sz q => by
    cases hz : H z with
    | none => exact hS z sz hz
    | some u =>
      rw [e1 z u hz] at q
      cases q
  refine ⟨S, x, dx, a, b, c, d, r, rfl, upd_same, qp.mono e3, hok, fun sx => h1S x sx hx, fun z sz q => ?_, fun H' h' hm => ⟨rfl, k x H' (fun b o q => h' b o (ne_of_none (e1 b o q) hx) (e2 b o (e1 b o q))) hm⟩⟩
  cases hz : H1 z with
  | none => exact h1S z sz hz
  | some u =>
    rw [e2 z u hz] at q
    cases q
theorem c_law_machine_of (W : Wld K mg) : Cal P w K mg base 9 "_law_machine_of" ["raw"] (spMacOf K) := by
  obtain ⟨fd, F⟩ := W.c.def_ 48 rfl
  exact ⟨⟨fd, ok_law_machine_of W F, F.bindsN fun _ _ _ _ _ _ us hl => match us, hl with | [_], _ => rfl⟩, W.g_law_machine_of, F.kp⟩
theorem rawM_of {H : Hp} {R : Addr} {r : Raw} (h : RawAt K H R r) : RawM K H R r.sts r.mvs := by
  obtain ⟨p1, p2, p3, p4, h0, h1, h2, ys, zs, h3, h4, h5, h6⟩ := h
  exact ⟨p1, p2, p3, p4, ys, zs, SqL.of h0, SqL.of h3, h4, SqL.of h5, h6⟩
theorem atI_last (xs : List V) (v : V) : atI (xs ++ [v]) (-1) = some v := by
  unfold atI
  have : ixN (xs ++ [v]).length (-1) = some xs.length := by
    unfold ixN
    rw [List.length_append]
    show (if (0 : Int) ≤ -1 then _ else if -((xs.length + 1 : Nat) : Int) ≤ -1 then some (-1 + ((xs.length + 1 : Nat) : Int)).toNat else none) = _
    rw [if_neg (by omega), if_pos (by omega)]
    congr 1
    omega
  rw [this]
  simp
/-- a walk's moves, one behind the other -/
def WalkOk (r : Raw) : Str → List Nat → Prop
  | _, [] => True
  | n, k :: t => ∃ q, r.mvs[k]? = some q ∧ q.1 = n ∧ WalkOk r q.2.2 t
def endW (r : Raw) : Str → List Nat → Str
  | n, [] => n
  | n, k :: t => endW r (((r.mvs[k]?).map fun q => q.2.2).getD ("" : Str)) t
theorem walk_snoc {r : Raw} {k : Nat} : ∀ {ws : List Nat} {n : Str}, WalkOk r n ws → (∃ q, r.mvs[k]? = some q ∧ q.1 = endW r n ws) → WalkOk r n (ws ++ [k])
  | [], n, _, ⟨q, h1, h2⟩ => ⟨q, h1, h2, True.intro⟩
  | j :: ws, n, ⟨p, h1, h2, h3⟩, h => ⟨p, h1, h2, walk_snoc h3 (by
      obtain ⟨q, z1, z2⟩ := h
      refine ⟨q, z1, z2.trans ?_⟩
      show endW r (((r.mvs[j]?).map fun q => q.2.2).getD ("" : Str)) ws = _
      rw [h1]
      rfl)⟩
theorem end_snoc {r : Raw} {k : Nat} {q : St3} (h : r.mvs[k]? = some q) (ws : List Nat) : ∀ (n : Str), endW r n (ws ++ [k]) = q.2.2 := by
  induction ws with
  | nil =>
    intro n
    show endW r (((r.mvs[k]?).map fun q => q.2.2).getD ("" : Str)) [] = _
    rw [h]
    rfl
  | cons j ws ih => exact fun n => ih _
def spWalk (K : PySem.W.Frag) : Sp := fun vs H Q _ => ∃ (a c R : Addr) (N : Nat) (r : Raw), vs = [.ref a, .ref R, .int 5] ∧ StAt H a c N ∧ N + 5 < 1099511627776 ∧ RawAt K (hs a c H) R r ∧ RawOk r ∧
  ∀ D ws H', StAt H' a c (N + 5) → Bar a c H H' → H D = none → H' D = some (.lst (intsV ws)) → ws.length ≤ 5 → (∀ k ∈ ws, k < r.mvs.length) → WalkOk r (st0 r) ws → Q (.ref D) H'
theorem sc_law_draw_walk : FnScope ["state", "raw", "many", "name", "walk", "k", "some", "at"] ["state", "raw", "many"] (defScope s_law_draw_walk) := ⟨rfl, rfl, rfl, by decide +kernel, rfl, by decide +kernel, by decide +kernel⟩
theorem ok_law_draw_walk (W : Wld K mg) (F : FnP K "_law_draw_walk" s_law_draw_walk f fd) : FnOk P w K mg base CX0 4 f fd ["state", "raw", "many"] (spWalk K) := by
  have C_law_one : Cal P w K mg base 3 "_law_one" ["state", "things"] (spOne K) := c_law_one W
  refine F.ok sc_law_draw_walk (fun vs H Q E h => ?_) (fun cdv A outer s H vs Q E hr h => ?_)
  · obtain ⟨a, c, R, N, r, rfl, _⟩ := h
    rfl
  obtain ⟨a, c, R, N, r, rfl, hS, hN, hR, ok, k⟩ := h
  refine ⟨_, PSs.nox (pss_cons (ps_asg (pe_tup (pa_cons (pe_ix ix_tup (pe_ix ix_list (pe_ix ix_list (pv 1) pe_int (fun _ _ => rfl)) pe_int (fun _ _ => rfl)) pe_int (fun _ _ => rfl)) (pa_cons (pe_lst pa_nil) pa_nil))) (pg_tup rfl (pgs_cons (pg_name (i := 3) sc_law_draw_walk.nd rfl (.inr rfl)) (pgs_cons (pg_name (i := 4) sc_law_draw_walk.nd rfl (.inl rfl)) pgs_nil))))
    (pss_cons (ps_for PassesOwn.never rfl (pi_range1 (by rfl) W.n_range (pa_cons (pv 2) pa_nil)) (pg_name (i := 5) sc_law_draw_walk.nd rfl (.inl rfl))
    (pss_cons (ps_setLc (i := 6) (own := [("at", 7)]) (g := gName 7) (tt := (tTest (tOp rEq (tOp (rIxT K) (tOp (rIxL K) (tOp (rIxL K) (tVar 1) (tC (.int 3))) (tVar 7)) (tC (.int 0))) (tVar 3)))) (te := (tVar 7)) rfl sc_law_draw_walk.nd rfl rfl (sw_true rfl rfl rfl (by decide +kernel)) (pi_range1 (by rfl) W.n_range (pa_cons (pe_callB call_len_seq (by rfl) W.n_len (by decide +kernel) (pa_cons (pe_ix ix_list (pv 1) pe_int (fun _ _ => rfl)) pa_nil)) pa_nil)) (blkOk_by (N := ["state", "raw", "many", "name", "walk", "k", "some", "at"]) (sc := defScope s_law_draw_walk) (by decide +kernel)) (fun _ _ _ _ _ => pg_name (i := 7) sc_law_draw_walk.nd rfl (Or.inl rfl)) (fun _ _ _ _ _ => pts_one (pt_cmpR op_eq (pe_ix ix_tup (pe_ix ix_list (pe_ix ix_list (pv 1) pe_int (fun _ _ => rfl)) (pv 7) (fun _ _ => rfl)) pe_int (fun _ _ => rfl)) (pv 3) (nomark _))) (fun _ _ _ _ _ => (pv 7)))
    (pss_one (ps_if (pt_cmpR (op_neD hr.units) (pv 6) (pe_lst pa_nil) (nomark _))
    (pss_cons (ps_expr (pe_bm PySem.F.plainAttrs_list PySem.F.slot_list_append PySem.F.type_list_append mt_append (pv 4) (pa_cons (pe_c C_law_one (hr.mono (by decide)) (pa_cons (pv 0) (pa_cons (pv 6) pa_nil))) pa_nil)))
    (pss_one (ps_set (i := 3) sc_law_draw_walk.nd rfl (.inr rfl) (pe_ix ix_tup (pe_ix ix_list (pe_ix ix_list (pv 1) pe_int (fun _ _ => rfl)) (pe_ix ix_list (pv 4) (pe_un un_neg pe_int) (fun _ _ => rfl)) (fun _ _ => rfl)) pe_int (fun _ _ => rfl)))))
    pss_nil))))
    (pss_one (ps_ret (pv 4))))), ?_⟩
  obtain ⟨p1, p2, p3, p4, ys, zs, q0, q3, qs, q4, qm⟩ := rawM_of hR
  obtain ⟨s0, ss, es⟩ : ∃ s0 ss, r.sts = s0 :: ss := by
    cases h : r.sts with
    | nil => exact absurd h ok.s0
    | cons a b => exact ⟨a, b, rfl⟩
  have es0 : st0 r = s0.1 := by
    unfold st0
    rw [es]
    rfl
  obtain ⟨vz, hvz, dvz⟩ := qs.get' (i := 0) (d := stT s0) (by rw [es]; rfl)
  obtain ⟨u, rfl, hu⟩ := den_st dvz
  refine ⟨_, rfl, R, _, 2, .ref p3, rfl, rfl, hs_ex.er.l q0, rfl, p3, _, 0, .ref u, rfl, rfl, hs_ex.er.l q3, atI_nat (j := 0) hvz, u, _, 0, _, rfl, rfl, hs_ex.er.t hu, rfl, ?_⟩
  refine ⟨by show 0 ≤ sizeLine; omega, fun D hD => ⟨by show 2 ≤ sizeLine; decide, fun T hT => ?_⟩⟩
  obtain ⟨Da, Dc⟩ := hS.fresh hD
  have e1 : Ex H (upd (upd H D (.lst [])) T (.tup [.str s0.1, .ref D])) := ((Ex.refl H).new hD).new hT
  have nTD : D ≠ T := ne_of_none (upd_same (H := H) (a := D)) hT
  have hD1 : upd (upd H D (.lst [])) T (.tup [.str s0.1, .ref D]) D = some (.lst []) := by rw [upd_ne nTD, upd_same]
  refine ⟨T, _, rfl, SqT.of upd_same, rfl, _, _, rfl, _, _, rfl, rfl, ?_⟩
  generalize upd (upd H D (.lst [])) T (.tup [.str s0.1, .ref D]) = H1 at e1 hD1 ⊢
  have zl : zs.length = r.mvs.length := by rw [qm.length, List.length_map]
  have vl := ok.vl
  refine ⟨_, rfl, 5, rfl, by decide, by decide, ?_⟩
  refine for_range (n := 5) (fun i σ H' => StAt H' a c (N + i) ∧ Bar a c H H' ∧ ∃ n, (∃ ws, H' D = some (.lst (intsV ws)) ∧ ws.length ≤ i ∧ (∀ k ∈ ws, k < r.mvs.length) ∧ WalkOk r (st0 r) ws ∧ endW r (st0 r) ws = n) ∧ ∃ o5 o6, σ = [some (.ref a), some (.ref R), some (.int 5), some (.str n), some (.ref D), o5, o6, none])
    ⟨hS.mono e1, fun b o _ _ q => e1 b o q, s0.1, ⟨[], hD1, Nat.le_refl _, (fun k hk => by cases hk), True.intro, es0⟩, _, _, rfl⟩ ?_ ?_
  · rintro i σ H2 hi ⟨S2, B2, n, ⟨ws, hw, hwl, hwx, hwk, hwe⟩, o5, o6, rfl⟩
    have x2 : Ex (hs a c H) (hs a c H2) := B2.hs
    have up2 : ∀ {H' : Hp}, Ex H2 H' → Ex (hs a c H) H' := fun e => x2.trans ((hs_of e).trans hs_ex)
    refine ⟨_, rfl, R, _, 3, .ref p4, rfl, rfl, (up2 (Ex.refl _)).er.l q0, rfl, p4, _, rfl, .inl ((up2 (Ex.refl _)).er.l q4), _, rfl, by rw [zl]; omega, by rw [zl]; omega, fun L hL => ?_⟩
    have en : ((zs.length : Int)).toNat = zs.length := Int.toNat_natCast _
    rw [en, zl]
    refine lc_keep (fun i => match r.mvs[i]? with | some q => decide (q.1 = n) | none => false) (by rw [sizeLine_eq]; omega) hL (fun _ => rfl) (fun _ => rfl) ?_ ?_
    · intro j H3 Q3 hj e3 q
      have e0 : (0 : Int) + (j : Nat) = (j : Nat) := Int.zero_add _
      rw [e0]
      obtain ⟨vj, hvj, dvj⟩ := qm.get' (i := j) (d := stT r.mvs[j]) (by rw [List.getElem?_map, List.getElem?_eq_getElem hj]; rfl)
      obtain ⟨t, rfl, ht⟩ := den_st dvj
      refine ⟨_, rfl, R, _, 3, .ref p4, rfl, rfl, (up2 e3).er.l q0, rfl, _, rfl, p4, _, _, .ref t, rfl, rfl, (up2 e3).er.l q4, atI_nat hvj, t, _, 0, _, rfl, rfl, (up2 e3).er.t ht, rfl, _, rfl, rfl, _, rfl, ?_⟩
      have z := q H3 (Ex.refl _)
      rw [List.getElem?_eq_getElem hj] at z
      rw [dec_s]
      exact z
    · intro H3 hl3 e3
      generalize hsel : (List.range r.mvs.length).filter (fun i => match r.mvs[i]? with | some q => decide (q.1 = n) | none => false) = sel at hl3
      have hsl : ∀ k ∈ sel, k < r.mvs.length := fun k hk => by
        rw [← hsel] at hk
        exact List.mem_range.mp (List.mem_filter.mp hk).1
      have hsn1 : ∀ k ∈ sel, ∃ q, r.mvs[k]? = some q ∧ q.1 = n := fun k hk => by
        rw [← hsel] at hk
        have z := (List.mem_filter.mp hk).2
        cases e : r.mvs[k]? with
        | none =>
          rw [e] at z
          cases z
        | some q =>
          rw [e] at z
          exact ⟨q, rfl, of_decide_eq_true z⟩
      have hsn : sel.length ≤ r.mvs.length := by
        rw [← hsel]
        have := List.length_filter_le (fun i => match r.mvs[i]? with | some q => decide (q.1 = n) | none => false) (List.range r.mvs.length)
        rw [List.length_range] at this
        exact this
      refine rd_neNil (l := sel) rfl (SqL.of hl3) fun H4 e4 => ⟨_, rfl, ?_⟩
      have e34 := e3.trans e4
      have hw4 := e34 _ _ hw
      have hl4 := e4 _ _ hl3
      obtain ⟨La, Lc⟩ := S2.fresh hL
      cases hse : sel.isEmpty with
      | true => exact iteF ⟨(S2.mono e34).le (by omega), B2.trans fun b o _ _ q => e34 b o q, _, ⟨ws, hw4, by omega, hwx, hwk, hwe⟩, _, _, rfl⟩
      | false =>
        refine iteT ?_
        have S4 := S2.mono e34
        refine ⟨_, rfl, .inl ⟨rfl, _, SqL.of hw4⟩, _, rfl, _, rfl, a, c, L, _, intsV sel, rfl, S4, by omega, SqL.of (hs_at La Lc hl4), fun z => ?_, by rw [ints_len]; omega, fun v H5 hv S5 B5 => ?_⟩
        · have : sel.length = 0 := by rw [← ints_len, z]; rfl
          rw [List.eq_nil_of_length_eq_zero this] at hse
          cases hse
        obtain ⟨kk, hk, rfl⟩ := List.mem_map.mp hv
        have hkl := hsl kk hk
        have hw5 := B5 _ _ Da Dc hw4
        refine ⟨D, _, _, rfl, rfl, hw5, by rw [ints_len, sizeLine_eq]; omega, ?_⟩
        have B25 : Bar a c H H5 := B2.trans (Bar.trans (fun b o _ _ q => e34 b o q) B5)
        have hw6 : upd H5 D (.lst (intsV ws ++ [.int (kk : Nat)])) D = some (.lst (intsV (ws ++ [kk]))) := by
          rw [upd_same]
          unfold intsV
          rw [List.map_append]
          rfl
        have B6 : Bar a c H (upd H5 D (.lst (intsV ws ++ [.int (kk : Nat)]))) := fun b o h1 h2 q => by
          rw [upd_ne (ne_of_none q hD)]
          exact B25 b o h1 h2 q
        have S6 := S5.put (o := .lst (intsV ws ++ [.int (kk : Nat)])) Da Dc
        have hw6' : upd H5 D (.lst (intsV ws ++ [.int (kk : Nat)])) D = some (.lst (intsV ws ++ [.int (kk : Nat)])) := upd_same
        generalize upd H5 D (.lst (intsV ws ++ [.int (kk : Nat)])) = H6 at hw6 B6 S6 hw6' ⊢
        have up6 : Ex (hs a c H) H6 := B6.hs.trans hs_ex
        obtain ⟨vj, hvj, dvj⟩ := qm.get' (i := kk) (d := stT r.mvs[kk]) (by rw [List.getElem?_map, List.getElem?_eq_getElem hkl]; rfl)
        obtain ⟨t, rfl, ht⟩ := den_st dvj
        refine ⟨_, rfl, R, _, 3, .ref p4, rfl, rfl, up6.er.l q0, rfl, _, rfl, _, rfl, D, _, _, _, rfl, rfl, SqL.of hw6', atI_last _ _, p4, _, _, .ref t, rfl, rfl, up6.er.l q4, atI_nat hvj, t, _, 2, _, rfl, rfl, up6.er.t ht, rfl, ?_⟩
        obtain ⟨qk, hqk1, hqk2⟩ := hsn1 kk hk
        have eqk : r.mvs[kk] = qk := (List.getElem?_eq_some_iff.mp hqk1).2
        refine ⟨S6.le (by omega), B6, _, ⟨ws ++ [kk], hw6, by rw [List.length_append]; show ws.length + 1 ≤ _; omega, fun j hj => ?_, walk_snoc hwk (by rw [hwe]; exact ⟨qk, hqk1, hqk2⟩), by rw [end_snoc hqk1 ws (st0 r), eqk]⟩, _, _, rfl⟩
        rcases List.mem_append.mp hj with h | h
        · exact hwx j h
        · rw [List.mem_singleton.mp h]
          exact hkl
  · rintro σ H2 ⟨S2, B2, n, ⟨ws, hw, hwl, hwx, hwk, hwe⟩, o5, o6, rfl⟩
    exact ⟨_, rfl, k D ws H2 S2 B2 hD hw hwl hwx hwk⟩
theorem c_law_draw_walk (W : Wld K mg) : Cal P w K mg base 4 "_law_draw_walk" ["state", "raw", "many"] (spWalk K) := by
  obtain ⟨fd, F⟩ := W.c.def_ 49 rfl
  exact ⟨⟨fd, ok_law_draw_walk W F, F.bindsN fun _ _ _ _ _ _ us hl => match us, hl with | [_, _, _], _ => rfl⟩, W.g_law_draw_walk, F.kp⟩
end
end K77

set_option Elab.async false
set_option linter.all false
set_option maxRecDepth 100000
set_option maxHeartbeats 400000
namespace K77
open PySem PySem.Spec PyProof.Rows L2 DL
/-! isinstance of what an expression gave -/
theorem isSeq_lt (d : Tr) : (isL d || isT d) = isSeq d := by cases d <;> rfl
theorem kit_lt {K : PySem.W.Frag} (d : Tr) : PySem.W.kitAny K (.type (tyN d)) [.type "list", .type "tuple"] = some (isSeq d) := by
  rw [← isSeq_lt]
  refine kitAny_cons (kit_ty (kL d)) (fun z => ?_) (fun z => by rw [z]; rfl)
  rw [z, Bool.false_or]
  refine kitAny_cons (kit_ty (kT d)) (fun z => ?_) (fun z => z)
  rw [z]
  exact kitAny_nil
theorem cls_lt : Paired ClsV [.ty "list", .ty "tuple"] [.type "list", .type "tuple"] := .cons (.ty _) (.cons (.ty _) .nil)
theorem row_len {r : Raw} {n : Str} {d : Tr} (h : (kids d).length ≠ 3) : rowB r n d = false := by
  unfold rowB
  split
  · rename_i a m w ek
    rw [ek] at h
    exact absurd rfl h
  · rfl
theorem pair_len {n : Str} {d : Tr} (h : (kids d).length ≠ 2) : pairOk n d = false := by
  unfold pairOk
  split
  · rename_i a m ek
    rw [ek] at h
    exact absurd rfl h
  · rfl
theorem three_of {l : List Tr} (h : l.length = 3) : ∃ a b c, l = [a, b, c] := by
  match l, h with
  | [a, b, c], _ => exact ⟨a, b, c, rfl⟩
theorem two_of {l : List Tr} (h : l.length = 2) : ∃ a b, l = [a, b] := by
  match l, h with
  | [a, b], _ => exact ⟨a, b, rfl⟩
theorem isStr_S {n : Str} {d : Tr} (h : isS d = false) : isStr n d = false := by
  cases d <;> first | rfl | cases h
section
variable {P : Program} {w : World} {K : PySem.W.Frag} {mg : Str → Option Value} {base : Heap} {f : Addr} {fd : FuncData}
def spLRow (K : PySem.W.Frag) : Sp := fun vs H Q _ => ∃ (R : Addr) (n : Str) (v : V) (r : Raw) (d : Tr), vs = [.ref R, .str n, v] ∧ RawAt K H R r ∧ RawOk r ∧ Den K true H v d ∧ Okt 4 d ∧ (∀ w, (kids d)[2]? = some w → PairSc w) ∧ ∀ H', Ex H H' → Q (.bl (rowB r n d)) H'
theorem sc_law_log_row : FnScope ["raw", "state", "thing", "k", "pair", "sign"] ["raw", "state", "thing"] (defScope s_law_log_row) := ⟨rfl, rfl, rfl, by decide +kernel, rfl, by decide +kernel, by decide +kernel⟩
theorem ok_law_log_row (W : Wld K mg) (F : FnP K "_law_log_row" s_law_log_row f fd) : FnOk P w K mg base CX0 2 f fd ["raw", "state", "thing"] (spLRow K) := by
  have C_law_is_number : Cal P w K mg base 1 "_law_is_number" ["thing"] (sp1 K isNum) := c_law_is_number W
  refine F.ok sc_law_log_row (fun vs H Q E h => ?_) (fun cdv A outer s H vs Q E hr h => ?_)
  · obtain ⟨R, n, v, r, d, rfl, _⟩ := h
    rfl
  obtain ⟨R, n, v, r, d, rfl, hR, ok, hd, ho, hsc, k⟩ := h
  refine ⟨_, PSs.nox (pss_cons (ps_if (PW.pt (pw_or (pt_not (pt_val (pe_callB call_isiT (by rfl) W.n_isinstance (by decide +kernel) (pa_cons (pv 2) (pa_cons (pe_tup (pa_cons (pe_bltn (v := .ty "list") (by rfl) W.n_list (by decide +kernel) rfl) (pa_cons (pe_bltn (v := .ty "tuple") (by rfl) W.n_tuple (by decide +kernel) rfl) pa_nil))) pa_nil))))) (pw_or (pt_cmpR op_ne (pe_callB call_len_seq (by rfl) W.n_len (by decide +kernel) (pa_cons (pv 2) pa_nil)) pe_int (nomark _)) (pw_or (pt_not (pt_val (pe_callB call_isi (by rfl) W.n_isinstance (by decide +kernel) (pa_cons (pe_ix ix_seq (pv 2) pe_int (fun _ _ => rfl)) (pa_cons (pe_bltn (v := .ty "str") (by rfl) W.n_str (by decide +kernel) rfl) pa_nil))))) (pw_or1 (pt_cmpR op_ne (pe_ix ix_seq (pv 2) pe_int (fun _ _ => rfl)) (pv 1) (nomark _)))))))
    (pss_one (ps_ret pe_bl))
    pss_nil)
    (pss_cons (ps_if (PW.pt (pw_or (pt_not (pt_val (pe_c C_law_is_number (hr.mono (by decide)) (pa_cons (pe_ix ix_seq (pv 2) pe_int (fun _ _ => rfl)) pa_nil)))) (pw_or (pt_cmpR op_ge (pe_ix ix_seq (pv 2) pe_int (fun _ _ => rfl)) (pe_callB call_len_seq (by rfl) W.n_len (by decide +kernel) (pa_cons (pe_ix ix_list (pv 0) pe_int (fun _ _ => rfl)) pa_nil)) (nomark _)) (pw_or1 (pt_cmpR op_ne (pe_ix ix_tup (pe_ix ix_list (pe_ix ix_list (pv 0) pe_int (fun _ _ => rfl)) (pe_ix ix_seq (pv 2) pe_int (fun _ _ => rfl)) (fun _ _ => rfl)) pe_int (fun _ _ => rfl)) (pv 1) (nomark _))))))
    (pss_one (ps_ret pe_bl))
    pss_nil)
    (pss_cons (ps_if (PW.pt (pw_or (pt_not (pt_val (pe_callB call_isiT (by rfl) W.n_isinstance (by decide +kernel) (pa_cons (pe_ix ix_seq (pv 2) pe_int (fun _ _ => rfl)) (pa_cons (pe_tup (pa_cons (pe_bltn (v := .ty "list") (by rfl) W.n_list (by decide +kernel) rfl) (pa_cons (pe_bltn (v := .ty "tuple") (by rfl) W.n_tuple (by decide +kernel) rfl) pa_nil))) pa_nil))))) (pw_or1 (pt_cmpR op_ne (pe_callB call_len_seq (by rfl) W.n_len (by decide +kernel) (pa_cons (pe_ix ix_seq (pv 2) pe_int (fun _ _ => rfl)) pa_nil)) (pe_callB call_len_seq (by rfl) W.n_len (by decide +kernel) (pa_cons (pe_ix ix_list (pv 0) pe_int (fun _ _ => rfl)) pa_nil)) (nomark _)))))
    (pss_one (ps_ret pe_bl))
    pss_nil)
    (pss_cons (ps_for PassesOwn.never rfl (pi_range1 (by rfl) W.n_range (pa_cons (pe_callB call_len_seq (by rfl) W.n_len (by decide +kernel) (pa_cons (pe_ix ix_list (pv 0) pe_int (fun _ _ => rfl)) pa_nil)) pa_nil)) (pg_name (i := 3) sc_law_log_row.nd rfl (.inl rfl))
    (pss_cons (ps_set (i := 4) sc_law_log_row.nd rfl (.inl rfl) (pe_ix ix_seq (pe_ix ix_seq (pv 2) pe_int (fun _ _ => rfl)) (pv 3) (fun _ _ => rfl)))
    (pss_cons (ps_if (PW.pt (pw_or (pt_not (pt_val (pe_callB call_isiT (by rfl) W.n_isinstance (by decide +kernel) (pa_cons (pv 4) (pa_cons (pe_tup (pa_cons (pe_bltn (v := .ty "list") (by rfl) W.n_list (by decide +kernel) rfl) (pa_cons (pe_bltn (v := .ty "tuple") (by rfl) W.n_tuple (by decide +kernel) rfl) pa_nil))) pa_nil))))) (pw_or (pt_cmpR op_ne (pe_callB call_len_seq (by rfl) W.n_len (by decide +kernel) (pa_cons (pv 4) pa_nil)) pe_int (nomark _)) (pw_or (pt_not (pt_val (pe_callB call_isi (by rfl) W.n_isinstance (by decide +kernel) (pa_cons (pe_ix ix_seq (pv 4) pe_int (fun _ _ => rfl)) (pa_cons (pe_bltn (v := .ty "str") (by rfl) W.n_str (by decide +kernel) rfl) pa_nil))))) (pw_or1 (pt_cmpR op_ne (pe_ix ix_seq (pv 4) pe_int (fun _ _ => rfl)) (pe_ix ix_list (pe_ix ix_list (pv 0) pe_int (fun _ _ => rfl)) (pv 3) (fun _ _ => rfl)) (nomark _)))))))
    (pss_one (ps_ret pe_bl))
    pss_nil)
    (pss_cons (ps_if (PW.pt (pw_or (pt_not (pt_val (pe_callB call_isiT (by rfl) W.n_isinstance (by decide +kernel) (pa_cons (pe_ix ix_seq (pv 4) pe_int (fun _ _ => rfl)) (pa_cons (pe_tup (pa_cons (pe_bltn (v := .ty "list") (by rfl) W.n_list (by decide +kernel) rfl) (pa_cons (pe_bltn (v := .ty "tuple") (by rfl) W.n_tuple (by decide +kernel) rfl) pa_nil))) pa_nil))))) (pw_or1 (pt_cmpR op_eq (pe_callB call_len_seq (by rfl) W.n_len (by decide +kernel) (pa_cons (pe_ix ix_seq (pv 4) pe_int (fun _ _ => rfl)) pa_nil)) pe_int (nomark _)))))
    (pss_one (ps_ret pe_bl))
    pss_nil)
    (pss_one (ps_if (pt_not (pt_val (pe_callB (cr_all rfl) (by rfl) W.n_all (by decide +kernel) (pa_cons (pe_lc (own := [("sign", 5)]) (g := gName 5) (tt := tYes) (te := (tAndV (tCall (sp1 K isNum) [] E0 (tCons (tVar 5) tNil)) (tOp (rI0 fun i j => .bl (decide (i < j))) (tVar 5) (tC (.int 2))))) rfl sc_law_log_row.nd (XN.pi_seq (pe_ix ix_seq (pv 4) pe_int (fun _ _ => rfl))) (blkOk_by (N := ["raw", "state", "thing", "k", "pair", "sign"]) (sc := defScope s_law_log_row) (by decide +kernel)) (fun _ _ _ _ _ => pg_name (i := 5) sc_law_log_row.nd rfl (Or.inl rfl)) (fun _ _ _ _ _ => pts_nil) (fun _ _ _ _ _ => (pe_and (pe_c C_law_is_number (hr.mono (by decide)) (pa_cons (pv 5) pa_nil)) (pe_one (pe_cmpR op_lt (pv 5) pe_int (nomark _)))))) pa_nil))))
    (pss_one (ps_ret pe_bl))
    pss_nil))))))
    (pss_one (ps_ret pe_bl)))))), ?_⟩
  obtain ⟨p1, p2, p3, p4, t0, t1, t2, ys, zs, t3, t4, t5, t6⟩ := id hR
  have zl : zs.length = r.mvs.length := by rw [t6.length, List.length_map]
  refine rd_isi2 rfl hd (kL d) (kT d) fun tp htp => ⟨_, rfl, ?_⟩
  have e1 : Ex H (upd H tp (.tup [.ty "list", .ty "tuple"])) := (Ex.refl H).new htp
  generalize upd H tp (.tup [.ty "list", .ty "tuple"]) = H1 at e1 ⊢
  rw [isSeq_lt]
  cases hsq : isSeq d with
  | false =>
    have z : rowB r n d = false := by
      unfold rowB
      split
      · rw [hsq]
        rfl
      · rfl
    rw [z] at k
    exact iteT (k H1 e1)
  | true =>
    refine iteF ?_
    obtain ⟨p, xs, rfl, hq, hds⟩ := den_kids hd hsq
    have hq1 := hq.imp e1.er.l e1.er.t
    refine ⟨_, rfl, p, _, rfl, hq1, rfl, _, rfl, ?_⟩
    rw [dec_i, hds.length]
    by_cases h3 : (kids d).length = 3
    · rw [decide_eq_true (by rw [h3]; rfl)]
      refine iteF ?_
      obtain ⟨a, m, wv, ek⟩ := three_of h3
      rw [ek] at hds
      cases hds with
      | cons da hds =>
      cases hds with
      | cons dm hds =>
      cases hds with
      | cons dw hds =>
      cases hds
      rename_i va vm vw
      have e0 : rowB r n d = (isStr n a && (mvAt r n m && isWaves r.lam wv)) := by
        unfold rowB
        rw [ek, hsq]
        show (true && _) = _
        rw [Bool.true_and]
      rw [e0] at k
      refine ⟨_, rfl, rd_ix (i := 0) hq1 rfl ?_⟩
      refine ⟨va, .ty "str", .type (tyN a), .type "str", isS a, rfl, .ty "str", (da.mono e1.kp).ty, kit_ty (kS a), _, rfl, ?_⟩
      cases da with
      | str z =>
        refine iteF ?_
        refine ⟨_, rfl, rd_ix (i := 0) hq1 rfl ⟨_, rfl, rfl, _, rfl, ?_⟩⟩
        rw [dec_s]
        by_cases hz : z = n
        · rw [decide_eq_true hz]
          have k1 : isStr n (.str z) = true := decide_eq_true hz
          rw [k1, Bool.true_and] at k
          refine iteF ?_
          refine ⟨_, rfl, rd_ix (i := 1) hq1 rfl ⟨vm, m, rfl, dm.mono e1.kp, fun H2 e2 => ⟨_, rfl, ?_⟩⟩⟩
          have e12 := e1.trans e2
          have hq2 := hq.imp e12.er.l e12.er.t
          cases hn : isNum m with
          | false =>
            have k2 : mvAt r n m = false := by
              cases m with
              | int i =>
                have hn : decide (0 ≤ i) = false := hn
                show (decide (0 ≤ i) && _) = false
                rw [hn, Bool.false_and]
              | _ => rfl
            rw [k2, Bool.false_and] at k
            exact iteT (k H2 e12)
          | true =>
            refine iteF ?_
            cases dm with
            | int i =>
              obtain ⟨j, rfl⟩ := Int.eq_ofNat_of_zero_le (of_decide_eq_true (show decide (0 ≤ i) = true from hn))
              have k2 : mvAt r n (.int (j : Nat)) = (match r.mvs[j]? with | some q => decide (q.1 = n) | none => false) := by
                show (decide (0 ≤ (j : Int)) && (match r.mvs[(j : Int).toNat]? with | some q => decide (q.1 = n) | none => false)) = _
                rw [decide_eq_true (by omega : (0 : Int) ≤ (j : Int)), Int.toNat_natCast]
                exact Bool.true_and _
              rw [k2] at k
              refine ⟨_, rfl, rd_ix (i := 1) hq2 rfl ⟨_, rfl, R, _, 3, .ref p4, rfl, rfl, SqL.of (e12 _ _ t0), rfl, p4, _, rfl, .inl (SqL.of (e12 _ _ t5)), _, _, rfl, rfl, _, rfl, ?_⟩⟩
              by_cases hj : j < r.mvs.length
              · rw [decide_eq_false (by rw [zl]; omega)]
                refine iteF ?_
                obtain ⟨vj, hvj, dvj⟩ := t6.get' (i := j) (d := stT r.mvs[j]) (by rw [List.getElem?_map, List.getElem?_eq_getElem hj]; rfl)
                obtain ⟨u, rfl, hu⟩ := den_st dvj
                refine ⟨_, rfl, R, _, 3, .ref p4, rfl, rfl, SqL.of (e12 _ _ t0), rfl, _, rfl, rd_ix (i := 1) hq2 rfl ⟨p4, _, _, .ref u, rfl, rfl, SqL.of (e12 _ _ t5), atI_nat hvj, u, _, 0, _, rfl, rfl, e12.er.t hu, rfl, _, rfl, rfl, _, rfl, ?_⟩⟩
                rw [List.getElem?_eq_getElem hj] at k
                have k : ∀ H', Ex H H' → Q (.bl (decide (r.mvs[j].1 = n) && isWaves r.lam wv)) H' := k
                rw [dec_s]
                by_cases hn2 : r.mvs[j].1 = n
                · rw [decide_eq_true hn2] at k ⊢
                  rw [Bool.true_and] at k
                  refine iteF ?_
                  refine ⟨_, rfl, rd_ix (i := 2) hq2 rfl ⟨by show 2 ≤ sizeLine; decide, fun tq htq => ?_⟩⟩
                  refine ⟨vw, tq, _, .type (tyN wv), _, isSeq wv, rfl, upd_same, cls_lt, ((dw.mono e12.kp).mono ((Ex.refl H2).new htq).kp).ty, kit_lt wv, _, rfl, ?_⟩
                  have e3 : Ex H2 (upd H2 tq (.tup [.ty "list", .ty "tuple"])) := (Ex.refl H2).new htq
                  generalize upd H2 tq (.tup [.ty "list", .ty "tuple"]) = H3 at e3 ⊢
                  have e13 := e12.trans e3
                  have hq3 := hq.imp e13.er.l e13.er.t
                  unfold isWaves at k
                  cases hws : isSeq wv with
                  | false =>
                    rw [hws] at k
                    exact iteT (k H3 e13)
                  | true =>
                    rw [hws, Bool.true_and] at k
                    refine iteF ?_
                    obtain ⟨pw, ws, rfl, hpw, hdw⟩ := den_kids dw hws
                    have el : (strsV r.lam).length = r.lam.length := strs_len _
                    refine ⟨_, rfl, rd_ix (i := 2) hq3 rfl ⟨pw, _, rfl, hpw.imp e13.er.l e13.er.t, _, rfl, R, _, 1, .ref p2, rfl, rfl, SqL.of (e13 _ _ t0), rfl, p2, _, rfl, .inl (SqL.of (e13 _ _ t2)), rfl, _, rfl, ?_⟩⟩
                    rw [dec_i, hdw.length, el]
                    by_cases hlen : (kids wv).length = r.lam.length
                    · rw [decide_eq_true (by rw [hlen] : ((kids wv).length : Int) = (r.lam.length : Int))]
                      rw [decide_eq_true hlen, Bool.true_and] at k
                      refine iteF ?_
                      have ml := ok.ml
                      refine ⟨_, rfl, R, _, 1, .ref p2, rfl, rfl, SqL.of (e13 _ _ t0), rfl, p2, _, rfl, .inl (SqL.of (e13 _ _ t2)), _, rfl, by rw [el]; omega, by rw [el]; omega, ?_⟩
                      have en : (((strsV r.lam).length : Int)).toNat = r.lam.length := by rw [el]; exact Int.toNat_natCast _
                      rw [en]
                      have bad : ∀ i, i < r.lam.length → pairB r.lam (kids wv) i = false → ((List.range r.lam.length).map (pairB r.lam (kids wv))).all id = false := fun i hi hb => by
                        refine Bool.eq_false_iff.mpr fun z => ?_
                        have := List.all_eq_true.mp z _ (List.mem_map.mpr ⟨i, List.mem_range.mpr hi, rfl⟩)
                        rw [hb] at this
                        cases this
                      refine for_range (fun i σ H' => Ex H3 H' ∧ (∀ j, j < i → pairB r.lam (kids wv) j = true) ∧ ∃ o3 o4, σ = [some (.ref R), some (.str n), some (.ref p), o3, o4, none]) ⟨Ex.refl _, fun j hj => by omega, _, _, rfl⟩ ?_ ?_
                      · rintro i σ H4 hi ⟨e4, hall, o3, o4, rfl⟩
                        have e0 : (0 : Int) + (i : Nat) = (i : Nat) := Int.zero_add _
                        rw [e0]
                        have e14 := e13.trans e4
                        have hq4 := hq.imp e14.er.l e14.er.t
                        have hw4 := hpw.imp e14.er.l e14.er.t
                        have hik : i < (kids wv).length := by omega
                        obtain ⟨vp, hvp, dvp⟩ := hdw.get' (i := i) (d := (kids wv)[i]) (List.getElem?_eq_getElem hik)
                        have hn : r.lam[i]? = some r.lam[i] := List.getElem?_eq_getElem hi
                        have epb : pairB r.lam (kids wv) i = pairOk r.lam[i] (kids wv)[i] := by
                          unfold pairB
                          rw [List.getElem?_eq_getElem hik, hn]
                        have hdpm : (kids wv)[i] ∈ kids wv := List.getElem_mem hik
                        generalize (kids wv)[i] = dp at dvp epb hdpm
                        have stop : ∀ {H' : Hp}, Ex H H' → pairOk r.lam[i] dp = false → Q (.bl false) H' := fun {H'} e hb => by
                          have z := k H' e
                          rw [bad i hi (by rw [epb]; exact hb)] at z
                          exact z
                        refine ⟨_, rfl, rd_ix (i := 2) hq4 rfl ⟨_, rfl, rd_ix (i := i) hw4 hvp ?_⟩⟩
                        have dvp4 := dvp.mono e14.kp
                        refine rd_isi2 rfl dvp4 (kL dp) (kT dp) fun tr htr => ⟨_, rfl, ?_⟩
                        have e5 : Ex H4 (upd H4 tr (.tup [.ty "list", .ty "tuple"])) := (Ex.refl H4).new htr
                        generalize upd H4 tr (.tup [.ty "list", .ty "tuple"]) = H5 at e5 ⊢
                        have e15 := e14.trans e5
                        have dvp5 := dvp4.mono e5.kp
                        rw [isSeq_lt]
                        cases hps : isSeq dp with
                        | false =>
                          refine iteT (stop e15 ?_)
                          unfold pairOk
                          split
                          · rw [hps]
                            rfl
                          · rfl
                        | true =>
                          refine iteF ?_
                          obtain ⟨pp, xp, rfl, hpp, hdp⟩ := den_kids dvp5 hps
                          refine ⟨_, rfl, pp, _, rfl, hpp, rfl, _, rfl, ?_⟩
                          rw [dec_i, hdp.length]
                          by_cases h2 : (kids dp).length = 2
                          · rw [decide_eq_true (by rw [h2]; rfl)]
                            refine iteF ?_
                            obtain ⟨a2, b2, ek2⟩ := two_of h2
                            have epo : pairOk r.lam[i] dp = (isStr r.lam[i] a2 && isWave b2) := by
                              unfold pairOk
                              rw [ek2, hps]
                              show (true && _) = _
                              rw [Bool.true_and]
                            rw [epo] at stop epb
                            have okb2 : shortT b2 := okt_short (Okt.kid (Okt.kid (Okt.kid ho (show wv ∈ kids d by rw [ek]; simp)) hdpm) (show b2 ∈ kids dp by rw [ek2]; simp))
                            rw [ek2] at hdp
                            cases hdp with
                            | cons da2 hdp =>
                            cases hdp with
                            | cons db2 hdp =>
                            cases hdp
                            rename_i va2 vb2
                            refine ⟨_, rfl, rd_ix (i := 0) hpp rfl ?_⟩
                            refine ⟨va2, .ty "str", .type (tyN a2), .type "str", isS a2, rfl, .ty "str", da2.ty, kit_ty (kS a2), _, rfl, ?_⟩
                            cases da2 with
                            | str z2 =>
                              refine iteF ?_
                              refine ⟨_, rfl, rd_ix (i := 0) hpp rfl ⟨_, rfl, R, _, 1, .ref p2, rfl, rfl, SqL.of (e15 _ _ t0), rfl, _, rfl, p2, _, _, .str r.lam[i], rfl, rfl, SqL.of (e15 _ _ t2), atI_nat (by unfold strsV; rw [List.getElem?_map, hn]; rfl), rfl, _, rfl, ?_⟩⟩
                              rw [dec_s]
                              by_cases hz2 : z2 = r.lam[i]
                              · rw [decide_eq_true hz2]
                                have k5 : isStr r.lam[i] (.str z2) = true := decide_eq_true hz2
                                rw [k5, Bool.true_and] at stop epb
                                refine iteF ?_
                                refine ⟨_, rfl, rd_ix (i := 1) hpp rfl ⟨by show 2 ≤ sizeLine; decide, fun ts hts => ?_⟩⟩
                                refine ⟨vb2, ts, _, .type (tyN b2), _, isSeq b2, rfl, upd_same, cls_lt, (db2.mono ((Ex.refl H5).new hts).kp).ty, kit_lt b2, _, rfl, ?_⟩
                                have e6 : Ex H5 (upd H5 ts (.tup [.ty "list", .ty "tuple"])) := (Ex.refl H5).new hts
                                generalize upd H5 ts (.tup [.ty "list", .ty "tuple"]) = H6 at e6 ⊢
                                have e16 := e15.trans e6
                                have hpp6 := hpp.imp e6.er.l e6.er.t
                                have db6 := db2.mono e6.kp
                                unfold isWave at stop epb
                                cases hbs : isSeq b2 with
                                | false =>
                                  refine iteT (stop e16 ?_)
                                  rw [hbs]
                                  rfl
                                | true =>
                                  rw [hbs, Bool.true_and] at stop epb
                                  refine iteF ?_
                                  obtain ⟨pb, xb, rfl, hpb, hdb⟩ := den_kids db6 hbs
                                  refine ⟨_, rfl, rd_ix (i := 1) hpp6 rfl ⟨pb, _, rfl, hpb, rfl, _, rfl, ?_⟩⟩
                                  rw [dec_i, hdb.length]
                                  cases hb0 : (kids b2).isEmpty with
                                  | true =>
                                    rw [List.isEmpty_iff.mp hb0]
                                    refine iteT (stop e16 ?_)
                                    rw [hb0]
                                    rfl
                                  | false =>
                                    rw [decide_eq_false (fun z => by
                                      have : (kids b2).length = 0 := by omega
                                      rw [List.eq_nil_of_length_eq_zero this] at hb0
                                      cases hb0)]
                                    rw [hb0] at stop epb
                                    refine iteF ?_
                                    unfold shortT at okb2
                                    refine ⟨_, rfl, rd_ix (i := 1) hpp6 rfl ⟨pb, rfl, walk_either hpb fun J G wk hG D hD => ?_⟩⟩
                                    refine lc_bools wk (atB isSign (kids b2)) (by rw [hdb.length, sizeLine_eq]; omega) hD hG ?_ ?_
                                    · rintro i2 x Ha Hb Q2 hi2 ea ⟨rfl, hx⟩ q
                                      obtain ⟨dx, hdx, hxd⟩ := hdb.get hx
                                      rw [atB_some hdx] at q
                                      refine ⟨rfl, _, rfl, x, dx, rfl, hxd.mono ea.kp, fun Hc ec => ⟨_, rfl, ?_⟩⟩
                                      have q1 := q Hc ec
                                      cases hnx : isNum dx with
                                      | false =>
                                        have : isSign dx = false := by
                                          cases dx with
                                          | int i3 =>
                                            have hnx : decide (0 ≤ i3) = false := hnx
                                            have hnx := of_decide_eq_false hnx
                                            show (decide (i3 = 0) || decide (i3 = 1)) = false
                                            rw [decide_eq_false (by omega), decide_eq_false (by omega)]
                                            rfl
                                          | _ => rfl
                                        rw [this] at q1
                                        exact iteF q1
                                      | true =>
                                        cases hxd with
                                        | int i3 =>
                                          have hnx := of_decide_eq_true (show decide (0 ≤ i3) = true from hnx)
                                          refine iteT ⟨_, rfl, _, _, rfl, rfl, ?_⟩
                                          have : isSign (.int i3) = decide (i3 < 2) := by
                                            show (decide (i3 = 0) || decide (i3 = 1)) = _
                                            by_cases y0 : i3 < 2
                                            · rw [decide_eq_true y0]
                                              by_cases y1 : i3 = 0
                                              · rw [decide_eq_true y1]
                                                rfl
                                              · rw [decide_eq_true (by omega : i3 = 1), Bool.or_true]
                                            · rw [decide_eq_false y0, decide_eq_false (by omega), decide_eq_false (by omega)]
                                              rfl
                                          rw [this] at q1
                                          exact q1
                                        | _ => cases hnx
                                    · intro H7 h7 e7
                                      refine ⟨D, _, rfl, SqL.of h7, _, rfl, ?_⟩
                                      rw [hdb.length, all_at]
                                      cases hal : (kids b2).all isSign with
                                      | false =>
                                        rw [hal] at stop
                                        exact iteT (stop (e16.trans e7) rfl)
                                      | true =>
                                        rw [hal] at epb
                                        refine iteF ⟨e4.trans (e5.trans (e6.trans e7)), fun j hj => ?_, _, _, rfl⟩
                                        by_cases hji : j < i
                                        · exact hall j hji
                                        · have : j = i := by omega
                                          rw [this]
                                          exact epb
                              · rw [decide_eq_false hz2]
                                refine iteT (stop e15 ?_)
                                rw [show isStr r.lam[i] (.str z2) = false from decide_eq_false hz2]
                                rfl
                            | _ =>
                              refine iteT (stop e15 ?_)
                              rfl
                          · rw [decide_eq_false (fun z => h2 (by omega))]
                            exact iteT (stop e15 (pair_len h2))
                      · rintro σ H4 ⟨e4, hall, o3, o4, rfl⟩
                        have : ((List.range r.lam.length).map (pairB r.lam (kids wv))).all id = true := by
                          rw [List.all_eq_true]
                          intro b hb
                          obtain ⟨i, hi, rfl⟩ := List.mem_map.mp hb
                          exact hall i (List.mem_range.mp hi)
                        rw [this] at k
                        exact k H4 (e13.trans e4)
                    · rw [decide_eq_false (fun z => hlen (by omega) : ¬ ((kids wv).length : Int) = (r.lam.length : Int))]
                      rw [decide_eq_false hlen, Bool.false_and] at k
                      exact iteT (k H3 e13)
                · rw [decide_eq_false hn2] at k ⊢
                  rw [Bool.false_and] at k
                  exact iteT (k H2 e12)
              · rw [decide_eq_true (by rw [zl]; omega)]
                rw [List.getElem?_eq_none (by omega)] at k
                exact iteT (k H2 e12)
            | _ => cases hn
        · rw [decide_eq_false hz]
          have k1 : isStr n (.str z) = false := decide_eq_false hz
          rw [k1, Bool.false_and] at k
          exact iteT (k H1 e1)
      | _ => exact iteT (k H1 e1)
    · rw [decide_eq_false (fun z => h3 (by omega))]
      rw [row_len h3] at k
      exact iteT (k H1 e1)
theorem c_law_log_row (W : Wld K mg) : Cal P w K mg base 2 "_law_log_row" ["raw", "state", "thing"] (spLRow K) := by
  obtain ⟨fd, F⟩ := W.c.def_ 50 rfl
  exact ⟨⟨fd, ok_law_log_row W F, F.bindsN fun _ _ _ _ _ _ us hl => match us, hl with | [_, _, _], _ => rfl⟩, W.g_law_log_row, F.kp⟩
end
end K77

set_option Elab.async false
set_option linter.all false
set_option maxRecDepth 100000
set_option maxHeartbeats 400000
namespace K77
open PySem PySem.Spec PyProof.Rows L2 DL
section
variable {P : Program} {w : World} {K : PySem.W.Frag} {mg : Str → Option Value} {base : Heap} {f : Addr} {fd : FuncData}
def spLIs (K : PySem.W.Frag) : Sp := fun vs H Q _ => ∃ (R : Addr) (v : V) (r : Raw) (d : Tr), vs = [.ref R, v] ∧ RawAt K H R r ∧ RawOk r ∧ Den K true H v d ∧ (isSeq d = true → Okt 5 d ∧ LogSc d) ∧ ∀ H', Ex H H' → Q (.bl (isLogT r d)) H'
theorem sc_law_is_log : FnScope ["raw", "thing", "name", "row"] ["raw", "thing"] (defScope s_law_is_log) := ⟨rfl, rfl, rfl, by decide +kernel, rfl, by decide +kernel, by decide +kernel⟩
theorem ok_law_is_log (W : Wld K mg) (F : FnP K "_law_is_log" s_law_is_log f fd) : FnOk P w K mg base CX0 3 f fd ["raw", "thing"] (spLIs K) := by
  have C_law_log_row : Cal P w K mg base 2 "_law_log_row" ["raw", "state", "thing"] (spLRow K) := c_law_log_row W
  refine F.ok sc_law_is_log (fun vs H Q E h => ?_) (fun cdv A outer s H vs Q E hr h => ?_)
  · obtain ⟨R, v, r, d, rfl, _⟩ := h
    rfl
  obtain ⟨R, v, r, d, rfl, hR, ok, hd, ho, k⟩ := h
  refine ⟨_, PSs.nox (pss_cons (ps_if (pt_not (pt_val (pe_callB call_isiT (by rfl) W.n_isinstance (by decide +kernel) (pa_cons (pv 1) (pa_cons (pe_tup (pa_cons (pe_bltn (v := .ty "list") (by rfl) W.n_list (by decide +kernel) rfl) (pa_cons (pe_bltn (v := .ty "tuple") (by rfl) W.n_tuple (by decide +kernel) rfl) pa_nil))) pa_nil)))))
    (pss_one (ps_ret pe_bl))
    pss_nil)
    (pss_cons (ps_set (i := 2) sc_law_is_log.nd rfl (.inl rfl) (pe_ix ix_tup (pe_ix ix_list (pe_ix ix_list (pv 0) pe_int (fun _ _ => rfl)) pe_int (fun _ _ => rfl)) pe_int (fun _ _ => rfl)))
    (pss_cons (ps_for PassesOwn.never rfl (XN.pi_seq (pv 1)) (pg_name (i := 3) sc_law_is_log.nd rfl (.inl rfl))
    (pss_cons (ps_if (pt_not (pt_val (pe_c C_law_log_row (hr.mono (by decide)) (pa_cons (pv 0) (pa_cons (pv 2) (pa_cons (pv 3) pa_nil))))))
    (pss_one (ps_ret pe_bl))
    pss_nil)
    (pss_one (ps_set (i := 2) sc_law_is_log.nd rfl (.inl rfl) (pe_ix ix_tup (pe_ix ix_list (pe_ix ix_list (pv 0) pe_int (fun _ _ => rfl)) (pe_ix ix_seq (pv 3) pe_int (fun _ _ => rfl)) (fun _ _ => rfl)) pe_int (fun _ _ => rfl))))))
    (pss_one (ps_ret pe_bl))))), ?_⟩
  obtain ⟨p1, p2, p3, p4, t0, t1, t2, xs, zs, t3, t4, t5, t6⟩ := id hR
  refine rd_isi2 rfl hd (kL d) (kT d) fun tp htp => ⟨_, rfl, ?_⟩
  have e1 : Ex H (upd H tp (.tup [.ty "list", .ty "tuple"])) := (Ex.refl H).new htp
  generalize upd H tp (.tup [.ty "list", .ty "tuple"]) = H1 at e1 ⊢
  rw [isSeq_lt]
  unfold isLogT at k
  cases hs : isSeq d with
  | false =>
    rw [hs] at k
    exact iteT (k H1 e1)
  | true =>
    refine iteF ?_
    rw [hs, Bool.true_and] at k
    obtain ⟨o1, o2⟩ := ho hs
    obtain ⟨p, ys, rfl, hq, hds⟩ := den_kids hd hs
    obtain ⟨s0, ss, es⟩ : ∃ s0 ss, r.sts = s0 :: ss := by
      cases h : r.sts with
      | nil => exact absurd h ok.s0
      | cons a b => exact ⟨a, b, rfl⟩
    obtain ⟨vz, hvz, dvz⟩ := t4.get' (i := 0) (d := stT s0) (by rw [es]; rfl)
    obtain ⟨u, rfl, hu⟩ := den_st dvz
    refine ⟨_, rfl, R, _, 2, .ref p3, rfl, rfl, SqL.of (e1 _ _ t0), rfl, p3, _, 0, .ref u, rfl, rfl, SqL.of (e1 _ _ t3), atI_nat (j := 0) hvz, u, _, 0, _, rfl, rfl, e1.er.t hu, rfl, ?_⟩
    have es0 : st0 r = s0.1 := by
      unfold st0
      rw [es]
      rfl
    rw [es0] at k
    refine ⟨_, rfl, p, rfl, walk_either (hq.imp e1.er.l e1.er.t) fun J G wk hG => ?_⟩
    refine for_it wk (fun i σ H' => Ex H1 H' ∧ ∃ n o3, σ = [some (.ref R), some (.ref p), some (.str n), o3] ∧ rowsB r s0.1 (kids d) = rowsB r n ((kids d).drop i)) ⟨Ex.refl _, _, _, rfl, by rw [List.drop_zero]⟩ (fun i σ H' _ h => hG H' h.1) ?_ ?_
    · rintro i y σ H3 H4 hi ⟨e3, n, o3, rfl, hn⟩ ⟨rfl, hy⟩
      obtain ⟨dr, hdr, hyd⟩ := hds.get hy
      have hrm := List.mem_of_getElem? hdr
      have e13 := e1.trans e3
      have hil : i < (kids d).length := (List.getElem?_eq_some_iff.mp hdr).1
      have hdrop : (kids d).drop i = dr :: (kids d).drop (i + 1) := by
        rw [List.drop_eq_getElem_cons hil]
        have := (List.getElem?_eq_some_iff.mp hdr).2
        rw [this]
      rw [hdrop] at hn
      have hn : rowsB r s0.1 (kids d) = (rowB r n dr && rowsB r (nextOf r dr) ((kids d).drop (i + 1))) := hn
      refine ⟨_, rfl, _, rfl, _, rfl, R, n, y, r, dr, rfl, hR.mono e13, ok, hyd.mono e13.kp, Okt.kid o1 hrm, o2 dr hrm, fun H5 e5 => ⟨_, rfl, ?_⟩⟩
      have e15 := e13.trans e5
      cases hb : rowB r n dr with
      | false =>
        rw [hb, Bool.false_and] at hn
        rw [hn] at k
        exact iteT (k H5 e15)
      | true =>
        refine iteF ?_
        rw [hb, Bool.true_and] at hn
        obtain ⟨z, j, q, wv, ek, hsd, _, hq2, hq3, _, hnx⟩ := row_parts hb
        obtain ⟨pr, xa, xm, xw, rfl, hpr, da, dm, dw⟩ := den_three (hyd.mono e15.kp) hsd ek
        cases dm
        obtain ⟨vw, hvw, dvw⟩ := t6.get' (i := j) (d := stT q) (by rw [List.getElem?_map, hq2]; rfl)
        obtain ⟨uw, rfl, huw⟩ := den_st dvw
        refine ⟨_, rfl, R, _, 3, .ref p4, rfl, rfl, SqL.of (e15 _ _ t0), rfl, _, rfl, rd_ix (i := 1) hpr rfl ?_⟩
        refine ⟨p4, _, _, .ref uw, rfl, rfl, SqL.of (e15 _ _ t5), atI_nat hvw, ?_⟩
        refine ⟨uw, _, 2, _, rfl, rfl, e15.er.t huw, rfl, ?_⟩
        refine ⟨e3.trans e5, q.2.2, _, rfl, ?_⟩
        rw [hn, hnx]
    · rintro σ H3 ⟨e3, n, o3, rfl, hn⟩
      rw [hds.length, List.drop_length] at hn
      rw [hn] at k
      exact k H3 (e1.trans e3)
theorem c_law_is_log (W : Wld K mg) : Cal P w K mg base 3 "_law_is_log" ["raw", "thing"] (spLIs K) := by
  obtain ⟨fd, F⟩ := W.c.def_ 51 rfl
  exact ⟨⟨fd, ok_law_is_log W F, F.bindsN fun _ _ _ _ _ _ us hl => match us, hl with | [_, _], _ => rfl⟩, W.g_law_is_log, F.kp⟩
/-- if ..: found.append((at, name, word)) -/
theorem p_flt {t : TT} {y : Str} {D : Ends} {σ : L2.St} {H : Hp} {p : Addr} {zs : List V} {ds : List Flt} {at_ : Nat} {n : Str} (c : Bool) (h2 : σ[2]? = some (some (.ref p))) (h3 : σ[3]? = some (some (.int (at_ : Nat)))) (h8 : σ[8]? = some (some (.str n))) (hp : H p = some (.lst zs)) (hl : ds.length < 10000000)
    (hz : Dens K true (wo p H) zs (ds.map fltT)) (ht : ∀ Q : Bool → Hp → Prop, (∀ H1, Ex H H1 → Q c H1) → t σ H Q)
    (h : ∀ zs' H', (∀ b o, b ≠ p → H b = some o → H' b = some o) → H' p = some (.lst zs') → Dens K true (wo p H') zs' ((ds ++ (ifL c y).map fun w => ((at_, n, w) : Flt)).map fltT) → D.nx σ H') :
    tIfS t (tDrop (tBM K "list" rAppend (tVar 2) (tCons (tTup (tCons (tVar 3) (tCons (tVar 8) (tCons (tC (.str y)) tNil)))) tNil))) tNext D σ H := by
  refine ht _ fun H1 e1 => ?_
  have hp1 := e1 _ _ hp
  have zl : zs.length = ds.length := by rw [hz.length, List.length_map]
  cases c with
  | true =>
    refine iteT ⟨_, h2, .inl ⟨rfl, _, SqL.of hp1⟩, _, h3, _, h8, by show 3 ≤ sizeLine; decide, fun u hu => ?_⟩
    have e2 : Ex H1 (upd H1 u (.tup [.int (at_ : Nat), .str n, .str y])) := (Ex.refl H1).new hu
    have npu : p ≠ u := ne_of_none hp1 hu
    refine ⟨p, zs, _, rfl, rfl, e2 _ _ hp1, by rw [zl, sizeLine_eq]; omega, ?_⟩
    refine h (zs ++ [.ref u]) _ (fun b o nb hb => by rw [upd_ne nb]; exact e2 _ _ (e1 b o hb)) upd_same ?_
    rw [show ifL true y = [y] from rfl, List.map_append]
    refine dens_snoc (d := fltT (at_, n, y)) (hz.mono (wo_ex fun b o nb hb => by rw [upd_ne nb]; exact e2 _ _ (e1 b o hb)).kp) (.tup (SqT.of (hid_some.mpr ⟨npu.symm, ?_⟩)) (.cons (.int _) (.cons (.str _) (.cons (.str _) .nil))))
    rw [upd_ne npu.symm, upd_same]
  | false =>
    refine iteF (h zs _ (fun b o _ hb => e1 b o hb) hp1 ?_)
    rw [show ifL false y = [] from rfl, List.map_nil, List.append_nil]
    exact hz.mono (wo_ex fun b o _ hb => e1 b o hb).kp
theorem p_fltS {t : TT} {y : Str} {u : TS} {D : Ends} {σ : L2.St} {H : Hp} {p : Addr} {zs : List V} {ds : List Flt} {at_ : Nat} {n : Str} (c : Bool) (h2 : σ[2]? = some (some (.ref p))) (h3 : σ[3]? = some (some (.int (at_ : Nat)))) (h8 : σ[8]? = some (some (.str n))) (hp : H p = some (.lst zs)) (hl : ds.length < 10000000)
    (hz : Dens K true (wo p H) zs (ds.map fltT)) (ht : ∀ Q : Bool → Hp → Prop, (∀ H1, Ex H H1 → Q c H1) → t σ H Q)
    (h : ∀ zs' H', (∀ b o, b ≠ p → H b = some o → H' b = some o) → H' p = some (.lst zs') → Dens K true (wo p H') zs' ((ds ++ (ifL c y).map fun w => ((at_, n, w) : Flt)).map fltT) → u D σ H') :
    tSeq (tIfS t (tDrop (tBM K "list" rAppend (tVar 2) (tCons (tTup (tCons (tVar 3) (tCons (tVar 8) (tCons (tC (.str y)) tNil)))) tNil))) tNext) u D σ H := p_flt (D := { D with nx := u D }) c h2 h3 h8 hp hl hz ht h
def spLFaults (K : PySem.W.Frag) : Sp := fun vs H Q _ => ∃ (R : Addr) (v : V) (r : Raw) (d : Tr), vs = [.ref R, v] ∧ RawAt K H R r ∧ RawOk r ∧ Den K true H v d ∧ Okt 5 d ∧ isLogT r d = true ∧
  ∀ F ys H', Ex H H' → H F = none → H' F = some (.lst ys) → Dens K true (wo F H') ys ((logF r d).map fltT) → Q (.ref F) H'
end
end K77

set_option Elab.async false
set_option linter.all false
set_option maxRecDepth 100000
set_option maxHeartbeats 400000
namespace K77
open PySem PySem.Spec PyProof.Rows L2 DL
/-! ### a drawn log -/
abbrev Wv : Type := Str × List Nat
abbrev LRow : Type := Str × Nat × List Wv
def wvT (x : Wv) : Tr := .tup [.str x.1, .lst (x.2.map fun k => .int (k : Nat))]
def lrT (x : LRow) : Tr := .tup [.str x.1, .int (x.2.1 : Nat), .lst (x.2.2.map wvT)]
def logT (l : List LRow) : Tr := .lst (l.map lrT)
theorem dens_intsI {K : PySem.W.Frag} {b : Bool} {H : Hp} : ∀ l : List Nat, Dens K b H (intsV l) (l.map fun k => Tr.int (k : Nat))
  | [] => .nil
  | x :: l => .cons (.int (x : Nat)) (dens_intsI l)
theorem rep_one {α : Type} (x : α) : ∀ k : Nat, (List.replicate k [x]).flatten = List.replicate k x
  | 0 => rfl
  | k + 1 => by
    rw [List.replicate_succ, List.flatten_cons, rep_one x k]
    rfl
theorem ints_rep (b k : Nat) : List.replicate k (V.int (b : Nat)) = intsV (List.replicate k b) := by
  unfold intsV
  rw [List.map_replicate]
theorem ints_app (l m : List Nat) : intsV l ++ intsV m = intsV (l ++ m) := by unfold intsV; rw [List.map_append]
theorem bit_int {c : Nat} (h : c = 48 ∨ c = 49) : ∃ b : Nat, b ≤ 1 ∧ PySem.intText? ⟨#[c]⟩ = some ((b : Nat) : Int) := by
  rcases h with rfl | rfl
  · exact ⟨0, by decide, by decide +kernel⟩
  · exact ⟨1, by decide, by decide +kernel⟩
theorem hx_fresh {X : Addr → Prop} {H0 H : Hp} {p : Addr} {o : HO} (e : Ex (hid X H0) (hid X H)) (hp : H0 p = none) : Ex (hid X H0) (hid X (upd H p o)) := fun b u q => by
  obtain ⟨h1, h2⟩ := hid_some.mp (e b u q)
  exact hid_some.mpr ⟨h1, by rw [upd_ne (ne_of_none (hid_some.mp q).2 hp)]; exact h2⟩
/-- one way on from both branches of an if -/
theorem p_ifkey {t : TT} {A u : TS} {D : Ends} {σ : L2.St} {H : Hp} (F : L2.St → Hp → Prop) (main : ∀ Nx : L2.St → Hp → Prop, (∀ σ' H', F σ' H' → Nx σ' H') → tIfS t A tNext { D with nx := Nx } σ H) (tail : ∀ σ' H', F σ' H' → u D σ' H') : tSeq (tIfS t A tNext) u D σ H := main (u D) tail
theorem light_cell {r : Raw} (z : Small r) {n : Str} {s : St3} (h : stOf r.sts n = some s) {i : Nat} (hi : i < r.lam.length) : ∃ c, atI s.2.2.cps.toList (i : Nat) = some c ∧ (c = 48 ∨ c = 49) ∧ s.2.2.length ≤ 1000 := by
  have hm : s ∈ r.sts := List.mem_of_find?_eq_some h
  obtain ⟨h1, h2⟩ := z.c s hm
  obtain ⟨c, c1, c2⟩ := ch_at (x := s.2.2) (i := i) (by rw [h1]; exact hi)
  have z2 := z.m
  refine ⟨c, c1, h2 c ?_, by omega⟩
  have hz : i < s.2.2.cps.size := by
    show i < s.2.2.length
    rw [h1]
    exact hi
  have e : chS s.2.2 i = ⟨#[s.2.2.cps[i]]⟩ := by
    unfold chS
    rw [Array.getElem?_eq_getElem hz]
  rw [e] at c2
  have e2 : s.2.2.cps[i] = c := by
    have := congrArg (fun z : Str => z.cps[0]?) c2
    simpa using this
  rw [← e2]
  exact Array.getElem_mem_toList hz
/-- waves that fit the lamps -/
def WvOk (r : Raw) (ws : List Wv) : Prop := ∀ (j : Nat) (y : Wv), ws[j]? = some y → r.lam[j]? = some y.1 ∧ y.2 ≠ [] ∧ ∀ b ∈ y.2, b ≤ 1
def RowG (r : Raw) (x : LRow) : Prop := (∃ q, r.mvs[x.2.1]? = some q ∧ x.1 = q.1) ∧ x.2.2.length = r.lam.length ∧ WvOk r x.2.2
def nextK (r : Raw) (k : Nat) : Str := ((r.mvs[k]?).map fun q => q.2.2).getD ("" : Str)
def GoodAll (r : Raw) : Str → List LRow → Prop
  | _, [] => True
  | n, x :: t => RowG r x ∧ x.1 = n ∧ GoodAll r (nextK r x.2.1) t
def ShOk (sh : List Nat) : Prop := sh ≠ [] ∧ ∀ b ∈ sh, b ≤ 1
theorem good_walk {r : Raw} : ∀ {l : List LRow} {ws : List Nat} {n : Str}, (∀ x ∈ l, RowG r x) → l.map (fun x => x.2.1) = ws → WalkOk r n ws → GoodAll r n l
  | [], _, _, _, _, _ => True.intro
  | x :: t, [], _, _, h2, _ => by cases h2
  | x :: t, k :: ws, n, h1, h2, ⟨q, e1, e2, e3⟩ => by
    have hx := h1 x List.mem_cons_self
    injection h2 with h3 h4
    have h3 : x.2.1 = k := h3
    obtain ⟨q', z1, z2⟩ := hx.1
    have z1 : r.mvs[x.2.1]? = some q' := z1
    rw [h3, e1] at z1
    obtain rfl := Option.some.inj z1
    refine ⟨hx, z2.trans e2, good_walk (ws := ws) (fun y hy => h1 y (List.mem_cons_of_mem _ hy)) h4 ?_⟩
    unfold nextK
    rw [h3, e1]
    exact e3
theorem sh_rep {n1 n2 z1 z2 : Nat} (h1 : z1 ≤ 1) (h2 : z2 ≤ 1) : ShOk (List.replicate (n1 + 1) z1 ++ List.replicate (n2 + 1) z2) := by
  refine ⟨fun z => ?_, fun b hb => ?_⟩
  · have := congrArg List.length z
    rw [List.length_append, List.length_replicate] at this
    simp at this
  · rcases List.mem_append.mp hb with h | h
    · rw [(List.mem_replicate.mp h).2]; exact h1
    · rw [(List.mem_replicate.mp h).2]; exact h2
theorem sh_ins {sh : List Nat} {n5 : Nat} (h : ShOk sh) (h5 : n5 ≤ 1) (n4 : Nat) : ShOk (sh.take n4 ++ [n5] ++ sh.drop n4) := by
  refine ⟨fun z => ?_, fun b hb => ?_⟩
  · have := congrArg List.length z
    simp at this
  · rcases List.mem_append.mp hb with h' | h'
    · rcases List.mem_append.mp h' with h'' | h''
      · exact h.2 b (List.mem_of_mem_take h'')
      · rw [List.mem_singleton.mp h'']; exact h5
    · exact h.2 b (List.mem_of_mem_drop h')
theorem sh_one {sh : List Nat} (h : ShOk sh) : ShOk (sh.take 1) := by
  obtain ⟨h1, h2⟩ := h
  cases sh with
  | nil => exact absurd rfl h1
  | cons a r => exact ⟨(fun z => by cases z), fun b hb => h2 b (List.mem_of_mem_take hb)⟩
theorem wv_snoc {r : Raw} {m : List Wv} {y : Wv} (h : WvOk r m) (h1 : r.lam[m.length]? = some y.1) (h2 : ShOk y.2) : WvOk r (m ++ [y]) := fun j z hz => by
  by_cases hj : j < m.length
  · rw [List.getElem?_append_left hj] at hz
    exact h j z hz
  · have : j = m.length := by
      have := (List.getElem?_eq_some_iff.mp hz).1
      simp at this
      omega
    subst this
    have : y = z := by simpa using hz
    subst this
    exact ⟨h1, h2.1, h2.2⟩
section
variable {P : Program} {w : World} {K : PySem.W.Frag} {mg : Str → Option Value} {base : Heap} {f : Addr} {fd : FuncData}
def LogOk (r : Raw) (l : List LRow) : Prop := l.length ≤ 6 ∧ ∀ x ∈ l, x.2.2.length = r.lam.length ∧ ∀ y ∈ x.2.2, y.2.length ≤ 8
def spAny (K : PySem.W.Frag) : Sp := fun vs H Q _ => ∃ (a c R W0 : Addr) (N : Nat) (r : Raw) (ws : List Nat), vs = [.ref a, .ref R, .ref W0] ∧ StAt H a c N ∧ N + 1000 < 1099511627776 ∧ RawAt K (hs a c H) R r ∧ RawOk r ∧ Small r ∧ SqL K (hs a c H) W0 (intsV ws) ∧ ws.length ≤ 6 ∧ (∀ k ∈ ws, k < r.mvs.length) ∧ WalkOk r (st0 r) ws ∧
  ∀ D l H', StAt H' a c (N + 1000) → Bar a c H H' → H D = none → Den K true (hs a c H') (.ref D) (logT l) → LogOk r l → GoodAll r (st0 r) l → Q (.ref D) H'
theorem sc_law_any_log : FnScope ["state", "raw", "walk", "log", "move", "name", "cell", "following", "before", "behind", "waves", "k", "shown"] ["state", "raw", "walk"] (defScope s_law_any_log) := ⟨rfl, rfl, rfl, by decide +kernel, rfl, by decide +kernel, by decide +kernel⟩
theorem ok_law_any_log (W : Wld K mg) (F : FnP K "_law_any_log" s_law_any_log f fd) : FnOk P w K mg base CX0 3 f fd ["state", "raw", "walk"] (spAny K) := by
  have C_law_pick : Cal P w K mg base 2 "_law_pick" ["state", "many"] spPick := c_law_pick W
  have C_law_state : Cal P w K mg base 1 "_law_state" ["raw", "name"] (spLState K) := c_law_state W
  refine F.ok sc_law_any_log (fun vs H Q E h => ?_) (fun cdv A outer s H vs Q E hr h => ?_)
  · obtain ⟨a, c, R, W0, N, r, ws, rfl, _⟩ := h
    rfl
  obtain ⟨a, c, R, W0, N, r, ws, rfl, hS, hN, hR, ok, sm, hW, hwl, hwx, hwk, k⟩ := h
  refine ⟨_, PSs.nox (pss_cons (ps_set (i := 3) sc_law_any_log.nd rfl (.inl rfl) (pe_lst pa_nil))
    (pss_cons (ps_for PassesOwn.never rfl (pi_list (pv 2)) (pg_name (i := 4) sc_law_any_log.nd rfl (.inl rfl))
    (pss_cons (ps_asg (pe_ix ix_list (pe_ix ix_list (pv 1) pe_int (fun _ _ => rfl)) (pv 4) (fun _ _ => rfl)) (pg_tup rfl (pgs_cons (pg_name (i := 5) sc_law_any_log.nd rfl (.inl rfl)) (pgs_cons (pg_name (i := 6) sc_law_any_log.nd rfl (.inl rfl)) (pgs_cons (pg_name (i := 7) sc_law_any_log.nd rfl (.inl rfl)) pgs_nil)))))
    (pss_cons (ps_par3 (i := 8) (j := 9) (l := 10) rfl sc_law_any_log.nd rfl rfl rfl (by decide) (by decide) (by decide) rfl rfl rfl (pa_cons (pe_ix ix_tup (pe_c C_law_state (hr.mono (by decide)) (pa_cons (pv 1) (pa_cons (pv 5) pa_nil))) pe_int (fun _ _ => rfl)) (pa_cons (pe_ix ix_tup (pe_c C_law_state (hr.mono (by decide)) (pa_cons (pv 1) (pa_cons (pv 7) pa_nil))) pe_int (fun _ _ => rfl)) (pa_cons (pe_lst pa_nil) pa_nil))) (by rfl))
    (pss_cons (ps_for PassesOwn.never rfl (pi_range1 (by rfl) W.n_range (pa_cons (pe_callB call_len_seq (by rfl) W.n_len (by decide +kernel) (pa_cons (pe_ix ix_list (pv 1) pe_int (fun _ _ => rfl)) pa_nil)) pa_nil)) (pg_name (i := 11) sc_law_any_log.nd rfl (.inl rfl))
    (pss_cons (ps_set (i := 12) sc_law_any_log.nd rfl (.inl rfl) (pe_op op_cat (pe_op op_rep (pe_lst (pa_cons (pe_callTy call_int_str (by rfl) W.n_int (by decide +kernel) (pa_cons (pe_ix ix_str (pv 8) (pv 11) (fun _ _ => rfl)) pa_nil)) pa_nil)) (pe_op op_add pe_int (pe_c C_law_pick (hr.mono (by decide)) (pa_cons (pv 0) (pa_cons pe_int pa_nil))))) (pe_op op_rep (pe_lst (pa_cons (pe_callTy call_int_str (by rfl) W.n_int (by decide +kernel) (pa_cons (pe_ix ix_str (pv 9) (pv 11) (fun _ _ => rfl)) pa_nil)) pa_nil)) (pe_op op_add pe_int (pe_c C_law_pick (hr.mono (by decide)) (pa_cons (pv 0) (pa_cons pe_int pa_nil)))))))
    (pss_cons (ps_if (pt_cmpR op_eq (pe_c C_law_pick (hr.mono (by decide)) (pa_cons (pv 0) (pa_cons pe_int pa_nil))) pe_int (nomark _))
    (pss_one (ps_expr (pe_bm PySem.F.plainAttrs_list PySem.F.slot_list_insert PySem.F.type_list_insert mt_insert (pv 12) (pa_cons (pe_c C_law_pick (hr.mono (by decide)) (pa_cons (pv 0) (pa_cons (pe_op op_add (pe_callB call_len_seq (by rfl) W.n_len (by decide +kernel) (pa_cons (pv 12) pa_nil)) pe_int) pa_nil))) (pa_cons (pe_c C_law_pick (hr.mono (by decide)) (pa_cons (pv 0) (pa_cons pe_int pa_nil))) pa_nil)))))
    pss_nil)
    (pss_cons (ps_if (pt_cmpR op_eq (pe_c C_law_pick (hr.mono (by decide)) (pa_cons (pv 0) (pa_cons pe_int pa_nil))) pe_int (nomark _))
    (pss_one (ps_set (i := 12) sc_law_any_log.nd rfl (.inl rfl) (pe_slice sl_list (pv 12) po_none (po_some pe_int))))
    pss_nil)
    (pss_one (ps_expr (pe_bm PySem.F.plainAttrs_list PySem.F.slot_list_append PySem.F.type_list_append mt_append (pv 10) (pa_cons (pe_tup (pa_cons (pe_ix ix_list (pe_ix ix_list (pv 1) pe_int (fun _ _ => rfl)) (pv 11) (fun _ _ => rfl)) (pa_cons (pv 12) pa_nil))) pa_nil))))))))
    (pss_one (ps_expr (pe_bm PySem.F.plainAttrs_list PySem.F.slot_list_append PySem.F.type_list_append mt_append (pv 3) (pa_cons (pe_tup (pa_cons (pv 5) (pa_cons (pv 4) (pa_cons (pv 10) pa_nil)))) pa_nil))))))))
    (pss_one (ps_ret (pv 3))))), ?_⟩
  obtain ⟨p1, p2, p3, p4, t0, t1, t2, xs, zs, t3, t4, t5, t6⟩ := id hR
  have sl := ok.sl
  have vl := ok.vl
  have lm := sm.m
  refine XL.p_lst ⟨by show 0 ≤ sizeLine; omega, fun D hD => ?_⟩
  have E1 : Ex H (upd H D (.lst [])) := (Ex.refl H).new hD
  obtain ⟨Da, Dc⟩ := hS.fresh hD
  have S1 := hS.mono E1
  have h1 : upd H D (.lst []) D = some (.lst []) := upd_same
  generalize upd H D (.lst []) = H1 at E1 h1 S1 ⊢
  refine ⟨_, rfl, W0, rfl, ⟨_, (hs_ex.er.l (((hs_of E1).er.l hW)))⟩, ?_⟩
  have Xa : a = a ∨ a = c ∨ a = D := .inl rfl
  have Xc : c = a ∨ c = c ∨ c = D := .inr (.inl rfl)
  have XD : D = a ∨ D = c ∨ D = D := .inr (.inr rfl)
  have toX : Ex (hs a c H) (hid (fun b => b = a ∨ b = c ∨ b = D) H1) := fun b o q => by
    obtain ⟨q1, q2, q3⟩ := hs_some q
    have nb : b ≠ D := ne_of_none q3 hD
    exact hid_some.mpr ⟨fun z => z.elim q1 fun z => z.elim q2 nb, E1 b o q3⟩
  refine for_it (walk_list (xs := intsV ws)) (fun i σ H' => StAt H' a c (N + i * 24) ∧ Ex (hid (fun b => b = a ∨ b = c ∨ b = D) H1) (hid (fun b => b = a ∨ b = c ∨ b = D) H') ∧
    (∃ l ys, H' D = some (.lst ys) ∧ Dens K true (hid (fun b => b = a ∨ b = c ∨ b = D) H') ys (l.map lrT) ∧ l.length = i ∧ (∀ x ∈ l, x.2.2.length = r.lam.length ∧ ∀ y ∈ x.2.2, y.2.length ≤ 8) ∧ (∀ x ∈ l, RowG r x) ∧ l.map (fun x => x.2.1) = ws.take i) ∧
    ∃ o4 o5 o6 o7 o8 o9 o10 o11 o12, σ = [some (.ref a), some (.ref R), some (.ref W0), some (.ref D), o4, o5, o6, o7, o8, o9, o10, o11, o12])
    ⟨S1.le (by omega), Ex.refl _, ⟨[], [], h1, .nil, rfl, (fun x hx => by cases hx), (fun x hx => by cases hx), by rw [List.take_zero]; rfl⟩, _, _, _, _, _, _, _, _, _, rfl⟩ (fun i σ H' _ h => hid_ex.er.l ((toX.trans h.2.1).er.l hW)) ?_ ?_
  · rintro i v σ H2 H2' hi ⟨S2, E2, ⟨l, ys, h2, hds, hll, hlx, hlg, hlm⟩, o4, o5, o6, o7, o8, o9, o10, o11, o12, rfl⟩ ⟨rfl, hv⟩
    rw [ints_len] at hi
    have hj : ws[i]? = some ws[i] := List.getElem?_eq_getElem hi
    rw [ints_get hi] at hv
    obtain rfl := Option.some.inj hv
    have hjm := hwx _ (List.mem_of_getElem? hj)
    generalize ws[i] = j at hjm hj
    have T2 : Ex (hs a c H) H2' := (toX.trans E2).trans hid_ex
    have hqj : r.mvs[j]? = some r.mvs[j] := List.getElem?_eq_getElem hjm
    obtain ⟨vm, hvm, dvm⟩ := t6.get' (i := j) (d := stT r.mvs[j]) (by rw [List.getElem?_map, hqj]; rfl)
    have hn1 := (ok.mo.1 _ (List.mem_of_getElem? hqj)).1
    have hn2 := (ok.mo.2 j _ hqj).2.1
    generalize r.mvs[j] = q at dvm hn1 hn2 hqj
    obtain ⟨um, rfl, hum⟩ := den_st dvm
    refine ⟨_, rfl, R, _, 3, .ref p4, rfl, rfl, SqL.of (T2 _ _ t0), rfl, _, rfl, p4, _, _, .ref um, rfl, rfl, SqL.of (T2 _ _ t5), atI_nat hvm, um, _, rfl, T2.er.t hum, rfl, _, _, rfl, _, _, rfl, _, _, rfl, rfl, ?_⟩
    have rs : ∀ {H' : Hp}, Ex (hs a c H) H' → RawS K H' R r.sts := fun e => (rawM_of (hR.mono e)).s
    refine ⟨_, rfl, _, rfl, R, q.1, r.sts, rfl, rs T2, sl, hn1, fun u1 s1 H3 e3 f1 hu1 => ⟨u1, _, 2, _, rfl, rfl, hu1, rfl, ?_⟩⟩
    have T3 := T2.trans e3
    refine ⟨_, rfl, _, rfl, R, q.2.2, r.sts, rfl, rs T3, sl, hn2, fun u2 s2 H4 e4 f2 hu2 => ⟨u2, _, 2, _, rfl, rfl, hu2, rfl, ?_⟩⟩
    have T4 := T3.trans e4
    refine ⟨by show 0 ≤ sizeLine; omega, fun w0 hw0 => ⟨_, _, _, rfl, ?_⟩⟩
    have e24 := e3.trans e4
    have S4 := S2.mono e24
    obtain ⟨wa, wc⟩ := S4.fresh hw0
    have h4 := e24 _ _ h2
    have nwD : w0 ≠ D := (ne_of_none h4 hw0).symm
    have e5 : Ex H4 (upd H4 w0 (.lst [])) := (Ex.refl H4).new hw0
    have g5 : upd H4 w0 (.lst []) w0 = some (.lst []) := upd_same
    have S5 := S4.mono e5
    generalize upd H4 w0 (.lst []) = H5 at e5 g5 S5 ⊢
    have T5 := T4.trans e5
    have w0f : H2' w0 = none := e24.free hw0
    refine ⟨_, rfl, R, _, 1, .ref p2, rfl, rfl, SqL.of (T5 _ _ t0), rfl, p2, _, rfl, .inl (SqL.of (T5 _ _ t2)), _, rfl, by rw [strs_len]; omega, by rw [strs_len]; omega, ?_⟩
    have en : (((strsV r.lam).length : Int)).toNat = r.lam.length := by rw [strs_len]; exact Int.toNat_natCast _
    rw [en]
    have Ya : ∀ {b : Addr}, b = a ∨ b = c ∨ b = D → b = a ∨ b = c ∨ b = D ∨ b = w0 := fun h => h.imp id fun h => h.imp id .inl
    have Yw : w0 = a ∨ w0 = c ∨ w0 = D ∨ w0 = w0 := .inr (.inr (.inr rfl))
    have toY : Ex (hs a c H) (hid (fun b => b = a ∨ b = c ∨ b = D ∨ b = w0) H5) := fun b o q => by
      obtain ⟨q1, q2⟩ := hid_some.mp ((toX.trans E2) b o q)
      exact hid_some.mpr ⟨fun z => q1 (z.imp id fun z => z.imp id fun z => z.elim id fun z => absurd z (ne_of_none q2 w0f)), e5 _ _ (e24 _ _ q2)⟩
    refine for_range (fun i2 σ H' => StAt H' a c (N + i * 24 + i2 * 6) ∧ Ex (hid (fun b => b = a ∨ b = c ∨ b = D ∨ b = w0) H5) (hid (fun b => b = a ∨ b = c ∨ b = D ∨ b = w0) H') ∧ H' D = some (.lst ys) ∧
      (∃ m zs2, H' w0 = some (.lst zs2) ∧ Dens K true (hid (fun b => b = a ∨ b = c ∨ b = D ∨ b = w0) H') zs2 (m.map wvT) ∧ m.length = i2 ∧ (∀ y ∈ m, y.2.length ≤ 8) ∧ WvOk r m) ∧
      ∃ o6 o7 o11 o12, σ = [some (.ref a), some (.ref R), some (.ref W0), some (.ref D), some (.int (j : Nat)), some (.str q.1), o6, o7, some (.str s1.2.2), some (.str s2.2.2), some (.ref w0), o11, o12])
      ⟨S5.le (by omega), Ex.refl _, e5 _ _ h4, ⟨[], [], g5, .nil, rfl, (fun y hy => by cases hy), fun j y hy => by simp at hy⟩, _, _, _, _, rfl⟩ ?_ ?_
    · rintro i2 σ H6 hi2 ⟨S6, E6, h6D, ⟨m, zs2, h6w, hdm, hml, hmx, hmw⟩, o6', o7', o11', o12', rfl⟩
      have e02 : (0 : Int) + (i2 : Nat) = (i2 : Nat) := Int.zero_add _
      rw [e02]
      have T6 : Ex (hs a c H) H6 := (toY.trans E6).trans hid_ex
      obtain ⟨c1, a1, b1, l1⟩ := light_cell sm f1 hi2
      obtain ⟨c2, a2, b2, l2⟩ := light_cell sm f2 hi2
      obtain ⟨z1, z1l, z1i⟩ := bit_int b1
      obtain ⟨z2, z2l, z2i⟩ := bit_int b2
      -- the first half
      refine ⟨_, rfl, _, rfl, _, _, c1, rfl, rfl, by rw [sizeLine_eq]; omega, a1, _, _, rfl, z1i, by show 1 ≤ 640; decide, by show 1 ≤ sizeLine; decide, fun q1 hq1 => ?_⟩
      have x1 : Ex H6 (upd H6 q1 (.lst [.int (z1 : Nat)])) := (Ex.refl H6).new hq1
      have y1 : upd H6 q1 (.lst [.int (z1 : Nat)]) q1 = some (.lst [.int (z1 : Nat)]) := upd_same
      obtain ⟨q1a, q1c⟩ := S6.fresh hq1
      have U1 := S6.mono x1
      generalize upd H6 q1 (.lst [.int (z1 : Nat)]) = G1 at x1 y1 U1 ⊢
      refine ⟨_, rfl, a, c, _, 3, rfl, U1, by omega, by decide, by decide, fun r1 G2 r10 r11 U2 V2 => ?_⟩
      obtain ⟨n1, rfl⟩ := Int.eq_ofNat_of_zero_le r10
      have y2 := V2 _ _ q1a q1c y1
      refine ⟨_, _, rfl, rfl, q1, _, _, rfl, rfl, y2, by omega, by omega, ?_, fun q2 hq2 => ?_⟩
      · show 1 * (1 + (n1 : Int)).toNat ≤ sizeLine
        rw [sizeLine_eq]
        omega
      have k1 : (1 + (n1 : Int)).toNat = n1 + 1 := by omega
      rw [k1, rep_one, ints_rep]
      have x3 : Ex G2 (upd G2 q2 (.lst (intsV (List.replicate (n1 + 1) z1)))) := (Ex.refl G2).new hq2
      have y3 : upd G2 q2 (.lst (intsV (List.replicate (n1 + 1) z1))) q2 = some (.lst (intsV (List.replicate (n1 + 1) z1))) := upd_same
      obtain ⟨q2a, q2c⟩ := U2.fresh hq2
      have U3 := U2.mono x3
      generalize upd G2 q2 (.lst (intsV (List.replicate (n1 + 1) z1))) = G3 at x3 y3 U3 ⊢
      -- the second half
      refine ⟨_, rfl, _, rfl, _, _, c2, rfl, rfl, by rw [sizeLine_eq]; omega, a2, _, _, rfl, z2i, by show 1 ≤ 640; decide, by show 1 ≤ sizeLine; decide, fun q3 hq3 => ?_⟩
      have x4 : Ex G3 (upd G3 q3 (.lst [.int (z2 : Nat)])) := (Ex.refl G3).new hq3
      have y4 : upd G3 q3 (.lst [.int (z2 : Nat)]) q3 = some (.lst [.int (z2 : Nat)]) := upd_same
      obtain ⟨q3a, q3c⟩ := U3.fresh hq3
      have U4 := U3.mono x4
      generalize upd G3 q3 (.lst [.int (z2 : Nat)]) = G4 at x4 y4 U4 ⊢
      refine ⟨_, rfl, a, c, _, 3, rfl, U4, by omega, by decide, by decide, fun r2 G5 r20 r21 U5 V5 => ?_⟩
      obtain ⟨n2, rfl⟩ := Int.eq_ofNat_of_zero_le r20
      have y5 := V5 _ _ q3a q3c y4
      have y52 := V5 _ _ q2a q2c (x4 _ _ y3)
      refine ⟨_, _, rfl, rfl, q3, _, _, rfl, rfl, y5, by omega, by omega, ?_, fun q4 hq4 => ?_⟩
      · show 1 * (1 + (n2 : Int)).toNat ≤ sizeLine
        rw [sizeLine_eq]
        omega
      have k2 : (1 + (n2 : Int)).toNat = n2 + 1 := by omega
      rw [k2, rep_one, ints_rep]
      have x6 : Ex G5 (upd G5 q4 (.lst (intsV (List.replicate (n2 + 1) z2)))) := (Ex.refl G5).new hq4
      have y6 : upd G5 q4 (.lst (intsV (List.replicate (n2 + 1) z2))) q4 = some (.lst (intsV (List.replicate (n2 + 1) z2))) := upd_same
      have U6 := U5.mono x6
      have y62 := x6 _ _ y52
      generalize upd G5 q4 (.lst (intsV (List.replicate (n2 + 1) z2))) = G6 at x6 y6 U6 y62 ⊢
      refine ⟨q2, q4, _, _, rfl, rfl, y62, y6, by rw [ints_len, ints_len, List.length_replicate, List.length_replicate, sizeLine_eq]; omega, fun s0 hs0 => ?_⟩
      rw [ints_app]
      have x7 : Ex G6 (upd G6 s0 (.lst (intsV (List.replicate (n1 + 1) z1 ++ List.replicate (n2 + 1) z2)))) := (Ex.refl G6).new hs0
      have y7 : upd G6 s0 (.lst (intsV (List.replicate (n1 + 1) z1 ++ List.replicate (n2 + 1) z2))) s0 = some (.lst (intsV (List.replicate (n1 + 1) z1 ++ List.replicate (n2 + 1) z2))) := upd_same
      obtain ⟨s0a, s0c⟩ := U6.fresh hs0
      have U7 := U6.mono x7
      generalize upd G6 s0 (.lst (intsV (List.replicate (n1 + 1) z1 ++ List.replicate (n2 + 1) z2))) = G7 at x7 y7 U7 ⊢
      have sho := sh_rep (n1 := n1) (n2 := n2) z1l z2l
      have shl : (List.replicate (n1 + 1) z1 ++ List.replicate (n2 + 1) z2).length ≤ 6 := by rw [List.length_append, List.length_replicate, List.length_replicate]; omega
      generalize List.replicate (n1 + 1) z1 ++ List.replicate (n2 + 1) z2 = sh at y7 shl sho
      have V7 : Bar a c H6 G7 := Bar.trans (fun b o _ _ q => x1 b o q) (V2.trans (Bar.trans (fun b o _ _ q => x4 _ _ (x3 b o q)) (V5.trans fun b o _ _ q => x7 _ _ (x6 b o q))))
      have s0f : H6 s0 = none := by
        cases hz : H6 s0 with
        | none => rfl
        | some u =>
          have := Bar.trans (fun b o _ _ q => x1 b o q) (V2.trans (Bar.trans (fun b o _ _ q => x4 _ _ (x3 b o q)) (V5.trans fun b o _ _ q => x6 b o q))) s0 u s0a s0c hz
          rw [hs0] at this
          cases this
      dsimp only [gName]
      refine p_ifkey (F := fun σ9 G => ∃ s9 : Addr, σ9 = [some (.ref a), some (.ref R), some (.ref W0), some (.ref D), some (.int (j : Nat)), some (.str q.1), o6', o7', some (.str s1.2.2), some (.str s2.2.2), some (.ref w0), some (.int (i2 : Nat)), some (.ref s9)] ∧ StAt G a c (N + i * 24 + i2 * 6 + 5) ∧ Bar a c H6 G ∧ s9 ≠ a ∧ s9 ≠ c ∧ H6 s9 = none ∧ ∃ sh : List Nat, G s9 = some (.lst (intsV sh)) ∧ (sh.length ≤ 8 ∧ ShOk sh)) (fun Nx key => ?_) ?_
      · refine ⟨_, rfl, a, c, _, 3, rfl, U7, by omega, by decide, by decide, fun r3 G8 r30 r31 U8 V8 => ⟨rfl, _, rfl, ?_⟩⟩
        have y8 := V8 _ _ s0a s0c y7
        refine ite2 (fun _ => ?_) (fun _ => key _ G8 ⟨s0, rfl, U8.le (by omega), V7.trans V8, s0a, s0c, s0f, sh, y8, by omega, sho⟩)
        refine ⟨_, rfl, .inl ⟨rfl, _, SqL.of y8⟩, ?_⟩
        refine ⟨_, rfl, _, rfl, s0, _, rfl, .inl (SqL.of y8), _, _, rfl, rfl, a, c, _, _, rfl, U8, by omega, by rw [ints_len]; omega, by rw [ints_len]; omega, fun r4 G9 r40 r41 U9 V9 => ?_⟩
        obtain ⟨n4, rfl⟩ := Int.eq_ofNat_of_zero_le r40
        refine ⟨_, rfl, a, c, _, 2, rfl, U9, by omega, by decide, by decide, fun r5 G10 r50 r51 U10 V10 => ?_⟩
        obtain ⟨n5, rfl⟩ := Int.eq_ofNat_of_zero_le r50
        have y10 := V10 _ _ s0a s0c (V9 _ _ s0a s0c y8)
        rw [ints_len] at r41
        refine ⟨s0, _, _, _, rfl, rfl, y10, by rw [ints_len, sizeLine_eq]; omega, by omega, by omega, ?_⟩
        have ei : (intsV sh).take ((n4 : Int)).toNat ++ [V.int (n5 : Nat)] ++ (intsV sh).drop ((n4 : Int)).toNat = intsV (sh.take n4 ++ [n5] ++ sh.drop n4) := by
          rw [Int.toNat_natCast]
          unfold intsV
          rw [List.map_append, List.map_append, List.map_take, List.map_drop]
          rfl
        have V10' := V7.trans (V8.trans (V9.trans V10))
        refine key _ _ ⟨s0, rfl, (U10.put s0a s0c).le (by omega), fun b o q1 q2 q3 => by rw [upd_ne (ne_of_none q3 s0f)]; exact V10' b o q1 q2 q3, s0a, s0c, s0f, sh.take n4 ++ [n5] ++ sh.drop n4, by rw [upd_same, ei], ?_, sh_ins sho (by omega) n4⟩
        have : (sh.take n4 ++ [n5] ++ sh.drop n4).length = sh.length + 1 := by
          rw [List.length_append, List.length_append, List.length_take, List.length_drop]
          show min n4 sh.length + 1 + _ = _
          omega
        omega
      rintro _ G8 ⟨s3, rfl, U8, V8, s3a, s3c, s3f, sh3, y8, sh3l, sh3o⟩
      refine p_ifkey (F := fun σ9 G => ∃ s9 : Addr, σ9 = [some (.ref a), some (.ref R), some (.ref W0), some (.ref D), some (.int (j : Nat)), some (.str q.1), o6', o7', some (.str s1.2.2), some (.str s2.2.2), some (.ref w0), some (.int (i2 : Nat)), some (.ref s9)] ∧ StAt G a c (N + i * 24 + i2 * 6 + 6) ∧ Bar a c H6 G ∧ s9 ≠ a ∧ s9 ≠ c ∧ H6 s9 = none ∧ ∃ sh : List Nat, G s9 = some (.lst (intsV sh)) ∧ (sh.length ≤ 8 ∧ ShOk sh)) (fun Nx key => ?_) ?_
      · refine ⟨_, rfl, a, c, _, 8, rfl, U8, by omega, by decide, by decide, fun r3 G9 r30 r31 U9 V9 => ⟨rfl, _, rfl, ?_⟩⟩
        have y9 := V9 _ _ s3a s3c y8
        refine ite2 (fun _ => ?_) (fun _ => key _ G9 ⟨s3, rfl, U9, V8.trans V9, s3a, s3c, s3f, sh3, y9, sh3l, sh3o⟩)
        refine ⟨_, rfl, 1, rfl, s3, _, rfl, SqL.of y9, fun s4 hs4 => ?_⟩
        rw [show cutV (intsV sh3) none (some 1) = (intsV sh3).take 1 from cutV_take _ 1]
        have V9' := V8.trans V9
        obtain ⟨s4a, s4c⟩ := U9.fresh hs4
        have s4f : H6 s4 = none := by
          cases hz : H6 s4 with
          | none => rfl
          | some u =>
            have := V9' s4 u s4a s4c hz
            rw [hs4] at this
            cases this
        refine key _ _ ⟨s4, rfl, U9.mono ((Ex.refl G9).new hs4), V9'.new hs4, s4a, s4c, s4f, sh3.take 1, by rw [upd_same]; unfold intsV; rw [List.map_take], by rw [List.length_take]; omega, sh_one sh3o⟩
      rintro _ G9 ⟨s5, rfl, U9, V9, s5a, s5c, s5f, sh5, y9, sh5l, sh5o⟩
      have T9 : Ex (hs a c H) G9 := fun b o q => by
        obtain ⟨q1, q2, _⟩ := hs_some q
        exact V9 b o q1 q2 (T6 b o q)
      have h9w := V9 _ _ wa wc h6w
      have hlam : r.lam[i2]? = some r.lam[i2] := List.getElem?_eq_getElem hi2
      refine ⟨_, rfl, .inl ⟨rfl, _, SqL.of h9w⟩, ?_⟩
      refine ⟨_, rfl, R, _, 1, .ref p2, rfl, rfl, SqL.of (T9 _ _ t0), rfl, _, rfl, p2, _, _, .str r.lam[i2], rfl, rfl, SqL.of (T9 _ _ t2), atI_nat (by unfold strsV; rw [List.getElem?_map, hlam]; rfl), _, rfl, by show 2 ≤ sizeLine; decide, fun t ht => ?_⟩
      have x10 : Ex G9 (upd G9 t (.tup [.str r.lam[i2], .ref s5])) := (Ex.refl G9).new ht
      obtain ⟨ta, tc⟩ := U9.fresh ht
      have nwt : w0 ≠ t := ne_of_none h9w ht
      have ndt : D ≠ t := ne_of_none (V9 _ _ Da Dc h6D) ht
      have nsD : s5 ≠ D := (ne_of_none h6D s5f).symm
      have nsw : s5 ≠ w0 := (ne_of_none h6w s5f).symm
      have zl : zs2.length = m.length := by rw [hdm.length, List.length_map]
      refine ⟨w0, zs2, _, rfl, rfl, x10 _ _ h9w, by rw [zl, hml, sizeLine_eq]; omega, ?_⟩
      have E9 : Ex (hid (fun b => b = a ∨ b = c ∨ b = D ∨ b = w0) H6) (hid (fun b => b = a ∨ b = c ∨ b = D ∨ b = w0) G9) := hx_bar (Ya Xa) (Ya Xc) V9
      have E10 : Ex (hid (fun b => b = a ∨ b = c ∨ b = D ∨ b = w0) H6) (hid (fun b => b = a ∨ b = c ∨ b = D ∨ b = w0) (upd (upd G9 t (.tup [.str r.lam[i2], .ref s5])) w0 (.lst (zs2 ++ [.ref t])))) := E9.trans ((hid_of x10).trans (hx_put Yw))
      refine ⟨((U9.mono x10).le (by omega)).put wa wc, E6.trans E10, ?_, ⟨m ++ [(r.lam[i2], sh5)], zs2 ++ [.ref t], upd_same, ?_, by rw [List.length_append, hml]; rfl, fun y hy => ?_, wv_snoc hmw (by rw [hml]; exact hlam) sh5o⟩, _, _, _, _, rfl⟩
      · rw [upd_ne nwD.symm]
        exact x10 _ _ (V9 _ _ Da Dc h6D)
      · rw [List.map_append]
        refine dens_snoc (hdm.mono E10.kp) ?_
        refine .tup (SqT.of (hid_some.mpr ⟨fun z => z.elim ta fun z => z.elim tc fun z => z.elim (fun z => ndt z.symm) fun z => nwt z.symm, by rw [upd_ne nwt.symm, upd_same]⟩)) (.cons (.str _) (.cons (.lst (SqL.of (hid_some.mpr ⟨fun z => z.elim s5a fun z => z.elim s5c fun z => z.elim nsD nsw, ?_⟩)) (dens_intsI sh5)) .nil))
        rw [upd_ne nsw]
        exact x10 _ _ y9
      · rcases List.mem_append.mp hy with h | h
        · exact hmx y h
        · rw [List.mem_singleton.mp h]
          exact sh5l
    · rintro σ H6 ⟨S6, E6, h6D, ⟨m, zs2, h6w, hdm, hml, hmx, hmw⟩, o6', o7', o11', o12', rfl⟩
      refine ⟨_, rfl, .inl ⟨rfl, _, SqL.of h6D⟩, ?_⟩
      refine ⟨_, rfl, _, rfl, _, rfl, by show 3 ≤ sizeLine; decide, fun t ht => ?_⟩
      have x7 : Ex H6 (upd H6 t (.tup [.str q.1, .int (j : Nat), .ref w0])) := (Ex.refl H6).new ht
      obtain ⟨ta, tc⟩ := S6.fresh ht
      have ndt : D ≠ t := ne_of_none h6D ht
      have nwt : w0 ≠ t := ne_of_none h6w ht
      have yl : ys.length = l.length := by rw [hds.length, List.length_map]
      refine ⟨D, ys, _, rfl, rfl, x7 _ _ h6D, by rw [yl, hll, sizeLine_eq]; omega, ?_⟩
      have EX : Ex (hid (fun b => b = a ∨ b = c ∨ b = D) H2') (hid (fun b => b = a ∨ b = c ∨ b = D) (upd (upd H6 t (.tup [.str q.1, .int (j : Nat), .ref w0])) D (.lst (ys ++ [.ref t])))) := fun b o q => by
        obtain ⟨q1, q2⟩ := hid_some.mp q
        have nbw : b ≠ w0 := ne_of_none q2 w0f
        have := hid_some.mp (E6 b o (hid_some.mpr ⟨fun z => z.elim (fun z => q1 (.inl z)) fun z => z.elim (fun z => q1 (.inr (.inl z))) fun z => z.elim (fun z => q1 (.inr (.inr z))) nbw, e5 _ _ (e24 _ _ q2)⟩))
        exact hid_some.mpr ⟨q1, by rw [upd_ne fun z => q1 (.inr (.inr z))]; exact x7 _ _ this.2⟩
      have WX : Ex (hid (fun b => b = a ∨ b = c ∨ b = D ∨ b = w0) H6) (hid (fun b => b = a ∨ b = c ∨ b = D) (upd (upd H6 t (.tup [.str q.1, .int (j : Nat), .ref w0])) D (.lst (ys ++ [.ref t])))) := fun b o q => by
        obtain ⟨q1, q2⟩ := hid_some.mp q
        exact hid_some.mpr ⟨fun z => q1 (Ya z), by rw [upd_ne fun z => q1 (.inr (.inr (.inl z)))]; exact x7 _ _ q2⟩
      refine ⟨((S6.mono x7).le (by omega)).put Da Dc, E2.trans EX, ⟨l ++ [(q.1, j, m)], ys ++ [.ref t], upd_same, ?_, by rw [List.length_append, hll]; rfl, fun x hx => ?_, fun x hx => ?_, by rw [List.map_append, hlm, List.take_add_one, hj]; rfl⟩, _, _, _, _, _, _, _, _, _, rfl⟩
      · rw [List.map_append]
        refine dens_snoc (hds.mono EX.kp) ?_
        refine .tup (SqT.of (hid_some.mpr ⟨fun z => z.elim ta fun z => z.elim tc fun z => ndt z.symm, by rw [upd_ne ndt.symm, upd_same]⟩)) (.cons (.str _) (.cons (.int _) (.cons (.lst (SqL.of (hid_some.mpr ⟨fun z => z.elim wa fun z => z.elim wc nwD, ?_⟩)) (hdm.mono WX.kp)) .nil)))
        rw [upd_ne nwD]
        exact x7 _ _ h6w
      · rcases List.mem_append.mp hx with h | h
        · exact hlx x h
        · rw [List.mem_singleton.mp h]
          exact ⟨hml, hmx⟩
      · rcases List.mem_append.mp hx with h | h
        · exact hlg x h
        · rw [List.mem_singleton.mp h]
          exact ⟨⟨q, hqj, rfl⟩, hml, hmw⟩
  · rintro σ H2 ⟨S2, E2, ⟨l, ys, h2, hds, hll, hlx, hlg, hlm⟩, o4, o5, o6, o7, o8, o9, o10, o11, o12, rfl⟩
    have B2 : Bar a c H H2 := fun b o q1 q2 q3 => hid_ex _ _ ((toX.trans E2) b o (hs_at q1 q2 q3))
    rw [ints_len] at S2 hll hlm
    rw [List.take_length] at hlm
    exact ⟨_, rfl, k D l H2 (S2.le (by omega)) B2 hD (.lst (SqL.of (hs_at Da Dc h2)) (hds.mono (hid_sub fun b z => z.imp id .inl).kp)) ⟨by omega, hlx⟩ (good_walk hlg hlm hwk)⟩
theorem c_law_any_log (W : Wld K mg) : Cal P w K mg base 3 "_law_any_log" ["state", "raw", "walk"] (spAny K) := by
  obtain ⟨fd, F⟩ := W.c.def_ 52 rfl
  exact ⟨⟨fd, ok_law_any_log W F, F.bindsN fun _ _ _ _ _ _ us hl => match us, hl with | [_, _, _], _ => rfl⟩, W.g_law_any_log, F.kp⟩
end
end K77

set_option Elab.async false
set_option linter.all false
set_option maxRecDepth 100000
set_option maxHeartbeats 400000
namespace XQ
open PySem PySem.Spec PyProof.Rows L2
/-! a == b of data without dicts, whatever the texts -/
def rEqP (K : PySem.W.Frag) : R2 := fun x y H Q => ∃ d e, Dp K H x d ∧ Dp K H y e ∧ d.plain = true ∧ e.plain = true ∧ min d.depth e.depth ≤ 64 ∧ Q (.bl (PyData.eqv d e)) H
theorem op_eqP {X : Cx} (hu : X.A.units + 64 < cLine) : OpR X (compareOp .Eq) (rEqP X.K) := by
  intro pins s σ H x y v u Q I rx ry h
  obtain ⟨d, e, hd, he, sd, se, hm, q⟩ := h
  obtain ⟨as, r1⟩ := Dp.reads I d x v hd rx
  obtain ⟨bs, r2⟩ := Dp.reads I e y u he ry
  exact SeqAt.eq_plain r1 r2 sd se (by omega) ⟨.bl _, H, I, rfl, q⟩
end XQ

set_option Elab.async false
set_option linter.all false
set_option maxRecDepth 100000
set_option maxHeartbeats 400000
namespace K77
open PySem PySem.Spec PyProof.Rows L2 DL
/-! ### a log laid anew: what is what -/
def lcScope : Expr → Scope
  | .ListComp _ _ sc _ => sc
  | _ => { kind := .function, names := [], isGenerator := false, isCoroutine := false, more := [] }
def asgVal : Stmt → Expr
  | .Assign _ v _ => v
  | _ => .Constant .none 0 ⟨0, 0, 0, 0⟩
def rListQ (K : PySem.W.Frag) : List V → Hp → VK → Prop := fun xs H Q => ∃ p ys, xs = [.ref p] ∧ (SqL K H p ys ∨ SqT K H p ys) ∧ ∀ l, H l = none → Q (.ref l) (upd H l (.lst ys))
def PairT (p : Tr) : Prop := Okb 2 p ∧ ∀ a, (kids p)[0]? = some a → scT a = true
def WavT (w : Tr) : Prop := Okb 3 w ∧ PairSc w
def RowT (d : Tr) : Prop := Okb 4 d ∧ ∀ w, (kids d)[2]? = some w → PairSc w
theorem okb_sc {n : Nat} {d : Tr} (h : scT d = true) : Okb n d := by
  cases d <;> first | (cases n <;> trivial) | cases h
theorem pairT_mk {a s : Tr} (h1 : scT a = true) (h2 : Okb 1 s) : PairT (.lst [a, s]) := by
  refine ⟨⟨by show 2 ≤ 16; decide, fun x hx => ?_⟩, fun b hb => ?_⟩
  · rcases List.mem_cons.mp hx with rfl | hx
    · exact okb_sc h1
    · rw [List.mem_singleton.mp hx]
      exact h2
  · have hb : some a = some b := hb
    rw [← Option.some.inj hb]
    exact h1
theorem wavT_mk {ps : List Tr} (hl : ps.length ≤ 16) (h : ∀ p ∈ ps, PairT p) : WavT (.lst ps) := ⟨⟨hl, fun x hx => (h x hx).1⟩, fun p hp a ha => (h p hp).2 a ha⟩
theorem wavT_sc {d : Tr} (h : scT d = true) : WavT d := by
  refine ⟨okb_sc h, fun p hp => ?_⟩
  cases d <;> first | (cases h; done) | (cases hp; done)
theorem rowT_mk {a m w : Tr} {r : List Tr} (h1 : scT a = true) (h2 : scT m = true) (h3 : WavT w) (h4 : ∀ x ∈ r, scT x = true) (h5 : r.length ≤ 10) : RowT (.lst (a :: m :: w :: r)) := by
  refine ⟨⟨by show r.length + 1 + 1 + 1 ≤ 16; omega, fun x hx => ?_⟩, fun b hb => ?_⟩
  · rcases List.mem_cons.mp hx with rfl | hx
    · exact okb_sc h1
    rcases List.mem_cons.mp hx with rfl | hx
    · exact okb_sc h2
    rcases List.mem_cons.mp hx with rfl | hx
    · exact h3.1
    · exact okb_sc (h4 x hx)
  · have hb : some w = some b := hb
    rw [← Option.some.inj hb]
    exact h3.2
theorem rowT_two {a m : Tr} (h1 : scT a = true) (h2 : scT m = true) : RowT (.lst [a, m]) := by
  refine ⟨⟨by show 2 ≤ 16; decide, fun x hx => ?_⟩, fun b hb => by cases hb⟩
  rcases List.mem_cons.mp hx with rfl | hx
  · exact okb_sc h1
  · rw [List.mem_singleton.mp hx]
    exact okb_sc h2
theorem rowT_sc {d : Tr} (h : scT d = true) : RowT d := by
  refine ⟨okb_sc h, fun w hw => ?_⟩
  cases d <;> first | (cases h; done) | (cases hw; done)
theorem rows_ok {ds : List Tr} (hl : ds.length ≤ 16) (h : ∀ d ∈ ds, RowT d) : Okb 5 (.lst ds) ∧ LogSc (.lst ds) := ⟨⟨hl, fun x hx => (h x hx).1⟩, fun row hr w hw => (h row hr).2 w hw⟩
def bwT (x : Wv) : Tr := .lst [.str x.1, .lst (x.2.map fun k => .int (k : Nat))]
def brT (x : LRow) : Tr := .lst [.str x.1, .int (x.2.1 : Nat), .lst (x.2.2.map bwT)]
theorem okb_ints {l : List Nat} (h : l.length ≤ 16) : Okb 1 (.lst (l.map fun k => Tr.int (k : Nat))) := ⟨by rw [List.length_map]; exact h, fun x hx => by
  obtain ⟨k, _, rfl⟩ := List.mem_map.mp hx
  trivial⟩
theorem bw_ok {x : Wv} (h : x.2.length ≤ 16) : PairT (bwT x) := pairT_mk rfl (okb_ints h)
theorem bws_ok {ws : List Wv} (hl : ws.length ≤ 16) (h : ∀ y ∈ ws, y.2.length ≤ 16) : WavT (.lst (ws.map bwT)) := wavT_mk (by rw [List.length_map]; exact hl) fun p hp => by
  obtain ⟨y, hy, rfl⟩ := List.mem_map.mp hp
  exact bw_ok (h y hy)
theorem br_ok {x : LRow} (hl : x.2.2.length ≤ 16) (h : ∀ y ∈ x.2.2, y.2.length ≤ 16) : RowT (brT x) := rowT_mk rfl rfl (bws_ok hl h) (fun x hx => by cases hx) (Nat.zero_le _)
/-! ### where it stands -/
structure BRow where
  r : Addr
  w : Addr
  ps : List (Addr × Addr)
  x : LRow
def PairAt (G : Hp) (q : Addr × Addr) (y : Wv) : Prop := G q.1 = some (.lst [.str y.1, .ref q.2]) ∧ G q.2 = some (.lst (intsV y.2))
structure BAt (G : Hp) (b : BRow) : Prop where
  hr : G b.r = some (.lst [.str b.x.1, .int (b.x.2.1 : Nat), .ref b.w])
  hw : G b.w = some (.lst (b.ps.map fun q => V.ref q.1))
  hp : Paired (PairAt G) b.ps b.x.2.2
theorem paired_mono {α β : Type} {F F' : α → β → Prop} (h : ∀ a b, F a b → F' a b) : ∀ {l : List α} {m : List β}, Paired F l m → Paired F' l m
  | _, _, .nil => .nil
  | _, _, .cons a r => .cons (h _ _ a) (paired_mono h r)
theorem paired_len {α β : Type} {F : α → β → Prop} : ∀ {l : List α} {m : List β}, Paired F l m → l.length = m.length
  | _, _, .nil => rfl
  | _, _, .cons _ r => by rw [List.length_cons, List.length_cons, paired_len r]
theorem paired_get {α β : Type} {F : α → β → Prop} : ∀ {l : List α} {m : List β} {i : Nat} {a : α}, Paired F l m → l[i]? = some a → ∃ b, m[i]? = some b ∧ F a b
  | _, _, _, _, .nil, h => by simp at h
  | _, _, 0, _, .cons a _, h => by
    obtain rfl := Option.some.inj h
    exact ⟨_, rfl, a⟩
  | _, _, i + 1, a, .cons _ r, h => by
    obtain ⟨b, h1, h2⟩ := paired_get (i := i) (a := a) r (by simpa using h)
    exact ⟨b, by simpa using h1, h2⟩
theorem PairAt.mono {G G' : Hp} {q : Addr × Addr} {y : Wv} (h : PairAt G q y) (e : Ex G G') : PairAt G' q y := ⟨e _ _ h.1, e _ _ h.2⟩
theorem BAt.mono {G G' : Hp} {b : BRow} (h : BAt G b) (e : Ex G G') : BAt G' b := ⟨e _ _ h.hr, e _ _ h.hw, paired_mono (fun _ _ z => z.mono e) h.hp⟩
structure BsAt (G : Hp) (p : Addr) (bs : List BRow) : Prop where
  top : G p = some (.lst (bs.map fun b => V.ref b.r))
  each : ∀ b ∈ bs, BAt G b
  nr : (bs.map (·.r)).Nodup
  np : (bs.flatMap fun b => b.ps.map (·.1)).Nodup
  pw : ∀ b ∈ bs, b.w ≠ p
theorem BsAt.mono {G G' : Hp} {p : Addr} {bs : List BRow} (h : BsAt G p bs) (e : Ex G G') : BsAt G' p bs := ⟨e _ _ h.top, fun b hb => (h.each b hb).mono e, h.nr, h.np, h.pw⟩
theorem dens_get_all {K : PySem.W.Frag} {b : Bool} {H : Hp} : ∀ {ys : List V} {ds : List Tr}, ys.length = ds.length → (∀ (i : Nat) v d, ys[i]? = some v → ds[i]? = some d → Den K b H v d) → Dens K b H ys ds
  | [], [], _, _ => .nil
  | v :: ys, d :: ds, hl, h => .cons (h 0 v d rfl rfl) (dens_get_all (by simpa using hl) fun i x y h1 h2 => h (i + 1) x y (by simpa using h1) (by simpa using h2))
theorem den_pair {K : PySem.W.Frag} {T : Addr → Prop} {G : Hp} {q : Addr × Addr} {y : Wv} (h : PairAt G q y) (h1 : ¬ T q.1) (h2 : ¬ T q.2) : Den K true (hid T G) (.ref q.1) (bwT y) :=
  .lst (SqL.of (hid_some.mpr ⟨h1, h.1⟩)) (.cons (.str _) (.cons (.lst (SqL.of (hid_some.mpr ⟨h2, h.2⟩)) (dens_intsI _)) .nil))
theorem dens_pairs {K : PySem.W.Frag} {T : Addr → Prop} {G : Hp} : ∀ {ps : List (Addr × Addr)} {ys : List Wv}, Paired (PairAt G) ps ys → (∀ q ∈ ps, ¬ T q.1 ∧ ¬ T q.2) → Dens K true (hid T G) (ps.map fun q => V.ref q.1) (ys.map bwT)
  | _, _, .nil, _ => .nil
  | q :: _, _, .cons a r, h => .cons (den_pair a (h q List.mem_cons_self).1 (h q List.mem_cons_self).2) (dens_pairs r fun q hq => h q (List.mem_cons_of_mem _ hq))
theorem den_brow {K : PySem.W.Frag} {T : Addr → Prop} {G : Hp} {b : BRow} (h : BAt G b) (h1 : ¬ T b.r) (h2 : ¬ T b.w) (h3 : ∀ q ∈ b.ps, ¬ T q.1 ∧ ¬ T q.2) : Den K true (hid T G) (.ref b.r) (brT b.x) :=
  .lst (SqL.of (hid_some.mpr ⟨h1, h.hr⟩)) (.cons (.str _) (.cons (.int _) (.cons (.lst (SqL.of (hid_some.mpr ⟨h2, h.hw⟩)) (dens_pairs h.hp h3)) .nil)))
/-! what differs by what it holds -/
theorem str_ints {z : Str} {r : List V} {l : List Nat} : HO.lst (.str z :: r) ≠ HO.lst (intsV l) := by
  intro h
  have h := HO.lst.inj h
  cases l with
  | nil => cases h
  | cons a l => cases (List.cons.inj h).1
theorem str_refs {α : Type} {z : Str} {r : List V} {l : List α} {f : α → Addr} : HO.lst (.str z :: r) ≠ HO.lst (l.map fun q => V.ref (f q)) := by
  intro h
  have h := HO.lst.inj h
  cases l with
  | nil => cases h
  | cons a l => cases (List.cons.inj h).1
/-- t holds a row or a pair: no waves, no list of waves, not the log -/
theorem at_str {G : Hp} {p t : Addr} {bs : List BRow} {z : Str} {r : List V} (B : BsAt G p bs) (ht : G t = some (.lst (.str z :: r))) : p ≠ t ∧ ∀ b ∈ bs, b.w ≠ t ∧ ∀ q ∈ b.ps, q.2 ≠ t := by
  refine ⟨(ne_of ht B.top str_refs).symm, fun b hb => ⟨(ne_of ht (B.each b hb).hw str_refs).symm, fun q hq => ?_⟩⟩
  obtain ⟨i, hi, rfl⟩ := List.mem_iff_getElem.mp hq
  obtain ⟨y, _, hy⟩ := paired_get (B.each b hb).hp (List.getElem?_eq_getElem hi)
  exact (ne_of ht hy.2 str_ints).symm
end K77

set_option Elab.async false
set_option linter.all false
set_option maxRecDepth 100000
set_option maxHeartbeats 400000
namespace K77
open PySem PySem.Spec PyProof.Rows L2 DL
theorem pair_row_ne {z z2 : Str} {s w : Addr} {m : Int} : HO.lst [.str z, .ref s] ≠ HO.lst [.str z2, .int m, .ref w] := fun h => by
  have h := (List.cons.inj (HO.lst.inj h)).2
  cases (List.cons.inj h).1
theorem p_key {t u : TS} {D : Ends} {σ : L2.St} {H : Hp} (F : L2.St → Hp → Prop) (main : ∀ Nx : L2.St → Hp → Prop, (∀ σ' H', F σ' H' → Nx σ' H') → t { D with nx := Nx } σ H) (tail : ∀ σ' H', F σ' H' → u D σ' H') : tSeq t u D σ H := main (u D) tail
theorem den_brow0 {K : PySem.W.Frag} {G : Hp} {b : BRow} (h : BAt G b) : Den K true G (.ref b.r) (brT b.x) :=
  (den_brow (T := fun _ => False) h id id fun q _ => ⟨id, id⟩).mono hid_ex.kp
/-- the log as it stands: rows, all of them right -/
def LogAt (K : PySem.W.Frag) (G : Hp) (p : Addr) : Prop := ∃ ds, Den K true G (.ref p) (.lst ds) ∧ ds.length ≤ 16 ∧ ∀ d ∈ ds, RowT d
structure BsOk (bs : List BRow) : Prop where
  n : bs.length ≤ 8
  m : ∀ b ∈ bs, b.x.2.2.length ≤ 8 ∧ ∀ y ∈ b.x.2.2, y.2.length ≤ 8
theorem BsOk.row {bs : List BRow} (h : BsOk bs) {b : BRow} (hb : b ∈ bs) : RowT (brT b.x) := br_ok (by have := (h.m b hb).1; omega) fun y hy => by have := (h.m b hb).2 y hy; omega
theorem BsOk.wav {bs : List BRow} (h : BsOk bs) {b : BRow} (hb : b ∈ bs) : WavT (.lst (b.x.2.2.map bwT)) := bws_ok (by have := (h.m b hb).1; omega) fun y hy => by have := (h.m b hb).2 y hy; omega
theorem set_get {α : Type} {l : List α} {j i : Nat} {x y : α} (h : (l.set j x)[i]? = some y) : (i = j ∧ y = x) ∨ (i ≠ j ∧ l[i]? = some y) := by
  by_cases e : j = i
  · subst e
    have hi := (List.getElem?_eq_some_iff.mp h).1
    rw [List.length_set] at hi
    rw [List.getElem?_set_self hi] at h
    exact .inl ⟨rfl, (Option.some.inj h).symm⟩
  · rw [List.getElem?_set_ne e] at h
    exact .inr ⟨fun z => e z.symm, h⟩
/-- the row at place j written anew -/
theorem row_put {K : PySem.W.Frag} {X : Addr → Prop} {H : Hp} {p : Addr} {bs : List BRow} {j : Nat} {b0 : BRow} {o : List V} {ks : List Tr} (B : BsAt (hid X H) p bs) (ok : BsOk bs) (hj : bs[j]? = some b0) (hk : Dens K true (hid (fun b => X b ∨ b = b0.r) H) o ks) (hr : RowT (.lst ks)) : LogAt K (hid X (upd H b0.r (.lst o))) p := by
  have hm := List.mem_of_getElem? hj
  obtain ⟨np, no⟩ := at_str B (B.each b0 hm).hr
  have ex : Ex (hid (fun b => X b ∨ b = b0.r) H) (hid X (upd H b0.r (.lst o))) := fun b u q => by
    obtain ⟨q1, q2⟩ := hid_some.mp q
    exact hid_some.mpr ⟨fun z => q1 (.inl z), by rw [upd_ne fun z => q1 (.inr z)]; exact q2⟩
  have ex2 : Ex (hid (fun b => b = b0.r) (hid X H)) (hid X (upd H b0.r (.lst o))) := fun b u q => by
    obtain ⟨q1, q2⟩ := hid_some.mp q
    obtain ⟨q3, q4⟩ := hid_some.mp q2
    exact hid_some.mpr ⟨q3, by rw [upd_ne q1]; exact q4⟩
  have hX := (hid_some.mp (B.each b0 hm).hr).1
  refine ⟨(bs.map fun b => brT b.x).set j (.lst ks), .lst (SqL.of (ex2 _ _ (hid_some.mpr ⟨np, B.top⟩))) (dens_get_all (by rw [List.length_set, List.length_map, List.length_map]) fun i v d h1 h2 => ?_), by rw [List.length_set, List.length_map]; have := ok.n; omega, fun d hd => ?_⟩
  · rw [List.getElem?_map] at h1
    cases hb : bs[i]? with
    | none => rw [hb] at h1; cases h1
    | some b =>
      rw [hb] at h1
      obtain rfl := Option.some.inj h1
      rcases set_get h2 with ⟨e, rfl⟩ | ⟨e, h2⟩
      · rw [e, hj] at hb
        obtain rfl := Option.some.inj hb
        exact .lst (SqL.of (hid_some.mpr ⟨hX, upd_same⟩)) (hk.mono ex.kp)
      · rw [List.getElem?_map, hb] at h2
        obtain rfl := Option.some.inj h2
        have hbm := List.mem_of_getElem? hb
        have nr : b.r ≠ b0.r := fun z => e ((List.getElem?_inj (l := bs.map (·.r)) (by rw [List.length_map]; exact (List.getElem?_eq_some_iff.mp hb).1) B.nr).mp (by rw [List.getElem?_map, List.getElem?_map, hb, hj]; exact congrArg some z))
        refine (den_brow (T := fun x => x = b0.r) (B.each b hbm) nr (no b hbm).1 fun q hq => ⟨fun z => ?_, (no b hbm).2 q hq⟩).mono ex2.kp
        obtain ⟨i3, hi3, rfl⟩ := List.mem_iff_getElem.mp hq
        obtain ⟨y, _, hy⟩ := paired_get (B.each b hbm).hp (List.getElem?_eq_getElem hi3)
        exact ne_of hy.1 (B.each b0 hm).hr pair_row_ne z
  · rcases List.mem_or_eq_of_mem_set hd with h | h
    · obtain ⟨b, hb, rfl⟩ := List.mem_map.mp h
      exact ok.row hb
    · rw [h]
      exact hr
/-- the pair at place m of the row at place j written anew -/
theorem pair_put {K : PySem.W.Frag} {X : Addr → Prop} {H : Hp} {p : Addr} {bs : List BRow} {j m : Nat} {b0 : BRow} {q0 : Addr × Addr} {o : List V} {ks : List Tr} (B : BsAt (hid X H) p bs) (ok : BsOk bs) (hj : bs[j]? = some b0) (hq : b0.ps[m]? = some q0) (hk : Dens K true (hid (fun b => X b ∨ b = q0.1) H) o ks) (hr : PairT (.lst ks)) :
    LogAt K (hid X (upd H q0.1 (.lst o))) p := by
  have hm := List.mem_of_getElem? hj
  obtain ⟨y0, hy0, hp0⟩ := paired_get (B.each b0 hm).hp hq
  obtain ⟨np, no⟩ := at_str B hp0.1
  have ex : Ex (hid (fun b => X b ∨ b = q0.1) H) (hid X (upd H q0.1 (.lst o))) := fun b u q => by
    obtain ⟨q1, q2⟩ := hid_some.mp q
    exact hid_some.mpr ⟨fun z => q1 (.inl z), by rw [upd_ne fun z => q1 (.inr z)]; exact q2⟩
  have ex2 : Ex (hid (fun b => b = q0.1) (hid X H)) (hid X (upd H q0.1 (.lst o))) := fun b u q => by
    obtain ⟨q1, q2⟩ := hid_some.mp q
    obtain ⟨q3, q4⟩ := hid_some.mp q2
    exact hid_some.mpr ⟨q3, by rw [upd_ne q1]; exact q4⟩
  have hX := (hid_some.mp hp0.1).1
  have rowne : ∀ b ∈ bs, b.r ≠ q0.1 := fun b hb => ne_of (B.each b hb).hr hp0.1 fun z => pair_row_ne z.symm
  obtain ⟨nd1, nd2⟩ := List.pairwise_flatMap.mp B.np
  have pl := paired_len (B.each b0 hm).hp
  -- the row itself
  have row0 : Den K true (hid X (upd H q0.1 (.lst o))) (.ref b0.r) (.lst [.str b0.x.1, .int (b0.x.2.1 : Nat), .lst ((b0.x.2.2.map bwT).set m (.lst ks))]) := by
    refine .lst (SqL.of (ex2 _ _ (hid_some.mpr ⟨rowne b0 hm, (B.each b0 hm).hr⟩))) (.cons (.str _) (.cons (.int _) (.cons (.lst (SqL.of (ex2 _ _ (hid_some.mpr ⟨(no b0 hm).1, (B.each b0 hm).hw⟩))) (dens_get_all (by rw [List.length_set, List.length_map, List.length_map, pl]) fun i v d h1 h2 => ?_)) .nil)))
    rw [List.getElem?_map] at h1
    cases hb : b0.ps[i]? with
    | none => rw [hb] at h1; cases h1
    | some q =>
      rw [hb] at h1
      obtain rfl := Option.some.inj h1
      rcases set_get h2 with ⟨e, rfl⟩ | ⟨e, h2⟩
      · rw [e, hq] at hb
        obtain rfl := Option.some.inj hb
        exact .lst (SqL.of (hid_some.mpr ⟨hX, upd_same⟩)) (hk.mono ex.kp)
      · obtain ⟨y, hy, hyp⟩ := paired_get (B.each b0 hm).hp hb
        rw [List.getElem?_map, hy] at h2
        obtain rfl := Option.some.inj h2
        have nq : q.1 ≠ q0.1 := fun z => e ((List.getElem?_inj (l := b0.ps.map fun q : Addr × Addr => q.1) (by rw [List.length_map]; exact (List.getElem?_eq_some_iff.mp hb).1) (nd1 b0 hm)).mp (by rw [List.getElem?_map, List.getElem?_map, hb, hq]; exact congrArg some z))
        exact (den_pair (T := fun x => x = q0.1) hyp nq ((no b0 hm).2 q (List.mem_of_getElem? hb))).mono ex2.kp
  refine ⟨(bs.map fun b => brT b.x).set j (.lst [.str b0.x.1, .int (b0.x.2.1 : Nat), .lst ((b0.x.2.2.map bwT).set m (.lst ks))]), .lst (SqL.of (ex2 _ _ (hid_some.mpr ⟨np, B.top⟩))) (dens_get_all (by rw [List.length_set, List.length_map, List.length_map]) fun i v d h1 h2 => ?_), by rw [List.length_set, List.length_map]; have := ok.n; omega, fun d hd => ?_⟩
  · rw [List.getElem?_map] at h1
    cases hb : bs[i]? with
    | none => rw [hb] at h1; cases h1
    | some b =>
      rw [hb] at h1
      obtain rfl := Option.some.inj h1
      rcases set_get h2 with ⟨e, rfl⟩ | ⟨e, h2⟩
      · rw [e, hj] at hb
        obtain rfl := Option.some.inj hb
        exact row0
      · rw [List.getElem?_map, hb] at h2
        obtain rfl := Option.some.inj h2
        have hbm := List.mem_of_getElem? hb
        refine (den_brow (T := fun x => x = q0.1) (B.each b hbm) (rowne b hbm) (no b hbm).1 fun q hq3 => ⟨fun z => ?_, (no b hbm).2 q hq3⟩).mono ex2.kp
        have m1 : q0.1 ∈ b.ps.map (·.1) := List.mem_map.mpr ⟨q, hq3, z⟩
        have m2 : q0.1 ∈ b0.ps.map (·.1) := List.mem_map.mpr ⟨q0, List.mem_of_getElem? hq, rfl⟩
        obtain ⟨hi1, ei⟩ := List.getElem?_eq_some_iff.mp hb
        obtain ⟨hj1, ej⟩ := List.getElem?_eq_some_iff.mp hj
        rcases Nat.lt_or_gt_of_ne e with lt | gt
        · have := List.pairwise_iff_getElem.mp nd2 i j hi1 hj1 lt
          rw [ei, ej] at this
          exact this _ m1 _ m2 rfl
        · have := List.pairwise_iff_getElem.mp nd2 j i hj1 hi1 gt
          rw [ei, ej] at this
          exact this _ m2 _ m1 rfl
  · rcases List.mem_or_eq_of_mem_set hd with h | h
    · obtain ⟨b, hb, rfl⟩ := List.mem_map.mp h
      exact ok.row hb
    · rw [h]
      refine rowT_mk rfl rfl (wavT_mk (by rw [List.length_set, List.length_map]; have := (ok.m b0 hm).1; omega) fun x hx => ?_) (fun x hx => by cases hx) (Nat.zero_le _)
      rcases List.mem_or_eq_of_mem_set hx with h | h
      · obtain ⟨y, hy, rfl⟩ := List.mem_map.mp h
        exact bw_ok (by have := (ok.m b0 hm).2 y hy; omega)
      · rw [h]
        exact hr
/-- the waves of a row, its own list apart -/
theorem wav_row {K : PySem.W.Frag} {X : Addr → Prop} {H : Hp} {p : Addr} {bs : List BRow} {j : Nat} {b0 : BRow} (B : BsAt (hid X H) p bs) (hj : bs[j]? = some b0) : SqL K (hid (fun b => X b ∨ b = b0.r) H) b0.w (b0.ps.map fun q => V.ref q.1) ∧ Dens K true (hid (fun b => X b ∨ b = b0.r) H) (b0.ps.map fun q => V.ref q.1) (b0.x.2.2.map bwT) := by
  have hm := List.mem_of_getElem? hj
  obtain ⟨np, no⟩ := at_str B (B.each b0 hm).hr
  have ex2 : Ex (hid (fun b => b = b0.r) (hid X H)) (hid (fun b => X b ∨ b = b0.r) H) := fun b u q => by
    obtain ⟨q1, q2⟩ := hid_some.mp q
    obtain ⟨q3, q4⟩ := hid_some.mp q2
    exact hid_some.mpr ⟨fun z => z.elim q3 q1, q4⟩
  refine ⟨SqL.of (ex2 _ _ (hid_some.mpr ⟨(no b0 hm).1, (B.each b0 hm).hw⟩)), (dens_pairs (T := fun x => x = b0.r) (B.each b0 hm).hp fun q hq => ⟨fun z => ?_, (no b0 hm).2 q hq⟩).mono ex2.kp⟩
  obtain ⟨i3, hi3, rfl⟩ := List.mem_iff_getElem.mp hq
  obtain ⟨y, _, hy⟩ := paired_get (B.each b0 hm).hp (List.getElem?_eq_getElem hi3)
  exact ne_of hy.1 (B.each b0 hm).hr pair_row_ne z
theorem shown_pair {K : PySem.W.Frag} {X : Addr → Prop} {H : Hp} {p : Addr} {bs : List BRow} {j m : Nat} {b0 : BRow} {q0 : Addr × Addr} {y : Wv} (B : BsAt (hid X H) p bs) (hj : bs[j]? = some b0) (hq : b0.ps[m]? = some q0) (hy : PairAt (hid X H) q0 y) : (hid (fun b => X b ∨ b = q0.1) H) q0.2 = some (.lst (intsV y.2)) := by
  obtain ⟨np, no⟩ := at_str B hy.1
  obtain ⟨h1, h2⟩ := hid_some.mp hy.2
  exact hid_some.mpr ⟨fun z => z.elim h1 ((no b0 (List.mem_of_getElem? hj)).2 q0 (List.mem_of_getElem? hq)), h2⟩
/-- all rows as they were -/
theorem log_same {K : PySem.W.Frag} {G : Hp} {p : Addr} {bs : List BRow} (B : BsAt G p bs) (ok : BsOk bs) : Dens K true G (bs.map fun b => V.ref b.r) (bs.map fun b => brT b.x) := by
  refine dens_get_all (by rw [List.length_map, List.length_map]) fun i v d h1 h2 => ?_
  rw [List.getElem?_map] at h1 h2
  cases hb : bs[i]? with
  | none => rw [hb] at h1; cases h1
  | some b =>
    rw [hb] at h1 h2
    obtain rfl := Option.some.inj h1
    obtain rfl := Option.some.inj h2
    exact den_brow0 (B.each b (List.mem_of_getElem? hb))
def sv : V → Bool
  | .non => true
  | .bl _ => true
  | .int _ => true
  | .str _ => true
  | _ => false
theorem sv_den {K : PySem.W.Frag} {v : V} (h : sv v = true) : ∃ d, scT d = true ∧ ∀ G : Hp, Den K true G v d := by
  cases v with
  | non => exact ⟨.non, rfl, fun _ => .non⟩
  | bl b => exact ⟨.bl b, rfl, fun _ => .bl b⟩
  | int i => exact ⟨.int i, rfl, fun _ => .int i⟩
  | str x => exact ⟨.str x, rfl, fun _ => .str x⟩
  | _ => cases h
theorem sv_mem {K : PySem.W.Frag} {xs : List V} {v : V} (h : xs.all sv = true) (hv : v ∈ xs) : ∃ d, scT d = true ∧ ∀ G : Hp, Den K true G v d := sv_den (List.all_eq_true.mp h v hv)
theorem atI_end {xs : List V} {v : V} (h : xs[xs.length - 1]? = some v) : atI xs (-1) = some v := by
  have h0 : 0 < xs.length := by
    have := (List.getElem?_eq_some_iff.mp h).1
    omega
  unfold atI
  have : ixN xs.length (-1) = some (xs.length - 1) := by
    unfold ixN
    rw [if_neg (by omega), if_pos (by omega)]
    congr 1
    omega
  rw [this]
  exact h
theorem sts_end {K : PySem.W.Frag} {G : Hp} {ys : List V} {l : List St3} (h : Dens K true G ys (l.map stT)) (h0 : l ≠ []) : ∃ t s, atI ys (-1) = some (.ref t) ∧ SqT K G t (stV s) := by
  have yl : ys.length = l.length := by rw [h.length, List.length_map]
  have lp : 0 < l.length := List.length_pos_iff.mpr h0
  have hs : l[ys.length - 1]? = some l[ys.length - 1] := List.getElem?_eq_getElem (by omega)
  obtain ⟨v, hv, dv⟩ := h.get' (i := ys.length - 1) (d := stT l[ys.length - 1]) (by rw [List.getElem?_map, hs]; rfl)
  obtain ⟨t, rfl, ht⟩ := den_st dv
  exact ⟨t, _, atI_end hv, ht⟩
theorem strs_end {l : List Str} (h0 : l ≠ []) : ∃ x, atI (strsV l) (-1) = some (.str x) := by
  have lp : 0 < l.length := List.length_pos_iff.mpr h0
  refine ⟨l[l.length - 1], atI_end ?_⟩
  rw [strs_len]
  unfold strsV
  rw [List.getElem?_map, List.getElem?_eq_getElem (by omega)]
  rfl
theorem strs_head {l : List Str} (h0 : l ≠ []) : ∃ x, atI (strsV l) 0 = some (.str x) := by
  cases l with
  | nil => exact absurd rfl h0
  | cons x l => exact ⟨x, atI_nat (j := 0) rfl⟩
/-- items that all stand for something of a kind -/
theorem dens_all {K : PySem.W.Frag} {b : Bool} {H : Hp} {T : Tr → Prop} : ∀ {us : List V}, (∀ v ∈ us, ∃ d, T d ∧ Den K b H v d) → ∃ es, Dens K b H us es ∧ ∀ e ∈ es, T e
  | [], _ => ⟨[], .nil, fun e he => by cases he⟩
  | v :: us, h => by
    obtain ⟨d, h1, h2⟩ := h v List.mem_cons_self
    obtain ⟨es, h3, h4⟩ := dens_all fun u hu => h u (List.mem_cons_of_mem _ hu)
    refine ⟨d :: es, .cons h2 h3, fun e he => ?_⟩
    rcases List.mem_cons.mp he with rfl | he
    · exact h1
    · exact h4 e he
theorem ref_ints {z : Addr} {r : List V} {l : List Nat} : HO.lst (.ref z :: r) ≠ HO.lst (intsV l) := by
  intro h
  have h := HO.lst.inj h
  cases l with
  | nil => cases h
  | cons a l => cases (List.cons.inj h).1
/-- the rows, the log's own list apart -/
theorem rows_apart {K : PySem.W.Frag} {X : Addr → Prop} {H : Hp} {p : Addr} {bs : List BRow} (B : BsAt (hid X H) p bs) (h0 : bs ≠ []) : ∀ b ∈ bs, Den K true (hid (fun b => X b ∨ b = p) H) (.ref b.r) (brT b.x) := by
  intro b hb
  have ex2 : Ex (hid (fun b => b = p) (hid X H)) (hid (fun b => X b ∨ b = p) H) := fun b u q => by
    obtain ⟨q1, q2⟩ := hid_some.mp q
    obtain ⟨q3, q4⟩ := hid_some.mp q2
    exact hid_some.mpr ⟨fun z => z.elim q3 q1, q4⟩
  obtain ⟨b1, r1, rfl⟩ : ∃ b1 r1, bs = b1 :: r1 := by
    cases bs with
    | nil => exact absurd rfl h0
    | cons b1 r1 => exact ⟨b1, r1, rfl⟩
  refine (den_brow (T := fun x => x = p) (B.each b hb) (fun z => (at_str B (B.each b hb).hr).1 z.symm) (B.pw b hb) fun q hq => ?_).mono ex2.kp
  obtain ⟨i, hi, rfl⟩ := List.mem_iff_getElem.mp hq
  obtain ⟨y, _, hy⟩ := paired_get (B.each b hb).hp (List.getElem?_eq_getElem hi)
  exact ⟨fun z => (at_str B hy.1).1 z.symm, fun z => ne_of B.top hy.2 ref_ints z.symm⟩
/-- the waves of a row, the log's own list apart -/
theorem wav_apart {K : PySem.W.Frag} {X : Addr → Prop} {H : Hp} {p : Addr} {bs : List BRow} (B : BsAt (hid X H) p bs) (h0 : bs ≠ []) : ∀ b ∈ bs, Den K true (hid (fun b => X b ∨ b = p) H) (.ref b.w) (.lst (b.x.2.2.map bwT)) := by
  intro b hb
  have ex2 : Ex (hid (fun b => b = p) (hid X H)) (hid (fun b => X b ∨ b = p) H) := fun b u q => by
    obtain ⟨q1, q2⟩ := hid_some.mp q
    obtain ⟨q3, q4⟩ := hid_some.mp q2
    exact hid_some.mpr ⟨fun z => z.elim q3 q1, q4⟩
  obtain ⟨b1, r1, rfl⟩ : ∃ b1 r1, bs = b1 :: r1 := by
    cases bs with
    | nil => exact absurd rfl h0
    | cons b1 r1 => exact ⟨b1, r1, rfl⟩
  refine .lst (SqL.of (ex2 _ _ (hid_some.mpr ⟨B.pw b hb, (B.each b hb).hw⟩))) ((dens_pairs (T := fun x => x = p) (B.each b hb).hp fun q hq => ?_).mono ex2.kp)
  obtain ⟨i, hi, rfl⟩ := List.mem_iff_getElem.mp hq
  obtain ⟨y, _, hy⟩ := paired_get (B.each b hb).hp (List.getElem?_eq_getElem hi)
  exact ⟨fun z => (at_str B hy.1).1 z.symm, fun z => ne_of B.top hy.2 ref_ints z.symm⟩
/-- the log's own list written anew -/
theorem log_put {K : PySem.W.Frag} {X : Addr → Prop} {H : Hp} {p : Addr} {us : List V} {ds : List Tr} (hX : ¬ X p) (h : Dens K true (hid (fun b => X b ∨ b = p) H) us ds) (hl : ds.length ≤ 16) (hr : ∀ d ∈ ds, RowT d) : LogAt K (hid X (upd H p (.lst us))) p := by
  have ex : Ex (hid (fun b => X b ∨ b = p) H) (hid X (upd H p (.lst us))) := fun b u q => by
    obtain ⟨q1, q2⟩ := hid_some.mp q
    exact hid_some.mpr ⟨fun z => q1 (.inl z), by rw [upd_ne fun z => q1 (.inr z)]; exact q2⟩
  exact ⟨ds, .lst (SqL.of (hid_some.mpr ⟨hX, upd_same⟩)) (h.mono ex.kp), hl, hr⟩
theorem cut_mem {xs : List V} {lo hi : Option Int} {v : V} (h : v ∈ cutV xs lo hi) : v ∈ xs := by
  unfold cutV at h
  exact List.mem_of_mem_drop (List.mem_of_mem_take h)
end K77

set_option Elab.async false
set_option linter.all false
set_option maxRecDepth 100000
set_option maxHeartbeats 4000000
namespace K77
open PySem PySem.Spec PyProof.Rows L2 DL
theorem den_dp {K : PySem.W.Frag} {b : Bool} {H : Hp} : ∀ (n : Nat) (d : Tr) (v : V), Okt n d → Den K b H v d → ∃ e, Dp K H v e ∧ e.plain = true ∧ (∀ xs, d = .lst xs → ∃ es, e = .list es ∧ es.length = xs.length) := by
  have all : ∀ (n : Nat), (∀ (d : Tr) (v : V), Okt n d → Den K b H v d → ∃ e, Dp K H v e ∧ e.plain = true) → ∀ (ds : List Tr) (vs : List V), (∀ d ∈ ds, Okt n d) → Dens K b H vs ds → ∃ es, DpAll K H vs es ∧ PyData.plainAll es = true ∧ es.length = ds.length := by
    intro n ih ds
    induction ds with
    | nil =>
      intro vs _ h
      cases h
      exact ⟨[], .nil, rfl, rfl⟩
    | cons d ds ih2 =>
      intro vs ho h
      cases h with
      | cons h1 h2 =>
        obtain ⟨e, e1, e2⟩ := ih d _ (ho d List.mem_cons_self) h1
        obtain ⟨es, s1, s2, s3⟩ := ih2 _ (fun x hx => ho x (List.mem_cons_of_mem _ hx)) h2
        exact ⟨e :: es, .cons e1 s1, by simp [PyData.plainAll, e2, s2], by simp [s3]⟩
  intro n
  induction n with
  | zero =>
    intro d v ho h
    cases h with
    | non => exact ⟨_, .non, rfl, fun xs z => by cases z⟩
    | bl x => exact ⟨_, .bl x, rfl, fun xs z => by cases z⟩
    | int x => exact ⟨_, .int x, rfl, fun xs z => by cases z⟩
    | str x => exact ⟨_, .str x, rfl, fun xs z => by cases z⟩
    | _ => exact ho.elim
  | succ n ih =>
    intro d v ho h
    cases h with
    | non => exact ⟨_, .non, rfl, fun xs z => by cases z⟩
    | bl x => exact ⟨_, .bl x, rfl, fun xs z => by cases z⟩
    | int x => exact ⟨_, .int x, rfl, fun xs z => by cases z⟩
    | str x => exact ⟨_, .str x, rfl, fun xs z => by cases z⟩
    | lst h1 h2 =>
      obtain ⟨es, s1, s2, s3⟩ := all n (fun d v o h => (ih d v o h).imp fun e z => ⟨z.1, z.2.1⟩) _ _ ho.2 h2
      exact ⟨.list es, .lst h1 s1, by simp [PyData.plain, s2], fun xs z => ⟨es, rfl, by cases z; exact s3⟩⟩
    | tup h1 h2 =>
      obtain ⟨es, s1, s2, s3⟩ := all n (fun d v o h => (ih d v o h).imp fun e z => ⟨z.1, z.2.1⟩) _ _ ho.2 h2
      exact ⟨.tuple es, .tup h1 s1, by simp [PyData.plain, s2], fun xs z => by cases z⟩
    | dic _ _ => exact ho.elim
theorem eqv_nilL : ∀ es : List PyData, PyData.eqv (.list es) (.list []) = es.isEmpty
  | [] => by decide
  | n :: r => by simp [PyData.eqv, PyData.eqvAll]
theorem rd_eqNilP {K : PySem.W.Frag} {b : Bool} {σ : L2.St} {H : Hp} {i : Nat} {p : Addr} {n : Nat} {ds : List Tr} {Q : VK} (hs : σ[i]? = some (some (.ref p))) (hd : Den K b H (.ref p) (.lst ds)) (ho : Okt n (.lst ds)) (q : ∀ H', Ex H H' → Q (.bl ds.isEmpty) H') : tOp (XQ.rEqP K) (tVar i) (tLst tNil) σ H Q := by
  refine ⟨_, hs, by show 0 ≤ sizeLine; omega, fun t ht => ?_⟩
  have e := (Ex.refl H).new (o := .lst []) ht
  obtain ⟨e1, h1, h2, h3⟩ := den_dp n _ _ ho (hd.mono e.kp)
  obtain ⟨es, rfl, hl⟩ := h3 ds rfl
  have z := q _ e
  have e0 : ds.isEmpty = es.isEmpty := by
    cases ds <;> cases es <;> first | rfl | simp at hl
  rw [e0, ← eqv_nilL] at z
  exact ⟨.list es, .list [], h1, .lst (SqL.of upd_same) .nil, h2, by decide, by simp [PyData.depth, PyData.depthAll], z⟩
theorem logT_get {l : List LRow} {i : Nat} {d : Tr} (h : (l.map lrT)[i]? = some d) : ∃ x, l[i]? = some x ∧ d = lrT x := by
  rw [List.getElem?_map] at h
  cases e : l[i]? with
  | none => rw [e] at h; cases h
  | some x =>
    rw [e] at h
    exact ⟨x, rfl, (Option.some.inj h).symm⟩
theorem den_lr {K : PySem.W.Frag} {H : Hp} {v : V} {x : LRow} (h : Den K true H v (lrT x)) : ∃ t w ys, v = .ref t ∧ SqT K H t [.str x.1, .int (x.2.1 : Nat), .ref w] ∧ SqL K H w ys ∧ Dens K true H ys (x.2.2.map wvT) := by
  unfold lrT at h
  cases h with
  | tup h1 h2 =>
    cases h2 with
    | cons a r =>
      cases r with
      | cons b r =>
        cases r with
        | cons c r =>
          cases r
          cases a
          cases b
          obtain ⟨w, ys, rfl, q1, q2⟩ := den_lst c
          exact ⟨_, w, ys, rfl, h1, q1, q2⟩
theorem den_wv {K : PySem.W.Frag} {H : Hp} {v : V} {x : Wv} (h : Den K true H v (wvT x)) : ∃ t s, v = .ref t ∧ SqT K H t [.str x.1, .ref s] ∧ SqL K H s (intsV x.2) := by
  unfold wvT at h
  cases h with
  | tup h1 h2 =>
    cases h2 with
    | cons a r =>
      cases r with
      | cons b r =>
        cases r
        cases a
        obtain ⟨w, ys, rfl, q1, q2⟩ := den_lst b
        rw [dens_ints q2] at q1
        exact ⟨_, w, rfl, h1, q1⟩
section
variable {P : Program} {w : World} {K : PySem.W.Frag} {mg : Str → Option Value} {base : Heap} {f : Addr} {fd : FuncData}
def ThingOk (d : Tr) : Prop := Okc 5 d ∧ (isSeq d = true → Okt 5 d ∧ LogSc d)
def spBent (K : PySem.W.Frag) : Sp := fun vs H Q _ => ∃ (a c R L0 : Addr) (N : Nat) (r : Raw) (l : List LRow), vs = [.ref a, .ref R, .ref L0] ∧ StAt H a c N ∧ N + 2000000 < 1099511627776 ∧ RawAt K (hs a c H) R r ∧ RawOk r ∧ Small r ∧ Den K true (hs a c H) (.ref L0) (logT l) ∧ LogOk r l ∧
  ∀ v d H', StAt H' a c (N + 2000000) → Bar a c H H' → Den K true (hs a c H') v d → ThingOk d → Q v H'
theorem sc_law_bent_log : FnScope ["state", "raw", "log", "some", "row", "at", "way", "k", "one", "shown"] ["state", "raw", "log"] (defScope s_law_bent_log) := ⟨rfl, rfl, rfl, by decide +kernel, rfl, by decide +kernel, by decide +kernel⟩
theorem ok_law_bent_log (W : Wld K mg) (F : FnP K "_law_bent_log" s_law_bent_log f fd) : FnOk P w K mg base CX0 10 f fd ["state", "raw", "log"] (spBent K) := by
  have C_law_pick : Cal P w K mg base 2 "_law_pick" ["state", "many"] spPick := c_law_pick W
  have C_law_one : Cal P w K mg base 3 "_law_one" ["state", "things"] (spOne K) := c_law_one W
  have C_law_mixed : Cal P w K mg base 3 "_law_mixed" ["state", "things"] (spMixed K) := c_law_mixed W
  have C_law_loose : Cal P w K mg base 9 "_law_loose" ["state", "thing"] (spLoose K 6) := c_law_loose W 6
  refine F.ok sc_law_bent_log (fun vs H Q E h => ?_) (fun cdv A outer s H vs Q E hr h => ?_)
  · obtain ⟨a, c, R, L0, N, r, l, rfl, _⟩ := h
    rfl
  obtain ⟨a, c, R, L0, N, r, l, rfl, hS, hN, hR, ok, sm, hL, ⟨hl6, hlx⟩, k⟩ := h
  refine ⟨_, PSs.nox (pss_cons (ps_setLc (i := 3) (own := [("row", 4)]) (g := gName 4) (tt := tYes) (te := (tLst (tCons (tOp (rIxT K) (tVar 4) (tC (.int 0))) (tCons (tOp (rIxT K) (tVar 4) (tC (.int 1))) (tCons (tLc (iList K (tOp (rIxT K) (tVar 4) (tC (.int 2)))) (gTup K 2 (gCons (gName 8) (gCons (gName 9) gNil))) tYes (tLst (tCons (tVar 8) (tCons (tCB (rListQ K) (tCons (tVar 9) tNil)) tNil))) [8, 9]) tNil))))) rfl sc_law_bent_log.nd rfl rfl (sw_true rfl rfl rfl (by decide +kernel)) (pi_list (pv 2)) (blkOk_by (N := ["state", "raw", "log", "some", "row", "at", "way", "k", "one", "shown"]) (sc := defScope s_law_bent_log) (by decide +kernel)) (fun _ _ _ _ _ => pg_name (i := 4) sc_law_bent_log.nd rfl (Or.inl rfl)) (fun _ _ _ _ _ => pts_nil) (fun _ _ _ _ _ => (pe_lst (pa_cons (pe_ix ix_tup (pv 4) pe_int (fun _ _ => rfl)) (pa_cons (pe_ix ix_tup (pv 4) pe_int (fun _ _ => rfl)) (pa_cons (pe_lc (own := [("one", 8), ("shown", 9)]) (g := gTup K 2 (gCons (gName 8) (gCons (gName 9) gNil))) (tt := tYes) (te := (tLst (tCons (tVar 8) (tCons (tCB (rListQ K) (tCons (tVar 9) tNil)) tNil)))) rfl sc_law_bent_log.nd (pi_list (pe_ix ix_tup (pv 4) pe_int (fun _ _ => rfl))) (blkOk_by (N := ["state", "raw", "log", "some", "row", "at", "way", "k", "one", "shown"]) (sc := (lcScope (asgVal ((defBody s_law_bent_log).getD 0 (.Pass ⟨0, 0, 0, 0⟩))))) (by decide +kernel)) (fun _ _ _ _ _ => (pg_tup rfl (pgs_cons (pg_name (i := 8) sc_law_bent_log.nd rfl (.inl rfl)) (pgs_cons (pg_name (i := 9) sc_law_bent_log.nd rfl (.inl rfl)) pgs_nil)))) (fun _ _ _ _ _ => pts_nil) (fun _ _ _ _ _ => (pe_lst (pa_cons (pv 8) (pa_cons (pe_callTy call_list_of (by rfl) W.n_list (by decide +kernel) (pa_cons (pv 9) pa_nil)) pa_nil))))) pa_nil))))))
    (pss_cons (ps_if (pt_cmpR (XQ.op_eqP hr.units) (pv 3) (pe_lst pa_nil) (nomark _))
    (pss_one (ps_ret (pe_c C_law_one (hr.mono (by decide)) (pa_cons (pv 0) (pa_cons (pe_lst (pa_cons (pe_lst (pa_cons pe_non pa_nil)) (pa_cons pe_non (pa_cons pe_int (pa_cons pe_str (pa_cons (pe_lst (pa_cons (pe_tup (pa_cons pe_str (pa_cons pe_int (pa_cons (pe_lst pa_nil) pa_nil)))) pa_nil)) (pa_cons pe_dnewK pa_nil))))))) pa_nil)))))
    pss_nil)
    (pss_cons (ps_par (i := 5) (j := 6) rfl sc_law_bent_log.nd rfl rfl (by decide) rfl rfl (pa_cons (pe_c C_law_pick (hr.mono (by decide)) (pa_cons (pv 0) (pa_cons (pe_callB call_len_seq (by rfl) W.n_len (by decide +kernel) (pa_cons (pv 3) pa_nil)) pa_nil))) (pa_cons (pe_c C_law_pick (hr.mono (by decide)) (pa_cons (pv 0) (pa_cons pe_int pa_nil))) pa_nil)) (by rfl))
    (pss_cons (ps_set (i := 4) sc_law_bent_log.nd rfl (.inl rfl) (pe_ix ix_list (pv 3) (pv 5) (fun _ _ => rfl)))
    (pss_cons (ps_set (i := 7) sc_law_bent_log.nd rfl (.inl rfl) (pe_c C_law_pick (hr.mono (by decide)) (pa_cons (pv 0) (pa_cons (pe_callB call_len_seq (by rfl) W.n_len (by decide +kernel) (pa_cons (pe_ix ix_list (pv 4) pe_int (fun _ _ => rfl)) pa_nil)) pa_nil))))
    (pss_cons (ps_if (pt_cmpR op_eq (pv 6) pe_int (nomark _))
    (pss_one (ps_asg (pe_c C_law_one (hr.mono (by decide)) (pa_cons (pv 0) (pa_cons (pe_lst (pa_cons pe_str (pa_cons pe_non (pa_cons pe_str (pa_cons (pe_ix ix_tup (pe_ix ix_list (pe_ix ix_list (pv 1) pe_int (fun _ _ => rfl)) (pe_un un_neg pe_int) (fun _ _ => rfl)) pe_int (fun _ _ => rfl)) (pa_cons pe_int pa_nil)))))) pa_nil))) (pg_sub (pv 4) pe_int set_list)))
    (pss_one (ps_if (pt_cmpR op_eq (pv 6) pe_int (nomark _))
    (pss_one (ps_asg (pe_c C_law_one (hr.mono (by decide)) (pa_cons (pv 0) (pa_cons (pe_lst (pa_cons (pe_un un_neg pe_int) (pa_cons pe_non (pa_cons pe_bl (pa_cons (pe_callB call_len_seq (by rfl) W.n_len (by decide +kernel) (pa_cons (pe_ix ix_list (pv 1) pe_int (fun _ _ => rfl)) pa_nil)) (pa_cons pe_str (pa_cons pe_int (pa_cons pe_int pa_nil)))))))) pa_nil))) (pg_sub (pv 4) pe_int set_list)))
    (pss_one (ps_if (pt_cmpR op_eq (pv 6) pe_int (nomark _))
    (pss_one (ps_asg (pe_c C_law_one (hr.mono (by decide)) (pa_cons (pv 0) (pa_cons (pe_lst (pa_cons pe_str (pa_cons pe_non (pa_cons (pe_ix ix_list (pe_ix ix_list (pv 1) pe_int (fun _ _ => rfl)) (pe_un un_neg pe_int) (fun _ _ => rfl)) (pa_cons (pe_ix ix_list (pe_ix ix_list (pv 1) pe_int (fun _ _ => rfl)) pe_int (fun _ _ => rfl)) (pa_cons pe_int pa_nil)))))) pa_nil))) (pg_sub (pe_ix ix_list (pe_ix ix_list (pv 4) pe_int (fun _ _ => rfl)) (pv 7) (fun _ _ => rfl)) pe_int set_list)))
    (pss_one (ps_if (pt_cmpR op_eq (pv 6) pe_int (nomark _))
    (pss_one (ps_asg (pe_c C_law_one (hr.mono (by decide)) (pa_cons (pv 0) (pa_cons (pe_lst (pa_cons (pe_lst pa_nil) (pa_cons pe_non (pa_cons (pe_lst (pa_cons pe_int pa_nil)) (pa_cons (pe_lst (pa_cons pe_bl pa_nil)) (pa_cons (pe_lst (pa_cons pe_str pa_nil)) (pa_cons (pe_lst (pa_cons pe_int (pa_cons pe_non pa_nil))) (pa_cons pe_str (pa_cons pe_int pa_nil))))))))) pa_nil))) (pg_sub (pe_ix ix_list (pe_ix ix_list (pv 4) pe_int (fun _ _ => rfl)) (pv 7) (fun _ _ => rfl)) pe_int set_list)))
    (pss_one (ps_if (pt_cmpR op_eq (pv 6) pe_int (nomark _))
    (pss_one (ps_asg (pe_op op_cat (pe_ix ix_list (pe_ix ix_list (pe_ix ix_list (pv 4) pe_int (fun _ _ => rfl)) (pv 7) (fun _ _ => rfl)) pe_int (fun _ _ => rfl)) (pe_lst (pa_cons (pe_c C_law_one (hr.mono (by decide)) (pa_cons (pv 0) (pa_cons (pe_lst (pa_cons pe_int (pa_cons pe_int (pa_cons (pe_un un_neg pe_int) pa_nil)))) pa_nil))) pa_nil))) (pg_sub (pe_ix ix_list (pe_ix ix_list (pv 4) pe_int (fun _ _ => rfl)) (pv 7) (fun _ _ => rfl)) pe_int set_list)))
    (pss_one (ps_if (pt_cmpR op_eq (pv 6) pe_int (nomark _))
    (pss_one (ps_asg (pe_c C_law_one (hr.mono (by decide)) (pa_cons (pv 0) (pa_cons (pe_lst (pa_cons (pe_slice sl_list (pe_ix ix_list (pv 4) pe_int (fun _ _ => rfl)) po_none (po_some (pe_un un_neg pe_int))) (pa_cons (pe_op op_cat (pe_ix ix_list (pv 4) pe_int (fun _ _ => rfl)) (pe_lst (pa_cons (pe_ix ix_list (pe_ix ix_list (pv 4) pe_int (fun _ _ => rfl)) pe_int (fun _ _ => rfl)) pa_nil))) (pa_cons pe_non (pa_cons pe_str pa_nil))))) pa_nil))) (pg_sub (pv 4) pe_int set_list)))
    (pss_one (ps_if (pt_cmpR op_eq (pv 6) pe_int (nomark _))
    (pss_one (ps_expr (pe_bm PySem.F.plainAttrs_list PySem.F.slot_list_insert PySem.F.type_list_insert mt_insert (pv 3) (pa_cons (pv 5) (pa_cons (pe_c C_law_one (hr.mono (by decide)) (pa_cons (pv 0) (pa_cons (pe_lst (pa_cons pe_non (pa_cons (pv 4) (pa_cons (pe_slice sl_list (pv 4) po_none (po_some pe_int)) (pa_cons (pe_op op_cat (pv 4) (pe_lst (pa_cons pe_int pa_nil))) (pa_cons pe_int pa_nil)))))) pa_nil))) pa_nil)))))
    (pss_one (ps_if (pt_cmpR op_eq (pv 6) pe_int (nomark _))
    (pss_one (ps_expr (pe_bm PySem.F.plainAttrs_list PySem.F.slot_list_pop PySem.F.type_list_pop mt_popAt (pv 3) (pa_cons (pv 5) pa_nil))))
    (pss_one (ps_if (pt_cmpR op_eq (pv 6) pe_int (nomark _))
    (pss_one (ps_ret (pe_c C_law_one (hr.mono (by decide)) (pa_cons (pv 0) (pa_cons (pe_lst (pa_cons pe_non (pa_cons pe_int (pa_cons pe_str (pa_cons pe_dnewK (pa_cons (pv 3) pa_nil)))))) pa_nil)))))
    (pss_one (ps_asg (pe_c C_law_mixed (hr.mono (by decide)) (pa_cons (pv 0) (pa_cons (pe_ix ix_list (pv 4) pe_int (fun _ _ => rfl)) pa_nil))) (pg_sub (pv 4) pe_int set_list))))))))))))))))))))
    (pss_one (ps_ret (pe_c C_law_loose (hr.mono (by decide)) (pa_cons (pv 0) (pa_cons (pv 3) pa_nil))))))))))), ?_⟩
  have lm := sm.m
  obtain ⟨L0', lys, e0, hq0, hd0⟩ := den_lst (hL.mono hs_ex.kp)
  obtain rfl : L0 = L0' := V.ref.inj e0
  have lyl : lys.length = l.length := by rw [hd0.length, List.length_map]
  -- the log laid anew
  refine ⟨_, rfl, L0, rfl, ⟨_, hq0⟩, fun p hp => ?_⟩
  refine lc_it walk_list (fun i H' => Ex H H' ∧ ∃ bs : List BRow, H' p = some (.lst (bs.map fun b => V.ref b.r)) ∧ (∀ b ∈ bs, BAt (hid (fun b => H b ≠ none ∨ b = p) H') b) ∧ (bs.map (·.r)).Nodup ∧ (bs.flatMap fun b => b.ps.map (·.1)).Nodup ∧ bs.map (·.x) = l.take i)
    ⟨(Ex.refl H).new hp, [], upd_same, fun b hb => (by cases hb), List.nodup_nil, List.nodup_nil, by rw [List.take_zero]; rfl⟩ (fun i H' _ h => h.1.er.l hq0) ?_ ?_
  · rintro i v H1 H1' hi ⟨e1, bs, hbt, hbs, hnr, hnp, hbx⟩ ⟨rfl, hv⟩
    obtain ⟨d, hd, dv⟩ := hd0.get hv
    obtain ⟨x, hx, rfl⟩ := logT_get hd
    obtain ⟨t, w0, ys, rfl, ht, hw, hys⟩ := den_lr dv
    obtain ⟨hx1, hx2⟩ := hlx x (List.mem_of_getElem? hx)
    have yl : ys.length = x.2.2.length := by rw [hys.length, List.length_map]
    refine ⟨rfl, ?_⟩
    refine ⟨_, rfl, t, _, 0, _, rfl, rfl, e1.er.t ht, rfl, _, rfl, t, _, 1, _, rfl, rfl, e1.er.t ht, rfl, ?_⟩
    refine ⟨_, rfl, t, _, 2, .ref w0, rfl, rfl, e1.er.t ht, rfl, w0, rfl, ⟨_, e1.er.l hw⟩, fun p2 hp2 => ?_⟩
    refine lc_it walk_list (fun j H' => Ex H1' H' ∧ ∃ ps : List (Addr × Addr), H' p2 = some (.lst (ps.map fun q => V.ref q.1)) ∧ Paired (PairAt (hid (fun b => H1' b ≠ none ∨ b = p2) H')) ps (x.2.2.take j) ∧ (ps.map (·.1)).Nodup) ⟨(Ex.refl H1').new hp2, [], upd_same, by rw [List.take_zero]; exact .nil, List.nodup_nil⟩ (fun i H' _ h => (e1.trans h.1).er.l hw) ?_ ?_
    · rintro j u H2 H2' hj ⟨e2, ps, h2, hps, hnd⟩ ⟨rfl, hu⟩
      obtain ⟨du, hdu, dvu⟩ := hys.get hu
      rw [List.getElem?_map] at hdu
      obtain ⟨y, hy, rfl⟩ : ∃ y, x.2.2[j]? = some y ∧ du = wvT y := by
        cases e : x.2.2[j]? with
        | none => rw [e] at hdu; cases hdu
        | some y => rw [e] at hdu; exact ⟨y, rfl, (Option.some.inj hdu).symm⟩
      obtain ⟨tu, su, rfl, htu, hsu⟩ := den_wv dvu
      have e12 := e1.trans e2
      refine ⟨tu, _, rfl, e12.er.t htu, rfl, _, _, rfl, _, _, rfl, rfl, rfl, ?_⟩
      refine ⟨_, rfl, _, rfl, su, _, rfl, .inl (e12.er.l hsu), fun s1 hs1 => ?_⟩
      have x3 : Ex H2' (upd H2' s1 (.lst (intsV y.2))) := (Ex.refl H2').new hs1
      have y3 : upd H2' s1 (.lst (intsV y.2)) s1 = some (.lst (intsV y.2)) := upd_same
      generalize upd H2' s1 (.lst (intsV y.2)) = H3 at x3 y3 ⊢
      refine ⟨by show 2 ≤ sizeLine; decide, fun q1 hq1 => ?_⟩
      have x4 : Ex H3 (upd H3 q1 (.lst [.str y.1, .ref s1])) := (Ex.refl H3).new hq1
      have y4 : upd H3 q1 (.lst [.str y.1, .ref s1]) q1 = some (.lst [.str y.1, .ref s1]) := upd_same
      have y34 := x4 _ _ y3
      generalize upd H3 q1 (.lst [.str y.1, .ref s1]) = H4 at x4 y4 y34 ⊢
      have h4 := x4 _ _ (x3 _ _ h2)
      have pl := paired_len hps
      rw [List.length_take] at pl
      have f1 : H1' q1 = none := e2.free (x3.free hq1)
      have f2 : H1' s1 = none := e2.free hs1
      have n1 : q1 ≠ p2 := (ne_of_none (x3 _ _ h2) hq1).symm
      have n2 : s1 ≠ p2 := (ne_of_none h2 hs1).symm
      have up : Ex (hid (fun b => H1' b ≠ none ∨ b = p2) H2') (hid (fun b => H1' b ≠ none ∨ b = p2) (upd H4 p2 (.lst ((ps.map fun q => V.ref q.1) ++ [.ref q1])))) := (hid_of (x3.trans x4)).trans (hx_put (.inr rfl))
      refine ⟨_, h4, by rw [List.length_map, pl, sizeLine_eq]; omega, fun b o hb => ?_, ps ++ [(q1, s1)], ?_, ?_, ?_⟩
      · rw [upd_ne (ne_of_none hb hp2)]
        exact x4 _ _ (x3 _ _ (e2 _ _ hb))
      · rw [upd_same, List.map_append]
        rfl
      · rw [List.take_add_one, hy]
        exact XL.paired_app (paired_mono (fun q z hz => hz.mono up) hps) (.cons ⟨hid_some.mpr ⟨fun z => z.elim (fun z => z f1) n1, by rw [upd_ne n1]; exact y4⟩, hid_some.mpr ⟨fun z => z.elim (fun z => z f2) n2, by rw [upd_ne n2]; exact y34⟩⟩ .nil)
      · rw [List.map_append]
        refine List.nodup_append.mpr ⟨hnd, List.nodup_cons.mpr ⟨(fun z => nomatch z), List.nodup_nil⟩, fun b hb b2 hb2 => ?_⟩
        rw [List.mem_singleton.mp hb2]
        obtain ⟨q, hq, rfl⟩ := List.mem_map.mp hb
        obtain ⟨i3, hi3, rfl⟩ := List.mem_iff_getElem.mp hq
        obtain ⟨z, _, hz⟩ := paired_get hps (List.getElem?_eq_getElem hi3)
        exact ne_of_none (x3 _ _ (hid_some.mp hz.1).2) hq1
    · intro H2 ⟨e2, ps, h2, hps, hnd⟩
      rw [yl, List.take_length] at hps
      refine ⟨by show 3 ≤ sizeLine; decide, fun r1 hr1 => ?_⟩
      have x3 : Ex H2 (upd H2 r1 (.lst [.str x.1, .int (x.2.1 : Nat), .ref p2])) := (Ex.refl H2).new hr1
      have y3 : upd H2 r1 (.lst [.str x.1, .int (x.2.1 : Nat), .ref p2]) r1 = some (.lst [.str x.1, .int (x.2.1 : Nat), .ref p2]) := upd_same
      generalize upd H2 r1 (.lst [.str x.1, .int (x.2.1 : Nat), .ref p2]) = H3 at x3 y3 ⊢
      have e13 := e2.trans x3
      have hb3 := e13 _ _ hbt
      have bl : bs.length = i := by
        have := congrArg List.length hbx
        rw [List.length_map, List.length_take] at this
        omega
      have nr1 : r1 ≠ p := (ne_of_none (e2 _ _ hbt) hr1).symm
      have np2 : p2 ≠ p := (ne_of_none hbt hp2).symm
      have new : ∀ {b : Addr}, H1' b = none → b ≠ p → ¬ (H b ≠ none ∨ b = p) := fun h1 h2 z => z.elim (fun z => z (e1.free h1)) h2
      have up : Ex (hid (fun b => H b ≠ none ∨ b = p) H1') (hid (fun b => H b ≠ none ∨ b = p) (upd H3 p (.lst ((bs.map fun b => V.ref b.r) ++ [.ref r1])))) := (hid_of e13).trans (hx_put (.inr rfl))
      have nq : ∀ {b : Addr} {o : HO}, hid (fun b => H1' b ≠ none ∨ b = p2) H2 b = some o → hid (fun b => H b ≠ none ∨ b = p) (upd H3 p (.lst ((bs.map fun b => V.ref b.r) ++ [.ref r1]))) b = some o := fun {b o} hb => by
        obtain ⟨z1, z2⟩ := hid_some.mp hb
        have z3 : H1' b = none := by
          cases hz : H1' b with
          | none => rfl
          | some u => exact absurd (.inl (by rw [hz]; exact fun w => nomatch w)) z1
        have nb : b ≠ p := fun z => by rw [z, hbt] at z3; cases z3
        exact hid_some.mpr ⟨new z3 nb, by rw [upd_ne nb]; exact x3 _ _ z2⟩
      refine ⟨_, hb3, by rw [List.length_map, bl, sizeLine_eq]; omega, fun b o hb => ?_, bs ++ [⟨r1, p2, ps, x⟩], ?_, ?_, ?_, ?_, ?_⟩
      · rw [upd_ne (ne_of_none hb hp)]
        exact e13 _ _ (e1 _ _ hb)
      · rw [upd_same, List.map_append]
        rfl
      · intro b hb
        rcases List.mem_append.mp hb with h | h
        · exact (hbs b h).mono up
        · rw [List.mem_singleton.mp h]
          refine ⟨hid_some.mpr ⟨new (e2.free hr1) nr1, by rw [upd_ne nr1]; exact y3⟩, hid_some.mpr ⟨new hp2 np2, by rw [upd_ne np2]; exact x3 _ _ h2⟩, paired_mono (fun q z hz => ⟨nq hz.1, nq hz.2⟩) hps⟩
      · rw [List.map_append]
        refine List.nodup_append.mpr ⟨hnr, List.nodup_cons.mpr ⟨(fun z => nomatch z), List.nodup_nil⟩, fun b hb b2 hb2 => ?_⟩
        rw [List.mem_singleton.mp hb2]
        obtain ⟨q, hq, rfl⟩ := List.mem_map.mp hb
        exact ne_of_none (e2 _ _ (hid_some.mp (hbs q hq).hr).2) hr1
      · rw [List.flatMap_append]
        have e0 : ([⟨r1, p2, ps, x⟩] : List BRow).flatMap (fun b => b.ps.map (·.1)) = ps.map (·.1) := by simp
        rw [e0]
        refine List.nodup_append.mpr ⟨hnp, hnd, fun b hb b2 hb2 => ?_⟩
        obtain ⟨q, hq, hq2⟩ := List.mem_flatMap.mp hb
        obtain ⟨q2, hq3, rfl⟩ := List.mem_map.mp hq2
        obtain ⟨i3, hi3, rfl⟩ := List.mem_iff_getElem.mp hq3
        obtain ⟨z, _, hz⟩ := paired_get (hbs q hq).hp (List.getElem?_eq_getElem hi3)
        obtain ⟨q4, hq4, rfl⟩ := List.mem_map.mp hb2
        obtain ⟨i4, hi4, rfl⟩ := List.mem_iff_getElem.mp hq4
        obtain ⟨z2, _, hz2⟩ := paired_get hps (List.getElem?_eq_getElem hi4)
        intro zz
        have c1 := (hid_some.mp hz.1).2
        rw [zz] at c1
        exact (hid_some.mp hz2.1).1 (.inl (by rw [c1]; exact fun w => nomatch w))
      · rw [List.map_append, hbx, List.take_add_one, hx]
        rfl
  intro H1 ⟨e1, bs, hbt, hbs, hnr, hnp, hbx⟩
  rw [lyl, List.take_length] at hbx
  have S1 := hS.mono e1
  obtain ⟨pa, pc⟩ := hS.fresh hp
  have B1 : BsAt (nw H H1) p bs := ⟨nw_at hp hbt, fun b hb => (hbs b hb).mono (hid_sub fun b z => .inl z), hnr, hnp, fun b hb z => (hid_some.mp (hbs b hb).hw).1 (.inr z)⟩
  have toS : Ex (nw H H1) (hs a c H1) := hid_sub fun b z => by
    obtain ⟨⟨o, h1⟩, ⟨u, h2⟩⟩ := hS.ne
    rcases z with z | z
    · rw [z, h1]; exact fun w => nomatch w
    · rw [z, h2]; exact fun w => nomatch w
  have G1 := B1.mono toS
  have hlen : bs.length = l.length := by rw [← hbx, List.length_map]
  have okB : BsOk bs := ⟨by omega, fun b hb => by
    obtain ⟨y1, y2⟩ := hlx b.x (by rw [← hbx]; exact List.mem_map.mpr ⟨b, hb, rfl⟩)
    exact ⟨by omega, y2⟩⟩
  have hlam : ∀ b ∈ bs, b.ps.length = r.lam.length := fun b hb => by
    rw [paired_len ((hbs b hb).hp)]
    exact (hlx b.x (by rw [← hbx]; exact List.mem_map.mpr ⟨b, hb, rfl⟩)).1
  have hdB : Den K true H1 (.ref p) (.lst (bs.map fun b => brT b.x)) := .lst (SqL.of hbt) ((log_same B1 okB).mono hid_ex.kp)
  have ok5 : Okb 5 (.lst (bs.map fun b => brT b.x)) := (rows_ok (by rw [List.length_map]; have := okB.n; omega) fun d hd => by
    obtain ⟨b, hb, rfl⟩ := List.mem_map.mp hd
    exact okB.row hb).1
  refine rd_eqNilP (i := 3) (n := 5) rfl hdB (okb_okt ok5) fun H2 e2 => ⟨_, rfl, ?_⟩
  have S2 := S1.mono e2
  have h2p := e2 _ _ hbt
  have G2 := G1.mono (hs_of e2)
  have B02 : Bar a c H H2 := fun b o _ _ q => e2 _ _ (e1 b o q)
  have scOk : ∀ {d : Tr}, scT d = true → ThingOk d := fun h => ⟨okt_okc (okb_okt (okb_sc h)), fun z => by rw [sc_noseq h] at z; cases z⟩
  have seqOk : ∀ {d : Tr}, Okb 5 d → LogSc d → ThingOk d := fun h1 h2 => ⟨okt_okc (okb_okt h1), fun _ => ⟨okb_okt h1, h2⟩⟩
  cases hem : (bs.map fun b => brT b.x).isEmpty with
  | true =>
    refine iteT ?_
    refine ⟨_, rfl, by show 1 ≤ sizeLine; decide, fun q1 hq1 => ?_⟩
    have x1 : Ex H2 (upd H2 q1 (.lst [.non])) := (Ex.refl H2).new hq1
    have y1 : upd H2 q1 (.lst [.non]) q1 = some (.lst [.non]) := upd_same
    obtain ⟨q1a, q1c⟩ := S2.fresh hq1
    generalize upd H2 q1 (.lst [.non]) = G3 at x1 y1 ⊢
    refine ⟨by show 0 ≤ sizeLine; omega, fun q2 hq2 => ?_⟩
    have x2 : Ex G3 (upd G3 q2 (.lst [])) := (Ex.refl G3).new hq2
    have y2 : upd G3 q2 (.lst []) q2 = some (.lst []) := upd_same
    obtain ⟨q2a, q2c⟩ := (S2.mono x1).fresh hq2
    generalize upd G3 q2 (.lst []) = G4 at x2 y2 ⊢
    refine ⟨by show 3 ≤ sizeLine; decide, fun q3 hq3 => ?_⟩
    have x3 : Ex G4 (upd G4 q3 (.tup [.str "a", .int 0, .ref q2])) := (Ex.refl G4).new hq3
    have y3 : upd G4 q3 (.tup [.str "a", .int 0, .ref q2]) q3 = some (.tup [.str "a", .int 0, .ref q2]) := upd_same
    obtain ⟨q3a, q3c⟩ := (S2.mono (x1.trans x2)).fresh hq3
    generalize upd G4 q3 (.tup [.str "a", .int 0, .ref q2]) = G5 at x3 y3 ⊢
    refine ⟨by show 1 ≤ sizeLine; decide, fun q4 hq4 => ?_⟩
    have x4 : Ex G5 (upd G5 q4 (.lst [.ref q3])) := (Ex.refl G5).new hq4
    have y4 : upd G5 q4 (.lst [.ref q3]) q4 = some (.lst [.ref q3]) := upd_same
    obtain ⟨q4a, q4c⟩ := (S2.mono (x1.trans (x2.trans x3))).fresh hq4
    generalize upd G5 q4 (.lst [.ref q3]) = G6 at x4 y4 ⊢
    intro q5 hq5
    have x5 : Ex G6 (upd G6 q5 (.dK [])) := (Ex.refl G6).new hq5
    have y5 : upd G6 q5 (.dK []) q5 = some (.dK []) := upd_same
    obtain ⟨q5a, q5c⟩ := (S2.mono (x1.trans (x2.trans (x3.trans x4)))).fresh hq5
    generalize upd G6 q5 (.dK []) = G7 at x5 y5 ⊢
    refine ⟨by show 6 ≤ sizeLine; decide, fun q6 hq6 => ?_⟩
    have x6 : Ex G7 (upd G7 q6 (.lst [.ref q1, .non, .int 5, .str "log", .ref q4, .ref q5])) := (Ex.refl G7).new hq6
    have y6 : upd G7 q6 (.lst [.ref q1, .non, .int 5, .str "log", .ref q4, .ref q5]) q6 = some (.lst [.ref q1, .non, .int 5, .str "log", .ref q4, .ref q5]) := upd_same
    have x26 := x1.trans (x2.trans (x3.trans (x4.trans x5)))
    obtain ⟨q6a, q6c⟩ := (S2.mono x26).fresh hq6
    generalize upd G7 q6 (.lst [.ref q1, .non, .int 5, .str "log", .ref q4, .ref q5]) = G8 at x6 y6 ⊢
    refine ⟨a, c, q6, N, _, rfl, S2.mono (x26.trans x6), by omega, SqL.of (hs_at q6a q6c y6), (fun z => nomatch z), by show 6 < 1000000; decide, fun v H9 hv S9 B9 => ?_⟩
    have B09 : Bar a c H H9 := B02.trans (Bar.trans (fun b o _ _ q => x6 _ _ (x26 b o q)) B9)
    have at_ : ∀ {b : Addr} {o : HO}, b ≠ a → b ≠ c → G8 b = some o → hs a c H9 b = some o := fun h1 h2 h => hs_at h1 h2 (B9 _ _ h1 h2 h)
    have S9 := S9.le (M := N + 2000000) (by omega)
    rcases List.mem_cons.mp hv with rfl | hv
    · exact k _ (.lst [.non]) H9 S9 B09 (.lst (SqL.of (at_ q1a q1c (x6 _ _ (x5 _ _ (x4 _ _ (x3 _ _ (x2 _ _ y1))))))) (.cons .non .nil)) (by
        obtain ⟨z1, z2⟩ := rows_ok (ds := [.non]) (by decide) fun d hd => by rw [List.mem_singleton.mp hd]; exact rowT_sc rfl
        exact seqOk z1 z2)
    rcases List.mem_cons.mp hv with rfl | hv
    · exact k _ .non H9 S9 B09 .non (scOk rfl)
    rcases List.mem_cons.mp hv with rfl | hv
    · exact k _ (.int 5) H9 S9 B09 (.int 5) (scOk rfl)
    rcases List.mem_cons.mp hv with rfl | hv
    · exact k _ (.str "log") H9 S9 B09 (.str _) (scOk rfl)
    rcases List.mem_cons.mp hv with rfl | hv
    · refine k _ (.lst [.tup [.str "a", .int 0, .lst []]]) H9 S9 B09 (.lst (SqL.of (at_ q4a q4c (x6 _ _ (x5 _ _ y4)))) (.cons (.tup (SqT.of (at_ q3a q3c (x6 _ _ (x5 _ _ (x4 _ _ y3))))) (.cons (.str _) (.cons (.int _) (.cons (.lst (SqL.of (at_ q2a q2c (x6 _ _ (x5 _ _ (x4 _ _ (x3 _ _ y2)))))) .nil) .nil)))) .nil)) ?_
      obtain ⟨z1, z2⟩ := rows_ok (ds := [.tup [.str "a", .int 0, .lst []]]) (by show 1 ≤ 16; decide) fun d hd => by
        rw [List.mem_singleton.mp hd]
        refine ⟨⟨by show 3 ≤ 16; decide, fun x hx => ?_⟩, fun w hw => ?_⟩
        · rcases List.mem_cons.mp hx with rfl | hx
          · trivial
          rcases List.mem_cons.mp hx with rfl | hx
          · trivial
          rw [List.mem_singleton.mp hx]
          exact ⟨Nat.zero_le _, fun y hy => by cases hy⟩
        · have hw : some (Tr.lst []) = some w := hw
          rw [← Option.some.inj hw]
          exact fun y hy => by cases hy
      exact seqOk z1 z2
    · rw [List.mem_singleton.mp hv]
      exact k _ (.dic []) H9 S9 B09 (.dic (show hs a c H9 q5 = some (.dK []) from at_ q5a q5c (x6 _ _ y5)) .nil) ⟨rfl, fun z => by cases z⟩
  | false =>
    refine iteF ?_
    have b0l : 0 < bs.length := by
      cases h : bs with
      | nil => rw [h] at hem; cases hem
      | cons b r => simp
    have bn := okB.n
    refine ⟨_, rfl, _, rfl, p, _, rfl, .inl (SqL.of h2p), ?_⟩
    refine ⟨a, c, N, bs.length, by rw [List.length_map]; rfl, S2, by omega, by omega, by omega, fun r1 H3 r10 r11 S3 B3 => ?_⟩
    obtain ⟨j, rfl⟩ := Int.eq_ofNat_of_zero_le r10
    have hjl : j < bs.length := by omega
    have hj : bs[j]? = some bs[j] := List.getElem?_eq_getElem hjl
    generalize bs[j] = b0 at hj
    have hm := List.mem_of_getElem? hj
    refine ⟨_, rfl, a, c, N + 1, 10, rfl, S3, by omega, by decide, by decide, fun way H4 r20 r21 S4 B4 => ⟨_, _, rfl, ?_⟩⟩
    have B24 := B3.trans B4
    have G4 := G2.mono B24.hs
    have h4p := (hid_some.mp G4.top).2
    have R4 := G4.each b0 hm
    refine ⟨_, rfl, _, rfl, p, _, _, .ref b0.r, rfl, rfl, SqL.of h4p, atI_nat (by rw [List.getElem?_map, hj]; rfl), ?_⟩
    refine ⟨_, rfl, _, rfl, b0.r, _, 2, .ref b0.w, rfl, rfl, SqL.of (hid_some.mp R4.hr).2, rfl, b0.w, _, rfl, .inl (SqL.of (hid_some.mp R4.hw).2), ?_⟩
    have lampos : 0 < r.lam.length := List.length_pos_iff.mpr ok.m0
    have psl := hlam b0 hm
    refine ⟨a, c, N + 2, b0.ps.length, by rw [List.length_map]; rfl, S4, by omega, by omega, by omega, fun r3 H5 r30 r31 S5 B5 => ?_⟩
    obtain ⟨kk, rfl⟩ := Int.eq_ofNat_of_zero_le r30
    have hkl : kk < b0.ps.length := by omega
    have hq : b0.ps[kk]? = some b0.ps[kk] := List.getElem?_eq_getElem hkl
    generalize b0.ps[kk] = q0 at hq
    have G5 := G4.mono B5.hs
    have R5 := G5.each b0 hm
    obtain ⟨y0, hy0, P5⟩ := paired_get R5.hp hq
    have B05 : Bar a c H H5 := B02.trans (B24.trans B5)
    have y0l : y0.2.length ≤ 8 := (okB.m b0 hm).2 y0 (List.mem_of_getElem? hy0)
    obtain ⟨wp, wno⟩ := at_str G5 R5.hr
    -- all ways but one end here
    dsimp only [gName]
    refine p_key (F := fun σ' H' => σ'[0]? = some (some (.ref a)) ∧ σ'[3]? = some (some (.ref p)) ∧ StAt H' a c (N + 30) ∧ Bar a c H H' ∧ LogAt K (hs a c H') p) (fun Nx key => ?_) ?tailb
    case tailb =>
      rintro σ' H' ⟨s0, s3, S', B', ds, dd, dl, dr⟩
      obtain ⟨o5, osc⟩ := rows_ok dl dr
      refine ⟨_, s0, _, s3, a, c, N + 30, .ref p, .lst ds, rfl, S', by show N + 30 + 17 ^ 5 < _; omega, dd, o5, fun v' e H'' S'' B'' lse dn => ?_⟩
      have oe := lse_okb lse o5
      exact k v' e H'' (S''.le (by show N + 30 + 17 ^ 5 ≤ _; omega)) (B'.trans B'') (dn.mono (hid_sub fun b z => .inl z).kp) (seqOk oe (lse_logSc (n := 1) lse osc))
    have hq0 := hq
    have fr0 : H b0.r = none := by
      have z := (hid_some.mp (B1.each b0 hm).hr).1
      cases e : H b0.r with
      | none => rfl
      | some u => exact absurd (by rw [e]; exact fun w => nomatch w) z
    obtain ⟨yq, hyq, Pq⟩ := paired_get ((B1.each b0 hm).hp) hq
    have fq0 : H q0.1 = none := by
      have z := (hid_some.mp Pq.1).1
      cases e : H q0.1 with
      | none => rfl
      | some u => exact absurd (by rw [e]; exact fun w => nomatch w) z
    obtain ⟨r0a, r0c, h5r⟩ := hs_some R5.hr
    obtain ⟨w0a, w0c, h5w⟩ := hs_some R5.hw
    obtain ⟨q0a, q0c, h5q⟩ := hs_some P5.1
    obtain ⟨s0a, s0c, h5s⟩ := hs_some P5.2
    have wl5 : b0.x.2.2.length ≤ 8 := (okB.m b0 hm).1
    have bsn : bs ≠ [] := fun z => by rw [z] at b0l; exact absurd b0l (by decide)
    have R0 : Ex (hs a c H) (hs a c H5) := Bar.hs B05
    have fin : ∀ {H' : Hp} {t : Addr} {o : HO} {M : Nat} {σ' : L2.St}, σ'[0]? = some (some (.ref a)) → σ'[3]? = some (some (.ref p)) → StAt H' a c M → M ≤ N + 30 → Bar a c H5 H' → H t = none → t ≠ a → t ≠ c → LogAt K (hs a c (upd H' t o)) p → Nx σ' (upd H' t o) :=
      fun {H' t o M σ'} s0 s3 S' hM B' ft ta tc L => key _ _ ⟨s0, s3, (S'.put ta tc).le hM, (fun b o' z1 z2 z3 => by rw [upd_ne (ne_of_none z3 ft)]; exact (B05.trans B') b o' z1 z2 z3), L⟩
    obtain ⟨p1, p2, p3, p4, t0, t1, t2, xs, zs, t3, t4, t5, t6⟩ := id hR
    have rowfin : ∀ {H' : Hp} {M : Nat} {v1 v2 v3 : V} {d1 d2 d3 : Tr} {σ' : L2.St}, σ'[0]? = some (some (.ref a)) → σ'[3]? = some (some (.ref p)) → StAt H' a c M → M ≤ N + 30 → Bar a c H5 H' →
        Den K true (hid (fun b => (b = a ∨ b = c) ∨ b = b0.r) H') v1 d1 → Den K true (hid (fun b => (b = a ∨ b = c) ∨ b = b0.r) H') v2 d2 → Den K true (hid (fun b => (b = a ∨ b = c) ∨ b = b0.r) H') v3 d3 → scT d1 = true → scT d2 = true → WavT d3 → Nx σ' (upd H' b0.r (.lst [v1, v2, v3])) :=
      fun {H' M v1 v2 v3 d1 d2 d3 σ'} s0 s3 S' hM B' k1 k2 k3 e1 e2 e3 => fin s0 s3 S' hM B' fr0 r0a r0c (row_put (G5.mono B'.hs) okB hj (.cons k1 (.cons k2 (.cons k3 .nil))) (rowT_mk e1 e2 e3 (fun x hx => by cases hx) (Nat.zero_le _)))
    have wav : ∀ {H' : Hp}, Bar a c H5 H' → Den K true (hid (fun b => (b = a ∨ b = c) ∨ b = b0.r) H') (.ref b0.w) (.lst (b0.x.2.2.map bwT)) := fun {H'} B' => by
      obtain ⟨u1, u2⟩ := wav_row (G5.mono B'.hs) hj
      exact .lst u1 u2
    have pairfin : ∀ {H' : Hp} {M : Nat} {v1 v2 : V} {d1 d2 : Tr} {σ' : L2.St}, σ'[0]? = some (some (.ref a)) → σ'[3]? = some (some (.ref p)) → StAt H' a c M → M ≤ N + 30 → Bar a c H5 H' →
        Den K true (hid (fun b => (b = a ∨ b = c) ∨ b = q0.1) H') v1 d1 → Den K true (hid (fun b => (b = a ∨ b = c) ∨ b = q0.1) H') v2 d2 → scT d1 = true → Okb 1 d2 → Nx σ' (upd H' q0.1 (.lst [v1, v2])) :=
      fun {H' M v1 v2 d1 d2 σ'} s0 s3 S' hM B' k1 k2 e1 e2 => fin s0 s3 S' hM B' fq0 q0a q0c (pair_put (G5.mono B'.hs) okB hj hq (.cons k1 (.cons k2 .nil)) (pairT_mk e1 e2))
    have S5' : StAt H5 a c (N + 3) := S5
    -- way 0
    refine ⟨_, rfl, rfl, _, rfl, ?_⟩
    refine ite2 (fun _ => ?_) (fun _ => ?_)
    · obtain ⟨u, su, hu1, hu2⟩ := sts_end (t4.mono (R0.trans hs_ex).kp) ok.s0
      refine ⟨_, rfl, _, rfl, R, _, 2, .ref p3, rfl, rfl, SqL.of (hs_ex _ _ (R0 _ _ t0)), rfl, _, rfl, p3, _, -1, .ref u, rfl, rfl, SqL.of (hs_ex _ _ (R0 _ _ t3)), hu1, u, _, 0, _, rfl, rfl, hu2, rfl, by show 5 ≤ sizeLine; decide, fun q hq => ?_⟩
      obtain ⟨qa, qc⟩ := S5'.fresh hq
      refine ⟨a, c, q, N + 3, _, rfl, S5'.mono ((Ex.refl H5).new hq), by omega, SqL.of (hs_at qa qc upd_same), (fun z => nomatch z), by show 5 < 1000000; decide, fun v H6 hv S6 B6 => ?_⟩
      have B56 : Bar a c H5 H6 := Bar.trans (Bar.refl.new hq) B6
      obtain ⟨d, hd1, hd2⟩ := sv_mem (K := K) (by rfl) hv
      exact ⟨_, rfl, b0.r, _, 0, 0, rfl, rfl, B56 _ _ r0a r0c h5r, rfl, rowfin rfl rfl S6 (by omega) B56 (hd2 _) (.int _) (wav B56) hd1 rfl (okB.wav hm)⟩
    -- way 1
    refine ⟨_, rfl, rfl, _, rfl, ?_⟩
    refine ite2 (fun _ => ?_) (fun _ => ?_)
    · refine ⟨_, rfl, _, rfl, _, rfl, R, _, 3, .ref p4, rfl, rfl, SqL.of (hs_ex _ _ (R0 _ _ t0)), rfl, p4, _, rfl, .inl (SqL.of (hs_ex _ _ (R0 _ _ t5))), by show 7 ≤ sizeLine; decide, fun q hq => ?_⟩
      obtain ⟨qa, qc⟩ := S5'.fresh hq
      refine ⟨a, c, q, N + 3, _, rfl, S5'.mono ((Ex.refl H5).new hq), by omega, SqL.of (hs_at qa qc upd_same), (fun z => nomatch z), by show 7 < 1000000; decide, fun v H6 hv S6 B6 => ?_⟩
      have B56 : Bar a c H5 H6 := Bar.trans (Bar.refl.new hq) B6
      obtain ⟨d, hd1, hd2⟩ := sv_mem (K := K) (by rfl) hv
      exact ⟨_, rfl, b0.r, _, 1, 1, rfl, rfl, B56 _ _ r0a r0c h5r, rfl, rowfin rfl rfl S6 (by omega) B56 (.str _) (hd2 _) (wav B56) rfl hd1 (okB.wav hm)⟩
    -- way 2
    refine ⟨_, rfl, rfl, _, rfl, ?_⟩
    refine ite2 (fun _ => ?_) (fun _ => ?_)
    · obtain ⟨xm, hxm⟩ := strs_end ok.m0
      obtain ⟨xl, hxl⟩ := strs_head ok.l0
      refine ⟨_, rfl, _, rfl, R, _, 1, .ref p2, rfl, rfl, SqL.of (hs_ex _ _ (R0 _ _ t0)), rfl, _, rfl, p2, _, -1, _, rfl, rfl, SqL.of (hs_ex _ _ (R0 _ _ t2)), hxm, _, rfl, R, _, 0, .ref p1, rfl, rfl, SqL.of (hs_ex _ _ (R0 _ _ t0)), rfl, p1, _, 0, _, rfl, rfl, SqL.of (hs_ex _ _ (R0 _ _ t1)), hxl, by show 5 ≤ sizeLine; decide, fun q hq => ?_⟩
      obtain ⟨qa, qc⟩ := S5'.fresh hq
      refine ⟨a, c, q, N + 3, _, rfl, S5'.mono ((Ex.refl H5).new hq), by omega, SqL.of (hs_at qa qc upd_same), (fun z => nomatch z), by show 5 < 1000000; decide, fun v H6 hv S6 B6 => ?_⟩
      have B56 : Bar a c H5 H6 := Bar.trans (Bar.refl.new hq) B6
      obtain ⟨d, hd1, hd2⟩ := sv_mem (K := K) (by rfl) hv
      have sh := shown_pair (K := K) (G5.mono B56.hs) hj hq0 (P5.mono B56.hs)
      refine ⟨_, rfl, b0.r, _, 2, _, rfl, rfl, SqL.of (B56 _ _ r0a r0c h5r), rfl, _, rfl, b0.w, _, _, .ref q0.1, rfl, rfl, SqL.of (B56 _ _ w0a w0c h5w), atI_nat (by rw [List.getElem?_map, hq0]; rfl), ?_⟩
      exact ⟨q0.1, _, 0, 0, rfl, rfl, B56 _ _ q0a q0c h5q, rfl, pairfin rfl rfl S6 (by omega) B56 (hd2 _) (.lst (SqL.of sh) (dens_intsI _)) hd1 (okb_ints (by omega))⟩
    -- way 3
    refine ⟨_, rfl, rfl, _, rfl, ?_⟩
    refine ite2 (fun _ => ?_) (fun _ => ?_)
    · refine ⟨_, rfl, by show 0 ≤ sizeLine; omega, fun n1 hn1 => ?_⟩
      have x1 : Ex H5 (upd H5 n1 (.lst [])) := (Ex.refl H5).new hn1
      have y1 : upd H5 n1 (.lst []) n1 = some (.lst []) := upd_same
      have o1 := S5'.fresh hn1
      have m1 := (ne_of_none h5q hn1).symm
      have T1 := S5'.mono x1
      generalize upd H5 n1 (.lst []) = G1 at x1 y1 T1 ⊢
      refine ⟨by show 1 ≤ sizeLine; decide, fun n2 hn2 => ?_⟩
      have x2 : Ex G1 (upd G1 n2 (.lst [.int 2])) := (Ex.refl G1).new hn2
      have y2 : upd G1 n2 (.lst [.int 2]) n2 = some (.lst [.int 2]) := upd_same
      have o2 := T1.fresh hn2
      have m2 := (ne_of_none (x1 _ _ h5q) hn2).symm
      have T2 := T1.mono x2
      have X2 := x1.trans x2
      generalize upd G1 n2 (.lst [.int 2]) = G2 at x2 y2 T2 X2 ⊢
      refine ⟨by show 1 ≤ sizeLine; decide, fun n3 hn3 => ?_⟩
      have x3 : Ex G2 (upd G2 n3 (.lst [.bl true])) := (Ex.refl G2).new hn3
      have y3 : upd G2 n3 (.lst [.bl true]) n3 = some (.lst [.bl true]) := upd_same
      have o3 := T2.fresh hn3
      have m3 := (ne_of_none (X2 _ _ h5q) hn3).symm
      have T3 := T2.mono x3
      have X3 := X2.trans x3
      generalize upd G2 n3 (.lst [.bl true]) = G3 at x3 y3 T3 X3 ⊢
      refine ⟨by show 1 ≤ sizeLine; decide, fun n4 hn4 => ?_⟩
      have x4 : Ex G3 (upd G3 n4 (.lst [.str "0"])) := (Ex.refl G3).new hn4
      have y4 : upd G3 n4 (.lst [.str "0"]) n4 = some (.lst [.str "0"]) := upd_same
      have o4 := T3.fresh hn4
      have m4 := (ne_of_none (X3 _ _ h5q) hn4).symm
      have T4 := T3.mono x4
      have X4 := X3.trans x4
      generalize upd G3 n4 (.lst [.str "0"]) = G4 at x4 y4 T4 X4 ⊢
      refine ⟨by show 2 ≤ sizeLine; decide, fun n5 hn5 => ?_⟩
      have x5 : Ex G4 (upd G4 n5 (.lst [.int 0, .non])) := (Ex.refl G4).new hn5
      have y5 : upd G4 n5 (.lst [.int 0, .non]) n5 = some (.lst [.int 0, .non]) := upd_same
      have o5 := T4.fresh hn5
      have m5 := (ne_of_none (X4 _ _ h5q) hn5).symm
      have T5 := T4.mono x5
      have X5 := X4.trans x5
      generalize upd G4 n5 (.lst [.int 0, .non]) = G5' at x5 y5 T5 X5 ⊢
      refine ⟨by show 8 ≤ sizeLine; decide, fun q hq => ?_⟩
      obtain ⟨qa, qc⟩ := T5.fresh hq
      have xq : Ex G5' (upd G5' q (.lst [.ref n1, .non, .ref n2, .ref n3, .ref n4, .ref n5, .str "01", .int 0])) := (Ex.refl G5').new hq
      refine ⟨a, c, q, N + 3, _, rfl, T5.mono xq, by omega, SqL.of (hs_at qa qc upd_same), (fun z => nomatch z), by show 8 < 1000000; decide, fun v H6 hv S6 B6 => ?_⟩
      have B56 : Bar a c H5 H6 := Bar.trans (fun b o _ _ z => xq _ _ (X5 b o z)) B6
      have at_ : ∀ {n : Addr} {o : HO}, n ≠ a ∧ n ≠ c → n ≠ q0.1 → G5' n = some o → hid (fun b => (b = a ∨ b = c) ∨ b = q0.1) H6 n = some o := fun h1 h2 h => hid_some.mpr ⟨fun z => z.elim (fun z => z.elim h1.1 h1.2) h2, B6 _ _ h1.1 h1.2 (xq _ _ h)⟩
      obtain ⟨d, hd1, hd2⟩ : ∃ d, Okb 1 d ∧ Den K true (hid (fun b => (b = a ∨ b = c) ∨ b = q0.1) H6) v d := by
        rcases List.mem_cons.mp hv with rfl | hv
        · exact ⟨.lst [], ⟨Nat.zero_le _, fun x hx => by cases hx⟩, .lst (SqL.of (at_ o1 m1 (x5 _ _ (x4 _ _ (x3 _ _ (x2 _ _ y1)))))) .nil⟩
        rcases List.mem_cons.mp hv with rfl | hv
        · exact ⟨.non, trivial, .non⟩
        rcases List.mem_cons.mp hv with rfl | hv
        · exact ⟨.lst [.int 2], ⟨by show 1 ≤ 16; decide, fun x hx => by rw [List.mem_singleton.mp hx]; trivial⟩, .lst (SqL.of (at_ o2 m2 (x5 _ _ (x4 _ _ (x3 _ _ y2))))) (.cons (.int _) .nil)⟩
        rcases List.mem_cons.mp hv with rfl | hv
        · exact ⟨.lst [.bl true], ⟨by show 1 ≤ 16; decide, fun x hx => by rw [List.mem_singleton.mp hx]; trivial⟩, .lst (SqL.of (at_ o3 m3 (x5 _ _ (x4 _ _ y3)))) (.cons (.bl _) .nil)⟩
        rcases List.mem_cons.mp hv with rfl | hv
        · exact ⟨.lst [.str "0"], ⟨by show 1 ≤ 16; decide, fun x hx => by rw [List.mem_singleton.mp hx]; trivial⟩, .lst (SqL.of (at_ o4 m4 (x5 _ _ y4))) (.cons (.str _) .nil)⟩
        rcases List.mem_cons.mp hv with rfl | hv
        · exact ⟨.lst [.int 0, .non], ⟨by show 2 ≤ 16; decide, fun x hx => by
            rcases List.mem_cons.mp hx with rfl | hx
            · trivial
            · rw [List.mem_singleton.mp hx]; trivial⟩, .lst (SqL.of (at_ o5 m5 y5)) (.cons (.int _) (.cons .non .nil))⟩
        rcases List.mem_cons.mp hv with rfl | hv
        · exact ⟨.str "01", trivial, .str _⟩
        · rw [List.mem_singleton.mp hv]
          exact ⟨.int 0, trivial, .int _⟩
      refine ⟨_, rfl, b0.r, _, 2, _, rfl, rfl, SqL.of (B56 _ _ r0a r0c h5r), rfl, _, rfl, b0.w, _, _, .ref q0.1, rfl, rfl, SqL.of (B56 _ _ w0a w0c h5w), atI_nat (by rw [List.getElem?_map, hq0]; rfl), ?_⟩
      exact ⟨q0.1, _, 1, 1, rfl, rfl, B56 _ _ q0a q0c h5q, rfl, pairfin rfl rfl S6 (by omega) B56 (.str _) hd2 rfl hd1⟩
    -- way 4
    refine ⟨_, rfl, rfl, _, rfl, ?_⟩
    refine ite2 (fun _ => ?_) (fun _ => ?_)
    · refine ⟨_, rfl, b0.r, _, 2, _, rfl, rfl, SqL.of h5r, rfl, _, rfl, b0.w, _, _, .ref q0.1, rfl, rfl, SqL.of h5w, atI_nat (by rw [List.getElem?_map, hq0]; rfl), ?_⟩
      refine ⟨q0.1, _, 1, .ref q0.2, rfl, rfl, SqL.of h5q, rfl, _, rfl, _, rfl, by show 3 ≤ sizeLine; decide, fun q hq => ?_⟩
      obtain ⟨qa, qc⟩ := S5'.fresh hq
      refine ⟨a, c, q, N + 3, _, rfl, S5'.mono ((Ex.refl H5).new hq), by omega, SqL.of (hs_at qa qc upd_same), (fun z => nomatch z), by show 3 < 1000000; decide, fun v H6 hv S6 B6 => ?_⟩
      have B56 : Bar a c H5 H6 := Bar.trans (Bar.refl.new hq) B6
      obtain ⟨z, rfl⟩ : ∃ z, v = .int z := by
        rcases List.mem_cons.mp hv with rfl | hv
        · exact ⟨_, rfl⟩
        rcases List.mem_cons.mp hv with rfl | hv
        · exact ⟨_, rfl⟩
        · exact ⟨_, List.mem_singleton.mp hv⟩
      refine ⟨by show 1 ≤ sizeLine; decide, fun n1 hn1 => ?_⟩
      have x1 : Ex H6 (upd H6 n1 (.lst [.int z])) := (Ex.refl H6).new hn1
      have y1 : upd H6 n1 (.lst [.int z]) n1 = some (.lst [.int z]) := upd_same
      generalize upd H6 n1 (.lst [.int z]) = H7 at x1 y1 ⊢
      refine ⟨q0.2, n1, _, _, rfl, rfl, x1 _ _ (B56 _ _ s0a s0c h5s), y1, by rw [ints_len, sizeLine_eq]; show _ + 1 ≤ _; omega, fun n2 hn2 => ?_⟩
      have x2 := x1.new (o := .lst (intsV y0.2 ++ [V.int z])) hn2
      have y2 : upd H7 n2 (.lst (intsV y0.2 ++ [V.int z])) n2 = some (.lst (intsV y0.2 ++ [V.int z])) := upd_same
      have S8 := S6.mono x2
      obtain ⟨n2a, n2c⟩ := (S6.mono x1).fresh hn2
      have n2q : n2 ≠ q0.1 := (ne_of_none (x1 _ _ (B56 _ _ q0a q0c h5q)) hn2).symm
      generalize upd H7 n2 (.lst (intsV y0.2 ++ [V.int z])) = H8 at x2 y2 S8 ⊢
      have B58 : Bar a c H5 H8 := B56.trans fun b o _ _ w => x2 b o w
      refine ⟨_, rfl, b0.r, _, 2, _, rfl, rfl, SqL.of (B58 _ _ r0a r0c h5r), rfl, _, rfl, b0.w, _, _, .ref q0.1, rfl, rfl, SqL.of (B58 _ _ w0a w0c h5w), atI_nat (by rw [List.getElem?_map, hq0]; rfl), ?_⟩
      exact ⟨q0.1, _, 1, 1, rfl, rfl, B58 _ _ q0a q0c h5q, rfl, pairfin rfl rfl S8 (by omega) B58 (.str _) (.lst (SqL.of (hid_some.mpr ⟨fun w => w.elim (fun w => w.elim n2a n2c) n2q, y2⟩)) (dens_snoc (dens_intsI _) (.int z))) rfl ⟨by rw [List.length_append, List.length_map]; show _ + 1 ≤ _; omega, fun x hx => by
        rcases List.mem_append.mp hx with h | h
        · obtain ⟨k', _, rfl⟩ := List.mem_map.mp h
          trivial
        · rw [List.mem_singleton.mp h]
          trivial⟩⟩
    have pm : ∀ {H' : Hp}, Bar a c H5 H' → ∀ v ∈ (b0.ps.map fun q => V.ref q.1), ∃ d, PairT d ∧ Den K true (hid (fun b => (b = a ∨ b = c) ∨ b = b0.r) H') v d := fun {H'} B' v hv => by
      obtain ⟨u1, u2⟩ := wav_row (G5.mono B'.hs) hj
      obtain ⟨i3, hi3, rfl⟩ := List.mem_iff_getElem.mp hv
      obtain ⟨d, hd, dd⟩ := u2.get (List.getElem?_eq_getElem hi3)
      obtain ⟨y, hy, rfl⟩ := List.mem_map.mp (List.mem_of_getElem? hd)
      exact ⟨_, bw_ok (by have := (okB.m b0 hm).2 y hy; omega), dd⟩
    have psn : b0.ps.length ≤ 8 := by rw [psl]; omega
    -- way 5
    refine ⟨_, rfl, rfl, _, rfl, ?_⟩
    refine ite2 (fun _ => ?_) (fun _ => ?_)
    · obtain ⟨q1, hq1⟩ : ∃ q1, b0.ps[0]? = some q1 := ⟨_, List.getElem?_eq_getElem (by omega)⟩
      refine ⟨_, rfl, _, rfl, b0.r, _, 2, .ref b0.w, rfl, rfl, SqL.of h5r, rfl, _, rfl, _, rfl, b0.w, _, rfl, SqL.of h5w, fun n1 hn1 => ?_⟩
      have x1 : Ex H5 (upd H5 n1 (.lst (cutV (b0.ps.map fun q => V.ref q.1) none (some (-1))))) := (Ex.refl H5).new hn1
      have y1 : upd H5 n1 (.lst (cutV (b0.ps.map fun q => V.ref q.1) none (some (-1)))) n1 = some (.lst (cutV (b0.ps.map fun q => V.ref q.1) none (some (-1)))) := upd_same
      have o1 := S5'.fresh hn1
      have m1 := (ne_of_none h5r hn1).symm
      have T1 := S5'.mono x1
      generalize upd H5 n1 (.lst (cutV (b0.ps.map fun q => V.ref q.1) none (some (-1)))) = G1 at x1 y1 T1 ⊢
      refine ⟨_, rfl, b0.r, _, 2, .ref b0.w, rfl, rfl, SqL.of (x1 _ _ h5r), rfl, _, rfl, b0.r, _, 2, .ref b0.w, rfl, rfl, SqL.of (x1 _ _ h5r), rfl, b0.w, _, 0, .ref q1.1, rfl, rfl, SqL.of (x1 _ _ h5w), atI_nat (j := 0) (by rw [List.getElem?_map, hq1]; rfl), by show 1 ≤ sizeLine; decide, fun n2 hn2 => ?_⟩
      have x2 : Ex G1 (upd G1 n2 (.lst [.ref q1.1])) := (Ex.refl G1).new hn2
      have y2 : upd G1 n2 (.lst [.ref q1.1]) n2 = some (.lst [.ref q1.1]) := upd_same
      have X2 := x1.trans x2
      have T2 := T1.mono x2
      generalize upd G1 n2 (.lst [.ref q1.1]) = G2 at x2 y2 X2 T2 ⊢
      refine ⟨b0.w, n2, _, _, rfl, rfl, X2 _ _ h5w, y2, by rw [List.length_map, sizeLine_eq]; show _ + 1 ≤ _; omega, fun n3 hn3 => ?_⟩
      have x3 : Ex G2 (upd G2 n3 (.lst ((b0.ps.map fun q => V.ref q.1) ++ [.ref q1.1]))) := (Ex.refl G2).new hn3
      have y3 : upd G2 n3 (.lst ((b0.ps.map fun q => V.ref q.1) ++ [.ref q1.1])) n3 = some (.lst ((b0.ps.map fun q => V.ref q.1) ++ [.ref q1.1])) := upd_same
      have o3 := T2.fresh hn3
      have m3 := (ne_of_none (X2 _ _ h5r) hn3).symm
      have X3 := X2.trans x3
      have T3 := T2.mono x3
      generalize upd G2 n3 (.lst ((b0.ps.map fun q => V.ref q.1) ++ [.ref q1.1])) = G3 at x3 y3 X3 T3 ⊢
      refine ⟨by show 4 ≤ sizeLine; decide, fun q hq => ?_⟩
      obtain ⟨qa, qc⟩ := T3.fresh hq
      have xq : Ex G3 (upd G3 q (.lst [.ref n1, .ref n3, .non, .str "waves"])) := (Ex.refl G3).new hq
      refine ⟨a, c, q, N + 3, _, rfl, T3.mono xq, by omega, SqL.of (hs_at qa qc upd_same), (fun z => nomatch z), by show 4 < 1000000; decide, fun v H6 hv S6 B6 => ?_⟩
      have B56 : Bar a c H5 H6 := Bar.trans (fun b o _ _ z => xq _ _ (X3 b o z)) B6
      have at_ : ∀ {n : Addr} {o : HO}, n ≠ a ∧ n ≠ c → n ≠ b0.r → G3 n = some o → hid (fun b => (b = a ∨ b = c) ∨ b = b0.r) H6 n = some o := fun h1 h2 h => hid_some.mpr ⟨fun z => z.elim (fun z => z.elim h1.1 h1.2) h2, B6 _ _ h1.1 h1.2 (xq _ _ h)⟩
      obtain ⟨d, hd1, hd2⟩ : ∃ d, WavT d ∧ Den K true (hid (fun b => (b = a ∨ b = c) ∨ b = b0.r) H6) v d := by
        rcases List.mem_cons.mp hv with rfl | hv
        · obtain ⟨es, e1', e2'⟩ := dens_all fun v hv => pm B56 v (cut_mem hv)
          refine ⟨.lst es, wavT_mk ?_ e2', .lst (SqL.of (at_ o1 m1 (x3 _ _ (x2 _ _ y1)))) e1'⟩
          rw [← e1'.length]
          have := cutV_length (b0.ps.map fun q => V.ref q.1) none (some (-1))
          rw [List.length_map] at this
          omega
        rcases List.mem_cons.mp hv with rfl | hv
        · obtain ⟨es, e1', e2'⟩ := dens_all (us := (b0.ps.map fun q => V.ref q.1) ++ [.ref q1.1]) fun v hv => pm B56 v (by
            rcases List.mem_append.mp hv with h | h
            · exact h
            · rw [List.mem_singleton.mp h]
              exact List.mem_map.mpr ⟨q1, List.mem_of_getElem? hq1, rfl⟩)
          refine ⟨.lst es, wavT_mk ?_ e2', .lst (SqL.of (at_ o3 m3 y3)) e1'⟩
          rw [← e1'.length, List.length_append, List.length_map]
          show _ + 1 ≤ _
          omega
        rcases List.mem_cons.mp hv with rfl | hv
        · exact ⟨.non, wavT_sc rfl, .non⟩
        · rw [List.mem_singleton.mp hv]
          exact ⟨.str "waves", wavT_sc rfl, .str _⟩
      exact ⟨_, rfl, b0.r, _, 2, 2, rfl, rfl, B56 _ _ r0a r0c h5r, rfl, rowfin rfl rfl S6 (by omega) B56 (.str _) (.int _) hd2 rfl rfl hd1⟩
    obtain ⟨p5a, p5c, h5p⟩ := hs_some G5.top
    have rm : ∀ {H' : Hp}, Bar a c H5 H' → ∀ v ∈ (bs.map fun b => V.ref b.r), ∃ d, RowT d ∧ Den K true (hid (fun b => (b = a ∨ b = c) ∨ b = p) H') v d := fun {H'} B' v hv => by
      obtain ⟨b, hb, rfl⟩ := List.mem_map.mp hv
      exact ⟨_, okB.row hb, rows_apart (G5.mono B'.hs) bsn b hb⟩
    have topfin : ∀ {H' : Hp} {M : Nat} {us : List V} {σ' : L2.St}, σ'[0]? = some (some (.ref a)) → σ'[3]? = some (some (.ref p)) → StAt H' a c M → M ≤ N + 30 → Bar a c H5 H' → us.length ≤ 16 → (∀ v ∈ us, ∃ d, RowT d ∧ Den K true (hid (fun b => (b = a ∨ b = c) ∨ b = p) H') v d) → Nx σ' (upd H' p (.lst us)) :=
      fun {H' M us σ'} s0 s3 S' hM B' hl hu => by
        obtain ⟨es, e1', e2'⟩ := dens_all hu
        exact fin s0 s3 S' hM B' hp pa pc (log_put (fun z => z.elim pa pc) e1' (by rw [← e1'.length]; exact hl) e2')
    -- way 6
    refine ⟨_, rfl, rfl, _, rfl, ?_⟩
    refine ite2 (fun _ => ?_) (fun _ => ?_)
    · refine ⟨_, rfl, .inl ⟨rfl, _, SqL.of h5p⟩, _, rfl, _, rfl, _, rfl, _, rfl, 2, rfl, b0.r, _, rfl, SqL.of h5r, fun n1 hn1 => ?_⟩
      have x1 : Ex H5 (upd H5 n1 (.lst [.str b0.x.1, .int (b0.x.2.1 : Nat)])) := (Ex.refl H5).new hn1
      have y1 : upd H5 n1 (.lst [.str b0.x.1, .int (b0.x.2.1 : Nat)]) n1 = some (.lst [.str b0.x.1, .int (b0.x.2.1 : Nat)]) := upd_same
      have o1 := S5'.fresh hn1
      have m1 := (ne_of_none h5p hn1).symm
      have T1 := S5'.mono x1
      show tOp rCat _ _ _ (upd H5 n1 (.lst [.str b0.x.1, .int (b0.x.2.1 : Nat)])) _
      generalize upd H5 n1 (.lst [.str b0.x.1, .int (b0.x.2.1 : Nat)]) = G1 at x1 y1 T1 ⊢
      refine ⟨_, rfl, by show 1 ≤ sizeLine; decide, fun n2 hn2 => ?_⟩
      have x2 : Ex G1 (upd G1 n2 (.lst [.int 0])) := (Ex.refl G1).new hn2
      have y2 : upd G1 n2 (.lst [.int 0]) n2 = some (.lst [.int 0]) := upd_same
      have X2 := x1.trans x2
      have T2 := T1.mono x2
      generalize upd G1 n2 (.lst [.int 0]) = G2 at x2 y2 X2 T2 ⊢
      refine ⟨b0.r, n2, _, _, rfl, rfl, X2 _ _ h5r, y2, by show 4 ≤ sizeLine; decide, fun n3 hn3 => ?_⟩
      have x3 : Ex G2 (upd G2 n3 (.lst [.str b0.x.1, .int (b0.x.2.1 : Nat), .ref b0.w, .int 0])) := (Ex.refl G2).new hn3
      have y3 : upd G2 n3 (.lst [.str b0.x.1, .int (b0.x.2.1 : Nat), .ref b0.w, .int 0]) n3 = some (.lst [.str b0.x.1, .int (b0.x.2.1 : Nat), .ref b0.w, .int 0]) := upd_same
      have o3 := T2.fresh hn3
      have m3 := (ne_of_none (X2 _ _ h5p) hn3).symm
      have X3 := X2.trans x3
      have T3 := T2.mono x3
      show tCons _ _ _ (upd G2 n3 (.lst [.str b0.x.1, .int (b0.x.2.1 : Nat), .ref b0.w, .int 0])) _
      generalize upd G2 n3 (.lst [.str b0.x.1, .int (b0.x.2.1 : Nat), .ref b0.w, .int 0]) = G3 at x3 y3 X3 T3 ⊢
      refine ⟨by show 5 ≤ sizeLine; decide, fun q hq => ?_⟩
      obtain ⟨qa, qc⟩ := T3.fresh hq
      have xq : Ex G3 (upd G3 q (.lst [.non, .ref b0.r, .ref n1, .ref n3, .int 7])) := (Ex.refl G3).new hq
      refine ⟨a, c, q, N + 3, _, rfl, T3.mono xq, by omega, SqL.of (hs_at qa qc upd_same), (fun z => nomatch z), by show 5 < 1000000; decide, fun v H6 hv S6 B6 => ?_⟩
      have B56 : Bar a c H5 H6 := Bar.trans (fun b o _ _ z => xq _ _ (X3 b o z)) B6
      have at_ : ∀ {n : Addr} {o : HO}, n ≠ a ∧ n ≠ c → n ≠ p → G3 n = some o → hid (fun b => (b = a ∨ b = c) ∨ b = p) H6 n = some o := fun h1 h2 h => hid_some.mpr ⟨fun z => z.elim (fun z => z.elim h1.1 h1.2) h2, B6 _ _ h1.1 h1.2 (xq _ _ h)⟩
      have hv2 : ∃ d, RowT d ∧ Den K true (hid (fun b => (b = a ∨ b = c) ∨ b = p) H6) v d := by
        rcases List.mem_cons.mp hv with rfl | hv
        · exact ⟨.non, rowT_sc rfl, .non⟩
        rcases List.mem_cons.mp hv with rfl | hv
        · exact rm B56 _ (List.mem_map.mpr ⟨b0, hm, rfl⟩)
        rcases List.mem_cons.mp hv with rfl | hv
        · exact ⟨.lst [.str b0.x.1, .int (b0.x.2.1 : Nat)], rowT_two rfl rfl, .lst (SqL.of (at_ o1 m1 (x3 _ _ (x2 _ _ y1)))) (.cons (.str _) (.cons (.int _) .nil))⟩
        rcases List.mem_cons.mp hv with rfl | hv
        · have dw := wav_apart (K := K) (G5.mono B56.hs) bsn b0 hm
          refine ⟨.lst [.str b0.x.1, .int (b0.x.2.1 : Nat), .lst (b0.x.2.2.map bwT), .int 0], rowT_mk rfl rfl (okB.wav hm) (fun x hx => by rw [List.mem_singleton.mp hx]; rfl) (by show 1 ≤ 10; decide), .lst (SqL.of (at_ o3 m3 y3)) (.cons (.str _) (.cons (.int _) (.cons dw (.cons (.int _) .nil))))⟩
        · rw [List.mem_singleton.mp hv]
          exact ⟨.int 7, rowT_sc rfl, .int _⟩
      have ej : ((j : Nat) : Int).toNat = j := Int.toNat_natCast _
      refine ⟨p, _, _, _, rfl, rfl, B56 _ _ p5a p5c h5p, by rw [List.length_map, sizeLine_eq]; omega, by omega, by omega, ?_⟩
      refine topfin rfl rfl S6 (by omega) B56 ?_ fun u hu => ?_
      · rw [List.length_append, List.length_append, List.length_take, List.length_drop, List.length_map]
        show _ + 1 + _ ≤ 16
        omega
      · rcases List.mem_append.mp hu with h | h
        · rcases List.mem_append.mp h with h | h
          · exact rm B56 u (List.mem_of_mem_take h)
          · rw [List.mem_singleton.mp h]
            exact hv2
        · exact rm B56 u (List.mem_of_mem_drop h)
    -- way 7
    refine ⟨_, rfl, rfl, _, rfl, ?_⟩
    refine ite2 (fun _ => ?_) (fun _ => ?_)
    · refine ⟨_, rfl, .inl ⟨rfl, _, SqL.of h5p⟩, _, rfl, p, _, _, j, _, rfl, rfl, h5p, by omega, by omega, seqIx (by rw [List.length_map]; exact hjl), List.getElem?_eq_getElem (by rw [List.length_map]; exact hjl), ?_⟩
      refine topfin rfl rfl S5' (by omega) Bar.refl ?_ fun u hu => rm Bar.refl u (List.mem_of_mem_eraseIdx hu)
      have := List.length_eraseIdx_le (bs.map fun b => V.ref b.r) j
      rw [List.length_map] at this
      omega
    -- way 8
    refine ⟨_, rfl, rfl, _, rfl, ?_⟩
    refine ite2 (fun _ => ?_) (fun _ => ?_)
    · refine ⟨_, rfl, fun n1 hn1 => ?_⟩
      have x1 : Ex H5 (upd H5 n1 (.dK [])) := (Ex.refl H5).new hn1
      have y1 : upd H5 n1 (.dK []) n1 = some (.dK []) := upd_same
      obtain ⟨n1a, n1c⟩ := S5'.fresh hn1
      have T1 := S5'.mono x1
      generalize upd H5 n1 (.dK []) = G1 at x1 y1 T1 ⊢
      refine ⟨_, rfl, by show 5 ≤ sizeLine; decide, fun q hq => ?_⟩
      obtain ⟨qa, qc⟩ := T1.fresh hq
      have xq : Ex G1 (upd G1 q (.lst [.non, .int 5, .str "log", .ref n1, .ref p])) := (Ex.refl G1).new hq
      refine ⟨a, c, q, N + 3, _, rfl, T1.mono xq, by omega, SqL.of (hs_at qa qc upd_same), (fun z => nomatch z), by show 5 < 1000000; decide, fun v H6 hv S6 B6 => ?_⟩
      have B56 : Bar a c H5 H6 := Bar.trans (fun b o _ _ z => xq _ _ (x1 b o z)) B6
      have B06 := B05.trans B56
      have S6' := S6.le (M := N + 2000000) (by omega)
      rcases List.mem_cons.mp hv with rfl | hv
      · exact k _ .non H6 S6' B06 .non (scOk rfl)
      rcases List.mem_cons.mp hv with rfl | hv
      · exact k _ (.int 5) H6 S6' B06 (.int 5) (scOk rfl)
      rcases List.mem_cons.mp hv with rfl | hv
      · exact k _ (.str "log") H6 S6' B06 (.str _) (scOk rfl)
      rcases List.mem_cons.mp hv with rfl | hv
      · exact k _ (.dic []) H6 S6' B06 (.dic (show hs a c H6 n1 = some (.dK []) from hs_at n1a n1c (B6 _ _ n1a n1c (xq _ _ y1))) .nil) ⟨rfl, fun z => by cases z⟩
      · rw [List.mem_singleton.mp hv]
        refine k _ (.lst (bs.map fun b => brT b.x)) H6 S6' B06 (.lst (SqL.of (G5.mono B56.hs).top) (log_same (G5.mono B56.hs) okB)) ?_
        obtain ⟨z1, z2⟩ := rows_ok (ds := bs.map fun b => brT b.x) (by rw [List.length_map]; omega) fun d hd => by
          obtain ⟨b, hb, rfl⟩ := List.mem_map.mp hd
          exact okB.row hb
        exact seqOk z1 z2
    -- way 9
    · refine ⟨_, rfl, _, rfl, b0.r, _, 2, .ref b0.w, rfl, rfl, SqL.of h5r, rfl, a, c, b0.w, N + 3, _, rfl, S5', by rw [List.length_map]; omega, SqL.of R5.hw, by rw [List.length_map]; omega, fun D ys H6 yl ym S6 B6 hD h6 => ?_⟩
      rw [List.length_map] at yl S6
      obtain ⟨Da, Dc⟩ := S5'.fresh hD
      have mD := (ne_of_none h5r hD).symm
      obtain ⟨es, e1', e2'⟩ := dens_all fun v hv => pm B6 v (ym v hv)
      refine ⟨_, rfl, b0.r, _, 2, 2, rfl, rfl, B6 _ _ r0a r0c h5r, rfl, rowfin rfl rfl S6 (by omega) B6 (.str _) (.int _) (.lst (SqL.of (hid_some.mpr ⟨fun w => w.elim (fun w => w.elim Da Dc) mD, h6⟩)) e1') rfl rfl (wavT_mk ?_ e2')⟩
      rw [← e1'.length, yl]
      omega
theorem c_law_bent_log (W : Wld K mg) : Cal P w K mg base 10 "_law_bent_log" ["state", "raw", "log"] (spBent K) := by
  obtain ⟨fd, F⟩ := W.c.def_ 53 rfl
  exact ⟨⟨fd, ok_law_bent_log W F, F.bindsN fun _ _ _ _ _ _ us hl => match us, hl with | [_, _, _], _ => rfl⟩, W.g_law_bent_log, F.kp⟩
end
end K77

set_option Elab.async false
set_option linter.all false
set_option maxRecDepth 100000
set_option maxHeartbeats 400000
namespace K77
open PySem PySem.Spec PyProof.Rows L2 DL
/-! ### one-sign separators -/
theorem spl1 (c d : Nat) (acc r : List Nat) : TL.spl [c] 0 acc (d :: r) = if d = c then acc :: TL.spl [c] 0 [] r else TL.spl [c] 0 (acc ++ [d]) r := by
  by_cases h : d = c
  · subst h
    rw [if_pos rfl]
    exact TL.spl_hit (TL.pre_self [d] r)
  · rw [if_neg h]
    exact TL.spl_miss (TL.pre_of_head [] r h)
theorem spl_ne (c : Nat) : ∀ (l acc : List Nat), ∃ p q, TL.spl [c] 0 acc l = p :: q
  | [], acc => ⟨acc, [], TL.spl_nil _ _ _⟩
  | d :: r, acc => by
    rw [spl1]
    split
    · exact ⟨_, _, rfl⟩
    · exact spl_ne c r _
theorem join_spl (c : Nat) : ∀ (l acc : List Nat), TL.joinL [c] (TL.spl [c] 0 acc l) = acc ++ l
  | [], acc => by
    rw [TL.spl_nil, List.append_nil]
    rfl
  | d :: r, acc => by
    rw [spl1]
    split
    · rename_i h
      subst h
      obtain ⟨p, q, e⟩ := spl_ne d r []
      have ih := join_spl d r []
      rw [e] at ih ⊢
      show acc ++ ([d] ++ TL.joinL [d] (p :: q)) = _
      rw [ih]
      rfl
    · rw [join_spl c r]
      simp
theorem last_spl (c : Nat) : ∀ (l acc : List Nat), (TL.spl [c] 0 acc l).getLast? = some [] ↔ ((acc = [] ∧ l = []) ∨ l.getLast? = some c)
  | [], acc => by
    rw [TL.spl_nil]
    simp
  | d :: r, acc => by
    rw [spl1]
    split
    · rename_i h
      subst h
      obtain ⟨p, q, e⟩ := spl_ne d r []
      have ih := last_spl d r []
      rw [e] at ih ⊢
      rw [List.getLast?_cons_cons, ih]
      cases r with
      | nil => simp
      | cons x y => simp [List.getLast?_cons_cons]
    · rename_i h
      rw [last_spl c r]
      cases r with
      | nil => simp [h]
      | cons x y => simp [List.getLast?_cons_cons]
/-- parts before the last, each with the sign behind it -/
theorem join_ends (c : Nat) : ∀ (ps : List (List Nat)), TL.joinL [c] (ps ++ [[]]) = ps.flatMap (· ++ [c])
  | [] => rfl
  | [p] => by
    show p ++ ([c] ++ []) = _
    simp
  | p :: q :: r => by
    have ih := join_ends c (q :: r)
    show p ++ ([c] ++ TL.joinL [c] (q :: r ++ [[]])) = _
    rw [ih]
    simp
theorem str_nl : ("\n" : Str) = SX.S [10] := by decide +kernel
theorem str_sp : (" " : Str) = SX.S [32] := by decide +kernel
abbrev rowsL (x : Str) : List (List Nat) := TL.spl [10] 0 [] x.cps.toList
abbrev wordsL (y : List Nat) : List Str := (TL.spl [32] 0 [] y).map SX.S
theorem split_nl (x : Str) : Txt.split x "\n" = (rowsL x).map SX.S := by
  rw [str_nl]
  have e := SX.split_S (a := x.cps.toList) (b := [10]) (by simp) (by decide)
  rw [SX.S_tl] at e
  exact e
theorem split_sp (y : List Nat) : Txt.split (SX.S y) " " = wordsL y := by
  rw [str_sp]
  exact SX.split_S (by simp) (by decide)
/-! ### numerals -/
def digB (c : Nat) : Bool := decide (48 ≤ c) && decide (c ≤ 57)
def numB (x : Str) : Bool := decide (1 ≤ x.length) && (decide (x.length ≤ 9) && (if x.cps[0]? = some 48 then decide (x = "0") else x.cps.toList.all digB))
def numN (x : Str) : Nat := NumText.digitsVal x.cps.toList
theorem num_digits {x : Str} (h : numB x = true) : NumText.AllDigits x.cps.toList ∧ 1 ≤ x.length ∧ x.length ≤ 9 := by
  obtain ⟨h1, h⟩ := He.ba h
  obtain ⟨h2, h3⟩ := He.ba h
  refine ⟨?_, of_decide_eq_true h1, of_decide_eq_true h2⟩
  split at h3
  · have e := of_decide_eq_true h3
    subst e
    intro c hc
    have : c ∈ [48] := hc
    rw [List.mem_singleton.mp this]
    omega
  · intro c hc
    obtain ⟨a, b⟩ := He.ba (List.all_eq_true.mp h3 c hc)
    exact ⟨of_decide_eq_true a, of_decide_eq_true b⟩
theorem num_back {x : Str} (h : numB x = true) : TL.numL (numN x) = x.cps.toList := by
  obtain ⟨hd, h1, h2⟩ := num_digits h
  obtain ⟨_, h⟩ := He.ba h
  obtain ⟨_, h3⟩ := He.ba h
  unfold TL.numL numN
  have hl : x.cps.toList.length = x.length := Array.length_toList
  have back : ∀ l : List Nat, NumText.AllDigits l → (l.map Char.ofNat).map Char.toNat = l := by
    intro l hl
    rw [List.map_map]
    have : ∀ c ∈ l, (Char.toNat ∘ Char.ofNat) c = c := fun c hc => by
      obtain ⟨a, b⟩ := hl c hc
      have key : ∀ d : Nat, d < 10 → (Char.ofNat (48 + d)).toNat = 48 + d := by decide
      have := key (c - 48) (by omega)
      show (Char.ofNat c).toNat = c
      rw [show 48 + (c - 48) = c by omega] at this
      exact this
    conv => rhs; rw [← List.map_id l]
    exact List.map_congr_left this
  rw [NumText.toDigits_digitsVal (x.length - 1) x.cps.toList (by omega) hd ?_, back _ hd]
  split at h3
  · have e := of_decide_eq_true h3
    subst e
    exact .inl rfl
  · rename_i hz
    cases e : x.cps.toList with
    | nil =>
      rw [e] at hl
      simp at hl
      omega
    | cons c r =>
      refine .inr ⟨c, r, rfl, ?_⟩
      have hc : x.cps[0]? = some c := by
        rw [← Array.getElem?_toList, e]
        rfl
      have := hd c (by rw [e]; exact List.mem_cons_self)
      have hne : c ≠ 48 := fun z => hz (by rw [hc, z])
      omega
/-! ### a line taken -/
def bitB (c : Nat) : Bool := decide (c = 48) || decide (c = 49)
def bitsB (x : Str) : Bool := x.cps.toList.all bitB
def bitsN (x : Str) : List Nat := x.cps.toList.map (· - 48)
def stAfter (r : Raw) (l : List LRow) : Str := match l.getLast? with
  | none => st0 r
  | some x => nextK r x.2.1
def wholeL (r : Raw) (l : List LRow) : Bool := match l.getLast? with
  | none => true
  | some x => decide (r.lam.length ≤ x.2.2.length)
def mvB (r : Raw) (n : Str) (k : Nat) : Bool := match r.mvs[k]? with
  | some q => decide (q.1 = n)
  | none => false
def lamB (r : Raw) (l : List LRow) (w : Str) : Bool := match l.getLast? with
  | some x => decide (r.lam[x.2.2.length]? = some w)
  | none => false
def addW (l : List LRow) (y : Wv) : List LRow := match l.getLast? with
  | some x => l.dropLast ++ [(x.1, x.2.1, x.2.2 ++ [y])]
  | none => l
def moveP (r : Raw) (l : List LRow) (w1 w2 : Str) : Option (List LRow) :=
  if (wholeL r l && (decide (w1 = stAfter r l) && (numB w2 && mvB r (stAfter r l) (numN w2)))) = true then some (l ++ [(stAfter r l, numN w2, [])]) else none
def waveP (r : Raw) (l : List LRow) (w1 w2 : Str) : Option (List LRow) :=
  if (!wholeL r l && (!decide (w2 = "") && (lamB r l w1 && bitsB w2))) = true then some (addW l (w1, bitsN w2)) else none
def lineP (r : Raw) (l : List LRow) : List Str → Option (List LRow)
  | [w0, w1, w2] => if w0 = "move" then moveP r l w1 w2 else if w0 = "wave" then waveP r l w1 w2 else none
  | _ => none
def parseL (r : Raw) : List LRow → List (List Str) → Nat → Nat ⊕ List LRow
  | l, [], _ => .inr l
  | l, ws :: t, i => match lineP r l ws with
    | none => .inl i
    | some l' => parseL r l' t (i + 1)
def endsB (x : Str) : Bool := decide ((rowsL x).getLast? = some [])
def readP (r : Raw) (x : Str) : Nat ⊕ List LRow := match parseL r [] ((rowsL x).dropLast.map wordsL) 0 with
  | .inl i => .inl i
  | .inr l => if (wholeL r l && endsB x) = true then .inr l else .inl (rowsL x).dropLast.length
/-! ### the text of a log -/
def mvL (n : Str) (k : Nat) : List Nat := [109, 111, 118, 101, 32] ++ n.cps.toList ++ [32] ++ TL.numL k
def wvL (y : Wv) : List Nat := [119, 97, 118, 101, 32] ++ y.1.cps.toList ++ [32] ++ y.2.flatMap TL.numL
def rowL (x : LRow) : List (List Nat) := mvL x.1 x.2.1 :: x.2.2.map wvL
def linesOf (l : List LRow) : List (List Nat) := l.flatMap rowL
def textL (l : List LRow) : List Nat := (linesOf l).flatMap (· ++ [10])
def textOf (l : List LRow) : Str := SX.S (textL l)
theorem last_app {l : List LRow} {x : LRow} (h : l.getLast? = some x) : l = l.dropLast ++ [x] := by
  have hne : l ≠ [] := fun z => by rw [z] at h; cases h
  have := List.dropLast_concat_getLast hne
  rw [List.getLast?_eq_some_getLast hne] at h
  rw [Option.some.inj h] at this
  exact this.symm
theorem bits_back {x : Str} (h : bitsB x = true) : (bitsN x).flatMap TL.numL = x.cps.toList := by
  unfold bitsN bitsB at *
  generalize x.cps.toList = l at *
  induction l with
  | nil => rfl
  | cons c l ih =>
    obtain ⟨h1, h2⟩ := He.ba (show (bitB c && l.all bitB) = true from h)
    rw [List.map_cons, List.flatMap_cons, ih h2]
    have : c = 48 ∨ c = 49 := by
      unfold bitB at h1
      rcases Bool.or_eq_true_iff.mp h1 with z | z
      · exact .inl (of_decide_eq_true z)
      · exact .inr (of_decide_eq_true z)
    rcases this with rfl | rfl
    · rw [TL.numL_lt (by decide)]
      rfl
    · rw [TL.numL_lt (by decide)]
      rfl
theorem tl_move : ("move" : Str).cps.toList = [109, 111, 118, 101] := by decide +kernel
theorem tl_wave : ("wave" : Str).cps.toList = [119, 97, 118, 101] := by decide +kernel
theorem line_text {r : Raw} {l l' : List LRow} {ws : List Str} (h : lineP r l ws = some l') : linesOf l' = linesOf l ++ [TL.joinL [32] (ws.map fun w => w.cps.toList)] := by
  match ws, h with
  | [w0, w1, w2], h =>
    replace h : (if w0 = "move" then moveP r l w1 w2 else if w0 = "wave" then waveP r l w1 w2 else none) = some l' := h
    by_cases e : w0 = "move"
    · rw [if_pos e] at h
      subst e
      unfold moveP at h
      split at h
      · rename_i hb
        obtain ⟨_, hb⟩ := He.ba hb
        obtain ⟨h1, hb⟩ := He.ba hb
        obtain ⟨h2, _⟩ := He.ba hb
        rw [← Option.some.inj h]
        unfold linesOf
        rw [List.flatMap_append]
        congr 1
        show [mvL (stAfter r l) (numN w2)] ++ [] = _
        rw [List.append_nil]
        congr 1
        unfold mvL
        rw [num_back h2, ← of_decide_eq_true h1]
        show _ = ("move" : Str).cps.toList ++ ([32] ++ (w1.cps.toList ++ ([32] ++ w2.cps.toList)))
        rw [tl_move]
        simp
      · cases h
    · rw [if_neg e] at h
      by_cases e : w0 = "wave"
      · rw [if_pos e] at h
        subst e
        unfold waveP at h
        split at h
        · rename_i hb
          obtain ⟨_, hb⟩ := He.ba hb
          obtain ⟨_, hb⟩ := He.ba hb
          obtain ⟨h1, h2⟩ := He.ba hb
          rw [← Option.some.inj h]
          unfold lamB at h1
          unfold addW
          cases e : l.getLast? with
          | none =>
            rw [e] at h1
            cases h1
          | some x =>
            show linesOf (l.dropLast ++ [(x.1, x.2.1, x.2.2 ++ [(w1, bitsN w2)])]) = _
            conv => rhs; rw [last_app e]
            unfold linesOf
            rw [List.flatMap_append, List.flatMap_append, List.append_assoc]
            congr 1
            show (mvL x.1 x.2.1 :: (x.2.2 ++ [(w1, bitsN w2)]).map wvL) ++ [] = ((mvL x.1 x.2.1 :: x.2.2.map wvL) ++ []) ++ _
            rw [List.append_nil, List.append_nil, List.map_append, List.cons_append]
            congr 2
            show [wvL (w1, bitsN w2)] = _
            congr 1
            unfold wvL
            rw [bits_back h2]
            show _ = ("wave" : Str).cps.toList ++ ([32] ++ (w1.cps.toList ++ ([32] ++ w2.cps.toList)))
            rw [tl_wave]
            simp
        · cases h
      · rw [if_neg e] at h
        cases h
theorem parse_text {r : Raw} : ∀ {wss : List (List Str)} {l l' : List LRow} {i : Nat}, parseL r l wss i = .inr l' → linesOf l' = linesOf l ++ wss.map fun ws => TL.joinL [32] (ws.map fun w => w.cps.toList)
  | [], l, l', i, h => by
    have h : (Sum.inr l : Nat ⊕ List LRow) = .inr l' := h
    rw [Sum.inr.inj h]
    simp
  | ws :: t, l, l', i, h => by
    have h : (match lineP r l ws with
      | none => .inl i
      | some l' => parseL r l' t (i + 1)) = Sum.inr l' := h
    cases e : lineP r l ws with
    | none =>
      rw [e] at h
      cases h
    | some l2 =>
      rw [e] at h
      rw [parse_text h, line_text e]
      simp
theorem words_join (y : List Nat) : TL.joinL [32] ((wordsL y).map fun w => w.cps.toList) = y := by
  have e : (wordsL y).map (fun w => w.cps.toList) = TL.spl [32] 0 [] y := SX.map_S_tl _
  rw [e, join_spl]
  rfl
/-- what is read is what was written -/
theorem read_text {r : Raw} {x : Str} {l : List LRow} (h : readP r x = .inr l) : textOf l = x := by
  unfold readP at h
  cases e : parseL r [] ((rowsL x).dropLast.map wordsL) 0 with
  | inl i =>
    rw [e] at h
    cases h
  | inr l2 =>
    rw [e] at h
    dsimp only at h
    split at h
    · rename_i hb
      obtain rfl := Sum.inr.inj h
      have he := of_decide_eq_true (He.ba hb).2
      have t := parse_text e
      rw [List.map_map] at t
      have e2 : ((fun ws : List Str => TL.joinL [32] (ws.map fun w => w.cps.toList)) ∘ wordsL) = id := by
        funext y
        exact words_join y
      rw [e2, List.map_id] at t
      have hne : rowsL x ≠ [] := by
        obtain ⟨p, q, z⟩ := spl_ne 10 x.cps.toList []
        show TL.spl [10] 0 [] x.cps.toList ≠ []
        rw [z]
        simp
      have cat := List.dropLast_concat_getLast hne
      rw [List.getLast?_eq_some_getLast hne] at he
      rw [Option.some.inj he] at cat
      have j := join_spl 10 x.cps.toList []
      unfold textOf textL
      rw [t]
      show SX.S ((linesOf [] ++ (rowsL x).dropLast).flatMap (· ++ [10])) = x
      rw [show linesOf [] = [] from rfl, List.nil_append, ← join_ends, cat]
      show SX.S (TL.joinL [10] (TL.spl [10] 0 [] x.cps.toList)) = x
      rw [j, List.nil_append, SX.S_tl]
    · cases h
end K77

set_option Elab.async false
set_option linter.all false
set_option maxRecDepth 100000
set_option maxHeartbeats 400000
namespace K77
open PySem PySem.Spec PyProof.Rows L2 DL
/-! ### right logs -/
def endG (r : Raw) (n : Str) (l : List LRow) : Str := match l.getLast? with
  | none => n
  | some x => nextK r x.2.1
theorem endG_cons {r : Raw} {n : Str} {y : LRow} {t : List LRow} : endG r n (y :: t) = endG r (nextK r y.2.1) t := by
  unfold endG
  cases t with
  | nil => rfl
  | cons z t => rw [List.getLast?_cons_cons]
                cases e : (z :: t).getLast? with
                | none => simp at e
                | some x => rfl
theorem good_snoc {r : Raw} {x : LRow} (hx : RowG r x) : ∀ {l : List LRow} {n : Str}, GoodAll r n l → x.1 = endG r n l → GoodAll r n (l ++ [x])
  | [], n, _, h => ⟨hx, h, True.intro⟩
  | y :: t, n, ⟨h1, h2, h3⟩, h => ⟨h1, h2, good_snoc hx h3 (by rw [h, endG_cons])⟩
theorem st_endG {r : Raw} {l : List LRow} : stAfter r l = endG r (st0 r) l := rfl
/-- a log under way -/
def Way (r : Raw) (l : List LRow) : Prop := l = [] ∨ ∃ l0 x, l = l0 ++ [x] ∧ GoodAll r (st0 r) l0 ∧ x.1 = stAfter r l0 ∧ (∃ q, r.mvs[x.2.1]? = some q ∧ x.1 = q.1) ∧ x.2.2.length ≤ r.lam.length ∧ WvOk r x.2.2
theorem way_good {r : Raw} {l : List LRow} (h : Way r l) (hw : wholeL r l = true) : GoodAll r (st0 r) l := by
  rcases h with rfl | ⟨l0, x, rfl, h1, h2, h3, h4, h5⟩
  · exact True.intro
  · unfold wholeL at hw
    rw [List.getLast?_append] at hw
    have hw : decide (r.lam.length ≤ x.2.2.length) = true := hw
    have hw := of_decide_eq_true hw
    exact good_snoc ⟨h3, by omega, h5⟩ h1 h2
theorem way_line {r : Raw} {l l' : List LRow} {ws : List Str} (hl : Way r l) (h : lineP r l ws = some l') : Way r l' := by
  match ws, h with
  | [w0, w1, w2], h =>
    replace h : (if w0 = "move" then moveP r l w1 w2 else if w0 = "wave" then waveP r l w1 w2 else none) = some l' := h
    by_cases e : w0 = "move"
    · rw [if_pos e] at h
      unfold moveP at h
      split at h
      · rename_i hb
        obtain ⟨hw, hb⟩ := He.ba hb
        obtain ⟨h1, hb⟩ := He.ba hb
        obtain ⟨h2, h3⟩ := He.ba hb
        rw [← Option.some.inj h]
        refine .inr ⟨l, _, rfl, way_good hl hw, rfl, ?_, Nat.zero_le _, fun j y hy => by simp at hy⟩
        unfold mvB at h3
        cases e2 : r.mvs[numN w2]? with
        | none =>
          rw [e2] at h3
          cases h3
        | some q =>
          rw [e2] at h3
          exact ⟨q, rfl, (of_decide_eq_true h3).symm⟩
      · cases h
    · rw [if_neg e] at h
      by_cases e : w0 = "wave"
      · rw [if_pos e] at h
        unfold waveP at h
        split at h
        · rename_i hb
          obtain ⟨hw, hb⟩ := He.ba hb
          obtain ⟨h0, hb⟩ := He.ba hb
          obtain ⟨h1, h2⟩ := He.ba hb
          rw [← Option.some.inj h]
          rcases hl with rfl | ⟨l0, x, rfl, g1, g2, g3, g4, g5⟩
          · cases h1
          · have el : (l0 ++ [x]).getLast? = some x := by simp
            unfold lamB at h1
            rw [el] at h1
            have h1 := of_decide_eq_true h1
            unfold wholeL at hw
            rw [el] at hw
            have hw : (!decide (r.lam.length ≤ x.2.2.length)) = true := hw
            have hw : ¬ r.lam.length ≤ x.2.2.length := fun z => by rw [decide_eq_true z] at hw; cases hw
            unfold addW
            rw [el, List.dropLast_concat]
            refine .inr ⟨l0, _, rfl, g1, g2, g3, ?_, ?_⟩
            · show (x.2.2 ++ [(w1, bitsN w2)]).length ≤ _
              rw [List.length_append]
              show x.2.2.length + 1 ≤ _
              omega
            · have h0' : w2 ≠ "" := fun z => by
                rw [decide_eq_true z] at h0
                cases h0
              refine wv_snoc g5 h1 ⟨fun z => h0' ?_, fun b hb => ?_⟩
              · have z : w2.cps.toList.map (· - 48) = [] := z
                have z2 := List.map_eq_nil_iff.mp z
                rw [← SX.S_tl w2, z2]
                rfl
              · obtain ⟨c, hc, rfl⟩ := List.mem_map.mp (show b ∈ w2.cps.toList.map (· - 48) from hb)
                have := List.all_eq_true.mp h2 c hc
                unfold bitB at this
                rcases Bool.or_eq_true_iff.mp this with z | z <;> (have := of_decide_eq_true z; omega)
        · cases h
      · rw [if_neg e] at h
        cases h
theorem parse_way {r : Raw} : ∀ {wss : List (List Str)} {l l' : List LRow} {i : Nat}, Way r l → parseL r l wss i = .inr l' → Way r l'
  | [], l, l', i, hl, h => by
    replace h : (Sum.inr l : Nat ⊕ List LRow) = .inr l' := h
    rw [← Sum.inr.inj h]
    exact hl
  | ws :: t, l, l', i, hl, h => by
    replace h : (match lineP r l ws with
      | none => .inl i
      | some l' => parseL r l' t (i + 1)) = Sum.inr l' := h
    cases e : lineP r l ws with
    | none =>
      rw [e] at h
      cases h
    | some l2 =>
      rw [e] at h
      exact parse_way (way_line hl e) h
theorem read_good {r : Raw} {x : Str} {l : List LRow} (h : readP r x = .inr l) : GoodAll r (st0 r) l := by
  unfold readP at h
  cases e : parseL r [] ((rowsL x).dropLast.map wordsL) 0 with
  | inl i =>
    rw [e] at h
    cases h
  | inr l2 =>
    rw [e] at h
    dsimp only at h
    split at h
    · rename_i hb
      rw [← Sum.inr.inj h]
      exact way_good (parse_way (.inl rfl) e) (He.ba hb).1
    · cases h
theorem wave_ok {ks : List Nat} (h1 : ks ≠ []) (h2 : ∀ b ∈ ks, b ≤ 1) : isWave (.lst (ks.map fun k => Tr.int (k : Nat))) = true := by
  show (true && (!(ks.map fun k => Tr.int (k : Nat)).isEmpty && (ks.map fun k => Tr.int (k : Nat)).all isSign)) = true
  rw [Bool.true_and, Bool.and_eq_true]
  refine ⟨by cases ks <;> first | exact absurd rfl h1 | rfl, List.all_eq_true.mpr fun x hx => ?_⟩
  obtain ⟨k, hk, rfl⟩ := List.mem_map.mp hx
  have := h2 k hk
  show (decide ((k : Int) = 0) || decide ((k : Int) = 1)) = true
  by_cases z : k = 0
  · subst z; rfl
  · have : k = 1 := by omega
    subst this; rfl
theorem waves_ok {r : Raw} {ws : List Wv} (h1 : ws.length = r.lam.length) (h2 : WvOk r ws) : isWaves r.lam (.lst (ws.map wvT)) = true := by
  show (true && (decide ((ws.map wvT).length = r.lam.length) && ((List.range r.lam.length).map (pairB r.lam (ws.map wvT))).all id)) = true
  rw [Bool.true_and, List.length_map, decide_eq_true h1, Bool.true_and]
  refine List.all_eq_true.mpr fun b hb => ?_
  obtain ⟨i, hi, rfl⟩ := List.mem_map.mp hb
  have hi := List.mem_range.mp hi
  have hw : ws[i]? = some ws[i] := List.getElem?_eq_getElem (by omega)
  obtain ⟨z1, z2, z3⟩ := h2 i _ hw
  show pairB r.lam (ws.map wvT) i = true
  unfold pairB
  rw [List.getElem?_map, hw, z1]
  show (true && (decide (ws[i].1 = ws[i].1) && isWave (.lst (ws[i].2.map fun k => Tr.int (k : Nat))))) = true
  rw [wave_ok z2 z3, decide_eq_true rfl]
  rfl
theorem row_ok {r : Raw} {x : LRow} (h : RowG r x) : rowB r x.1 (lrT x) = true ∧ nextOf r (lrT x) = nextK r x.2.1 := by
  obtain ⟨⟨q, h1, h2⟩, h3, h4⟩ := h
  refine ⟨?_, rfl⟩
  show (true && (decide (x.1 = x.1) && ((decide ((0 : Int) ≤ (x.2.1 : Nat)) && (match r.mvs[((x.2.1 : Nat) : Int).toNat]? with | some q => decide (q.1 = x.1) | none => false)) && isWaves r.lam (.lst (x.2.2.map wvT))))) = true
  rw [waves_ok h3 h4, decide_eq_true rfl, Int.toNat_natCast, h1, decide_eq_true (Int.natCast_nonneg _)]
  show (true && (true && ((true && decide (q.1 = x.1)) && true))) = true
  rw [decide_eq_true h2.symm]
  rfl
theorem good_rows {r : Raw} : ∀ {l : List LRow} {n : Str}, GoodAll r n l → rowsB r n (l.map lrT) = true
  | [], _, _ => rfl
  | x :: t, n, ⟨h1, h2, h3⟩ => by
    obtain ⟨a, b⟩ := row_ok h1
    show (rowB r n (lrT x) && rowsB r (nextOf r (lrT x)) (t.map lrT)) = true
    rw [← h2, a, b, good_rows h3]
    rfl
theorem good_log {r : Raw} {l : List LRow} (h : GoodAll r (st0 r) l) : isLogT r (logT l) = true := by
  show (true && rowsB r (st0 r) (l.map lrT)) = true
  rw [good_rows h]
  rfl
/-! ### lists for tuples: a log stays a log -/
theorem kids_nil {d : Tr} (h : isSeq d = false) : kids d = [] := by
  cases d <;> first | rfl | cases h
theorem lse_kids {n : Nat} {d e : Tr} (h : Lse (n + 1) d e) : (kids e).length = (kids d).length ∧ ∀ (i : Nat) x y, (kids d)[i]? = some x → (kids e)[i]? = some y → Lse n x y := by
  rcases h with ⟨h1, rfl⟩ | ⟨_, _, h3, h4⟩
  · exact ⟨rfl, fun i x y hx => by rw [kids_nil h1] at hx; simp at hx⟩
  · exact ⟨h3, h4⟩
theorem lse_flat {g : Tr → Bool} (hg : ∀ d, isSeq d = true → g d = false) {n : Nat} {d e : Tr} (h : Lse n d e) : g e = g d := by
  cases hd : isSeq d with
  | true => rw [hg d hd, hg e (by rw [lse_seq h, hd])]
  | false =>
    cases n with
    | zero => rw [show e = d from h]
    | succ n =>
      rcases h with ⟨_, rfl⟩ | ⟨h1, _⟩
      · rfl
      · rw [hd] at h1
        cases h1
theorem all_lse {g : Tr → Bool} {n : Nat} (hg : ∀ d e, Lse n d e → g e = g d) : ∀ {ds es : List Tr}, es.length = ds.length → (∀ (i : Nat) x y, ds[i]? = some x → es[i]? = some y → Lse n x y) → es.all g = ds.all g
  | [], [], _, _ => rfl
  | [], _ :: _, h, _ => by simp at h
  | _ :: _, [], h, _ => by simp at h
  | x :: ds, y :: es, h, k => by
    rw [List.all_cons, List.all_cons, hg x y (k 0 x y rfl rfl), all_lse hg (by simpa using h) fun i a b h1 h2 => k (i + 1) a b (by simpa using h1) (by simpa using h2)]
theorem lse_wave {n : Nat} {d e : Tr} (h : Lse (n + 1) d e) : isWave e = isWave d := by
  obtain ⟨h1, h2⟩ := lse_kids h
  unfold isWave
  have e1 : (kids e).isEmpty = (kids d).isEmpty := by
    cases he : kids e <;> cases hd : kids d <;> first | rfl | (rw [he, hd] at h1; simp at h1)
  rw [lse_seq h, e1, all_lse (n := n) (fun d e z => lse_flat (fun d hd => by cases d <;> first | rfl | cases hd) z) h1 h2]
theorem lse_two {n : Nat} {d e : Tr} (h : Lse (n + 1) d e) : (∃ a b a' b', kids d = [a, b] ∧ kids e = [a', b'] ∧ Lse n a a' ∧ Lse n b b') ∨ ((kids d).length ≠ 2 ∧ (kids e).length ≠ 2) := by
  obtain ⟨h1, h2⟩ := lse_kids h
  by_cases hd : (kids d).length = 2
  · obtain ⟨a, b, e1⟩ := two_of hd
    obtain ⟨a', b', e2⟩ := two_of (h1.trans hd)
    rw [e1, e2] at h2
    exact .inl ⟨a, b, a', b', e1, e2, h2 0 a a' rfl rfl, h2 1 b b' rfl rfl⟩
  · exact .inr ⟨hd, by omega⟩
theorem lse_str {z : Str} {n : Nat} {d e : Tr} (h : Lse n d e) : isStr z e = isStr z d := lse_flat (fun d hd => by cases d <;> first | rfl | cases hd) h
theorem lse_pair {z : Str} {n : Nat} {d e : Tr} (h : Lse (n + 2) d e) : pairOk z e = pairOk z d := by
  rcases lse_two h with ⟨a, b, a', b', e1, e2, h1, h2⟩ | ⟨h1, h2⟩
  · unfold pairOk
    rw [e1, e2]
    dsimp only
    rw [lse_seq h, lse_str h1, lse_wave h2]
  · rw [pair_len h1, pair_len h2]
theorem lse_waves {lam : List Str} {n : Nat} {d e : Tr} (h : Lse (n + 3) d e) : isWaves lam e = isWaves lam d := by
  obtain ⟨h1, h2⟩ := lse_kids h
  unfold isWaves
  have e0 : (List.range lam.length).map (pairB lam (kids e)) = (List.range lam.length).map (pairB lam (kids d)) := by
    refine List.map_congr_left fun i _ => ?_
    unfold pairB
    cases hd : (kids d)[i]? with
    | none =>
      have : (kids e)[i]? = none := by
        rw [List.getElem?_eq_none_iff] at hd ⊢
        omega
      rw [this]
    | some x =>
      have hi := (List.getElem?_eq_some_iff.mp hd).1
      have he : (kids e)[i]? = some (kids e)[i] := List.getElem?_eq_getElem (by omega)
      rw [he]
      cases lam[i]? with
      | none => rfl
      | some z => exact lse_pair (h2 i x _ hd he)
  rw [e0, h1, lse_seq h]
theorem three_kids {d : Tr} (h : (kids d).length = 3) : ∃ a b c, kids d = [a, b, c] := by
  match kids d, h with
  | [a, b, c], _ => exact ⟨a, b, c, rfl⟩
theorem lse_row {r : Raw} {z : Str} {n : Nat} {d e : Tr} (h : Lse (n + 4) d e) : rowB r z e = rowB r z d ∧ nextOf r e = nextOf r d := by
  obtain ⟨h1, h2⟩ := lse_kids h
  by_cases hd : (kids d).length = 3
  · obtain ⟨a, m, w, e1⟩ := three_kids hd
    obtain ⟨a', m', w', e2⟩ := three_kids (h1.trans hd)
    rw [e1, e2] at h2
    have z1 := h2 0 a a' rfl rfl
    have z2 := h2 1 m m' rfl rfl
    have z3 := h2 2 w w' rfl rfl
    refine ⟨?_, ?_⟩
    · unfold rowB
      rw [e1, e2]
      dsimp only
      rw [lse_seq h, lse_str z1, lse_waves z3, lse_flat (g := mvAt r z) (fun d hd => by cases d <;> first | rfl | cases hd) z2]
    · unfold nextOf
      rw [e1, e2]
      rcases z2 with ⟨_, rfl⟩ | ⟨s1, s2, _⟩
      · cases m' <;> rfl
      · cases m <;> cases m' <;> first | rfl | (cases s1; done) | (cases s2; done)
  · have hd' : (kids e).length ≠ 3 := by omega
    refine ⟨by rw [row_len hd, row_len hd'], ?_⟩
    unfold nextOf
    split
    · rename_i a i w e2
      rw [e2] at hd'
      exact absurd rfl hd'
    · split
      · rename_i a i w e2
        rw [e2] at hd
        exact absurd rfl hd
      · rfl
theorem lse_rows {r : Raw} {n : Nat} : ∀ {ds es : List Tr} {z : Str}, es.length = ds.length → (∀ (i : Nat) x y, ds[i]? = some x → es[i]? = some y → Lse (n + 4) x y) → rowsB r z es = rowsB r z ds
  | [], [], _, _, _ => rfl
  | [], _ :: _, _, h, _ => by simp at h
  | _ :: _, [], _, h, _ => by simp at h
  | x :: ds, y :: es, z, h, k => by
    obtain ⟨a, b⟩ := lse_row (r := r) (z := z) (k 0 x y rfl rfl)
    show (rowB r z y && rowsB r (nextOf r y) es) = (rowB r z x && rowsB r (nextOf r x) ds)
    rw [a, b, lse_rows (by simpa using h) fun i a b h1 h2 => k (i + 1) a b (by simpa using h1) (by simpa using h2)]
theorem lse_log {r : Raw} {n : Nat} {d e : Tr} (h : Lse (n + 5) d e) : isLogT r e = isLogT r d := by
  obtain ⟨h1, h2⟩ := lse_kids h
  unfold isLogT
  rw [lse_seq h, lse_rows h1 h2]
end K77

set_option Elab.async false
set_option linter.all false
set_option maxRecDepth 100000
set_option maxHeartbeats 400000
namespace XT7
open PySem PySem.Spec PyProof.Rows L2
/-! readings of texts, for comprehensions; a != b of data without dicts -/
abbrev rAddS : R2 := fun x y H Q => ∃ i j, x = .str i ∧ y = .str j ∧ i.length + j.length ≤ sizeLine ∧ Q (.str (i ++ j)) H
abbrev rStrI : List V → Hp → VK → Prop := fun xs H Q => ∃ i, xs = [.int i] ∧ i.natAbs.log2 < 1920 ∧ Q (.str (toString i)) H
abbrev rIntS : List V → Hp → VK → Prop := fun xs H Q => ∃ a n, xs = [.str a] ∧ PySem.intText? a = some n ∧ a.length ≤ 640 ∧ Q (.int n) H
abbrev rSplitS : V → List V → Hp → VK → Prop := fun x xs H Q => ∃ a b, x = .str a ∧ xs = [.str b] ∧ (b.length == 0) = false ∧ a.length + 2 ≤ sizeLine ∧ rNewStrs (Txt.split a b) H Q
abbrev rIdxS : V → List V → Hp → VK → Prop := fun x xs H Q => ∃ a b i rest, x = .str a ∧ xs = [.str b] ∧ Builtin.Str.occurrences a b 0 a.length 1 = i :: rest ∧ Q (.int (i : Nat)) H
end XT7
namespace XQ
open PySem PySem.Spec PyProof.Rows L2
def rNeP (K : PySem.W.Frag) : R2 := fun x y H Q => ∃ d e, Dp K H x d ∧ Dp K H y e ∧ d.plain = true ∧ e.plain = true ∧ min d.depth e.depth ≤ 64 ∧ Q (.bl (!PyData.eqv d e)) H
theorem op_neP {X : Cx} (hu : X.A.units + 64 < cLine) : OpR X (compareOp .NotEq) (rNeP X.K) := by
  intro pins s σ H x y v u Q I rx ry h
  obtain ⟨d, e, hd, he, sd, se, hm, q⟩ := h
  obtain ⟨as, r1⟩ := Dp.reads I d x v hd rx
  obtain ⟨bs, r2⟩ := Dp.reads I e y u he ry
  exact SeqAt.ne_plain r1 r2 sd se (by omega) ⟨.bl _, H, I, rfl, q⟩
end XQ

set_option Elab.async false
set_option linter.all false
set_option maxRecDepth 100000
set_option maxHeartbeats 400000
namespace K77
open PySem PySem.Spec PyProof.Rows L2 DL
def FIG : Str := "0123456789"
theorem fig_in (c : Nat) : inS FIG ⟨#[c]⟩ = digB c := by
  have e : inS FIG ⟨#[c]⟩ = decide (c ∈ FIG.cps.toList) := StrLaws.found_one FIG c
  rw [e]
  have e2 : FIG.cps.toList = [48, 49, 50, 51, 52, 53, 54, 55, 56, 57] := by decide +kernel
  rw [e2]
  unfold digB
  by_cases h : 48 ≤ c ∧ c ≤ 57
  · rw [decide_eq_true h.1, decide_eq_true h.2, decide_eq_true]
    · rfl
    · have : c = 48 ∨ c = 49 ∨ c = 50 ∨ c = 51 ∨ c = 52 ∨ c = 53 ∨ c = 54 ∨ c = 55 ∨ c = 56 ∨ c = 57 := by omega
      simpa using this
  · have : ¬ c ∈ [48, 49, 50, 51, 52, 53, 54, 55, 56, 57] := fun z => h (by
      have : c = 48 ∨ c = 49 ∨ c = 50 ∨ c = 51 ∨ c = 52 ∨ c = 53 ∨ c = 54 ∨ c = 55 ∨ c = 56 ∨ c = 57 := by simpa using z
      omega)
    rw [decide_eq_false this]
    symm
    rw [Bool.and_eq_false_iff]
    by_cases z : 48 ≤ c
    · exact .inr (decide_eq_false fun w => h ⟨z, w⟩)
    · exact .inl (decide_eq_false z)
theorem bit_in (c : Nat) : inS "01" ⟨#[c]⟩ = bitB c := by
  have e : inS "01" ⟨#[c]⟩ = decide (c ∈ ("01" : Str).cps.toList) := StrLaws.found_one "01" c
  rw [e]
  have e2 : ("01" : Str).cps.toList = [48, 49] := by decide +kernel
  rw [e2]
  unfold bitB
  by_cases h : c = 48
  · subst h; rfl
  · by_cases h2 : c = 49
    · subst h2; rfl
    · rw [decide_eq_false h, decide_eq_false h2]
      simp [h, h2]
theorem cps_get {x : Str} {i c : Nat} (h : x.cps[i]? = some c) : x.cps.toList[i]? = some c := by rw [Array.getElem?_toList]; exact h
theorem len_toList (x : Str) : x.cps.toList.length = x.length := Array.length_toList
section
variable {P : Program} {w : World} {K : PySem.W.Frag} {mg : Str → Option Value} {base : Heap} {f : Addr} {fd : FuncData}
def spNum : Sp := fun vs H Q _ => ∃ x : Str, vs = [.str x] ∧ x.length < 1000000 ∧ ∀ H', Ex H H' → Q (.bl (numB x)) H'
theorem sc_is_numeral : FnScope ["word", "sign"] ["word"] (defScope s_is_numeral) := ⟨rfl, rfl, rfl, by decide +kernel, rfl, by decide +kernel, by decide +kernel⟩
theorem ok_is_numeral (W : Wld K mg) (F : FnP K "is_numeral" s_is_numeral f fd) : FnOk P w K mg base CX0 2 f fd ["word"] spNum := by
  have Cis_text : Cal P w K mg base 1 "is_text" ["thing"] (sp1 K isS) := cis_text W
  obtain ⟨tF, hFIG⟩ := W.str_FIGURES
  refine F.ok sc_is_numeral (fun vs H Q E h => ?_) (fun cdv A outer s H vs Q E hr h => ?_)
  · obtain ⟨x, rfl, _⟩ := h
    rfl
  obtain ⟨x, rfl, hx, k⟩ := h
  refine ⟨_, PSs.nox (pss_cons (ps_if (PW.pt (pw_or (pt_not (pt_val (pe_c Cis_text (hr.mono (by decide)) (pa_cons (pv 0) pa_nil)))) (pw_or1 (pt_not (pt_chain op_le op_le pe_int (pe_callB call_len_str (by rfl) W.n_len (by decide +kernel) (pa_cons (pv 0) pa_nil)) pe_int)))))
    (pss_one (ps_ret pe_bl))
    pss_nil)
    (pss_cons (ps_if (pt_cmpR op_eq (pe_ix ix_str (pv 0) pe_int (fun _ _ => rfl)) pe_str (nomark _))
    (pss_one (ps_ret (pe_cmpR op_eq (pv 0) pe_str (nomark _))))
    pss_nil)
    (pss_one (ps_ret (pe_callB (cr_all rfl) (by rfl) W.n_all (by decide +kernel) (pa_cons (pe_lc (own := [("sign", 1)]) (g := gName 1) (tt := tYes) (te := (tOp rInS (tVar 1) (tC (.str FIG)))) rfl sc_is_numeral.nd (pi_str (pv 0)) (blkOk_by (N := ["word", "sign"]) (sc := defScope s_is_numeral) (by decide +kernel)) (fun _ _ _ _ _ => pg_name (i := 1) sc_is_numeral.nd rfl (Or.inl rfl)) (fun _ _ _ _ _ => pts_nil) (fun _ _ _ _ _ => (pe_cmpR op_in_str (pv 1) (pe_glob (v := .str FIG) (by rfl) hFIG ⟨tF, rfl⟩) (by rfl)))) pa_nil)))))), ?_⟩
  refine ⟨_, rfl, .str x, .str x, rfl, .str x, fun H1 e1 => ⟨_, rfl, iteF ?_⟩⟩
  have hz : x.length ≤ sizeLine := by rw [sizeLine_eq]; omega
  refine ⟨_, rfl, x, rfl, hz, _, _, rfl, rfl, _, rfl, ?_⟩
  have kf : numB x = false → ∀ H', Ex H H' → Q (.bl false) H' := fun h H' e => by
    have z := k H' e
    rw [h] at z
    exact z
  by_cases h1 : 1 ≤ x.length
  · rw [decide_eq_true (by omega : (1 : Int) ≤ x.length)]
    refine iteT ⟨_, _, rfl, rfl, _, rfl, ?_⟩
    by_cases h9 : x.length ≤ 9
    · rw [decide_eq_true (by omega : (x.length : Int) ≤ 9)]
      refine iteF ?_
      obtain ⟨c, hc⟩ : ∃ c, x.cps[0]? = some c := ⟨x.cps[0]'h1, Array.getElem?_eq_getElem h1⟩
      have hat : atI x.cps.toList 0 = some c := atI_nat (j := 0) (cps_get hc)
      refine ⟨_, rfl, _, _, c, rfl, rfl, hz, hat, rfl, _, rfl, ?_⟩
      have ek : numB x = (if c = 48 then decide (x = "0") else x.cps.toList.all digB) := by
        unfold numB
        rw [decide_eq_true h1, decide_eq_true h9, Bool.true_and, Bool.true_and, hc]
        by_cases z : c = 48
        · rw [if_pos z, if_pos (by rw [z])]
        · rw [if_neg z, if_neg (fun w => z (Option.some.inj w))]
      rw [dec_s]
      by_cases z : c = 48
      · rw [if_pos z] at ek
        rw [decide_eq_true (by rw [z]; rfl : (⟨#[c]⟩ : Str) = "0")]
        refine iteT ⟨_, rfl, rfl, ?_⟩
        rw [dec_s]
        have w := k H1 e1
        rw [ek] at w
        exact w
      · rw [if_neg z] at ek
        rw [decide_eq_false (fun w : (⟨#[c]⟩ : Str) = "0" => z (by
          have w2 := congrArg (fun z : Str => z.cps[0]?) w
          exact Option.some.inj (show some c = some 48 from w2)))]
        refine iteF ⟨_, rfl, x, rfl, fun D hD => ?_⟩
        refine lc_bools walk_str (atB digB x.cps.toList) (by rw [sizeLine_eq]; exact Nat.lt_of_lt_of_le hx (by decide)) hD (fun _ _ => trivial) ?_ ?_
        · rintro i y H2 H3 Q2 hi e2 ⟨rfl, c', hc', rfl⟩ q
          refine ⟨rfl, ?_⟩
          refine ⟨_, rfl, _, _, rfl, rfl, ?_⟩
          rw [atB_some (cps_get hc')] at q
          have w := q _ (Ex.refl _)
          rw [← fig_in] at w
          exact w
        · intro H5 h5 e5
          refine ⟨D, _, rfl, SqL.of h5, ?_⟩
          have w := k H5 (e1.trans e5)
          rw [ek] at w
          rw [show x.cps.size = x.cps.toList.length from Array.length_toList.symm, all_at]
          exact w
    · rw [decide_eq_false (by omega : ¬ (x.length : Int) ≤ 9)]
      refine iteT (kf ?_ H1 e1)
      unfold numB
      rw [decide_eq_false h9]
      simp
  · rw [decide_eq_false (by omega : ¬ (1 : Int) ≤ x.length)]
    refine iteF ⟨_, rfl, iteT (kf ?_ H1 e1)⟩
    unfold numB
    rw [decide_eq_false h1]
    rfl
theorem cis_numeral (W : Wld K mg) : Cal P w K mg base 2 "is_numeral" ["word"] spNum := by
  obtain ⟨fd, F⟩ := W.c.def_ 8 rfl
  exact ⟨⟨fd, ok_is_numeral W F, F.bindsN fun _ _ _ _ _ _ us hl => match us, hl with | [_], _ => rfl⟩, W.g_is_numeral, F.kp⟩
/-! ### lines -/
def spTextOf (K : PySem.W.Frag) : Sp := fun vs H Q _ => ∃ (p : Addr) (ls : List (List Nat)), vs = [.ref p] ∧ SqL K H p (strsV (ls.map SX.S)) ∧ (ls.flatMap (· ++ [10])).length ≤ 1000000 ∧ ∀ H', Ex H H' → Q (.str (SX.S (ls.flatMap (· ++ [10])))) H'
theorem len_flat {ls : List (List Nat)} : (ls.flatMap (· ++ [10])).length = (ls.map fun y => y.length + 1).sum := by
  induction ls with
  | nil => rfl
  | cons y ls ih => rw [List.flatMap_cons, List.length_append, ih, List.map_cons, List.sum_cons, List.length_append]; rfl
theorem join_nil : ∀ (ys : List (List Nat)), TL.joinL [] ys = ys.flatten
  | [] => rfl
  | [p] => by simp [TL.joinL]
  | p :: q :: r => by
    show p ++ ([] ++ TL.joinL [] (q :: r)) = _
    rw [join_nil (q :: r)]
    simp
theorem str_empty : ("" : Str) = SX.S [] := by decide +kernel
theorem join_all (ys : List (List Nat)) : Txt.join "" (ys.map SX.S) = SX.S ys.flatten := by
  rw [str_empty, SX.join_S, join_nil]
theorem sum_len {ls : List (List Nat)} {y : List Nat} (h : y ∈ ls) : y.length + 1 ≤ (ls.map fun y => y.length + 1).sum := by
  induction ls with
  | nil => cases h
  | cons z ls ih =>
    rw [List.map_cons, List.sum_cons]
    rcases List.mem_cons.mp h with rfl | h
    · omega
    · have := ih h
      omega
theorem sum_cnt {ls : List (List Nat)} : ls.length ≤ (ls.map fun y => y.length + 1).sum := by
  induction ls with
  | nil => exact Nat.zero_le _
  | cons z ls ih => rw [List.map_cons, List.sum_cons, List.length_cons]; omega
theorem sc_text_of : FnScope ["lines", "line"] ["lines"] (defScope s_text_of) := ⟨rfl, rfl, rfl, by decide +kernel, rfl, by decide +kernel, by decide +kernel⟩
theorem ok_text_of (W : Wld K mg) (F : FnP K "text_of" s_text_of f fd) : FnOk P w K mg base CX0 1 f fd ["lines"] (spTextOf K) := by
  refine F.ok sc_text_of (fun vs H Q E h => ?_) (fun cdv A outer s H vs Q E hr h => ?_)
  · obtain ⟨p, ls, rfl, _⟩ := h
    rfl
  obtain ⟨p, ls, rfl, hp, hl, k⟩ := h
  refine ⟨_, PSs.nox (pss_one (ps_ret (pe_join pe_str (pe_lc (own := [("line", 1)]) (g := gName 1) (tt := tYes) (te := (tOp XT7.rAddS (tVar 1) (tC (.str "\n")))) rfl sc_text_of.nd (pi_list (pv 0)) (blkOk_by (N := ["lines", "line"]) (sc := defScope s_text_of) (by decide +kernel)) (fun _ _ _ _ _ => pg_name (i := 1) sc_text_of.nd rfl (Or.inl rfl)) (fun _ _ _ _ _ => pts_nil) (fun _ _ _ _ _ => (pe_op op_add_str (pv 1) pe_str)))))), ?_⟩
  rw [len_flat] at hl
  refine ⟨⟨_, rfl⟩, _, rfl, p, rfl, ⟨_, hp⟩, fun D hD => ?_⟩
  have cnt := sum_cnt (ls := ls)
  refine lc_map walk_list (fun i v _ => ∃ y, ls[i]? = some y ∧ v = .str (SX.S (y ++ [10]))) (by rw [strs_len, List.length_map, sizeLine_eq]; omega) hD (fun H' e => e.er.l hp) (fun _ _ _ _ q _ => q) ?_ ?_
  · rintro i v H2 H3 Q2 hi e2 ⟨rfl, hv⟩ q
    obtain ⟨x, hx, rfl⟩ := strs_get hv
    rw [List.getElem?_map] at hx
    cases e : ls[i]? with
    | none => rw [e] at hx; cases hx
    | some y =>
      rw [e] at hx
      obtain rfl := Option.some.inj hx
      have yl := sum_len (List.mem_of_getElem? e)
      refine ⟨rfl, _, rfl, _, _, rfl, rfl, by rw [SX.S_len, sizeLine_eq]; show _ + 1 ≤ _; omega, q _ _ (Ex.refl _) ⟨y, e, ?_⟩⟩
      rw [str_nl, SX.S_cat]
  · intro H2 ys h2 yl e2 hy
    rw [strs_len, List.length_map] at yl
    have ey : ys = strsV ((ls.map (· ++ [10])).map SX.S) := by
      refine List.ext_getElem? fun i => ?_
      cases e : ys[i]? with
      | none =>
        rw [List.getElem?_eq_none_iff] at e
        symm
        rw [List.getElem?_eq_none_iff, strs_len, List.length_map, List.length_map]
        omega
      | some v =>
        obtain ⟨y, h1, rfl⟩ := hy i v e
        unfold strsV
        rw [List.getElem?_map, List.getElem?_map, List.getElem?_map, h1]
        rfl
    rw [ey] at h2
    have tot : (((ls.map (· ++ [10])).map SX.S).map (·.length)).sum = (ls.map fun y => y.length + 1).sum := by
      rw [List.map_map, List.map_map]
      congr 1
      refine List.map_congr_left fun y _ => ?_
      show (SX.S (y ++ [10])).length = _
      rw [SX.S_len, List.length_append]
      rfl
    refine ⟨_, _, _, rfl, rfl, .inl (SqL.of h2), ?_, ?_⟩
    · rw [tot]
      show _ + _ * 0 ≤ _
      omega
    · rw [join_all, ← List.flatMap_def]
      exact k H2 e2
theorem ctext_of (W : Wld K mg) : Cal P w K mg base 1 "text_of" ["lines"] (spTextOf K) := by
  obtain ⟨fd, F⟩ := W.c.def_ 22 rfl
  exact ⟨⟨fd, ok_text_of W F, F.bindsN fun _ _ _ _ _ _ us hl => match us, hl with | [_], _ => rfl⟩, W.g_text_of, F.kp⟩
end
end K77

set_option Elab.async false
set_option linter.all false
set_option maxRecDepth 100000
set_option maxHeartbeats 400000
namespace K77
open PySem PySem.Spec PyProof.Rows L2 DL
theorem cut_last (xs : List V) : cutV xs none (some (-1)) = xs.dropLast := by
  unfold cutV
  have e : HT.sIx xs.length xs.length (some (-1)) = xs.length - 1 := by
    show (if (-1 : Int) < 0 then ((-1 : Int) + (xs.length : Int)).toNat else min (-1 : Int).toNat xs.length) = xs.length - 1
    rw [if_pos (by decide)]
    omega
  have e0 : HT.sIx xs.length 0 none = 0 := rfl
  rw [e, e0, List.drop_zero, List.dropLast_eq_take]
  congr 1
theorem spl_part_len (c : Nat) : ∀ (l acc p : List Nat), p ∈ TL.spl [c] 0 acc l → p.length ≤ acc.length + l.length
  | [], acc, p, h => by
    rw [TL.spl_nil, List.mem_singleton] at h
    rw [h]
    exact Nat.le_refl _
  | d :: r, acc, p, h => by
    rw [spl1] at h
    split at h
    · rcases List.mem_cons.mp h with rfl | h
      · exact Nat.le_add_right _ _
      · have := spl_part_len c r [] p h
        simp at this ⊢
        omega
    · have := spl_part_len c r _ p h
      simp at this ⊢
      omega
theorem spl_cnt (c : Nat) : ∀ (l acc : List Nat), (TL.spl [c] 0 acc l).length ≤ l.length + 1
  | [], acc => by rw [TL.spl_nil]; exact Nat.le_refl _
  | d :: r, acc => by
    rw [spl1]
    split
    · rw [List.length_cons, List.length_cons]
      have := spl_cnt c r []
      omega
    · rw [List.length_cons]
      have := spl_cnt c r (acc ++ [d])
      omega
theorem rowL_len {x : Str} {y : List Nat} (h : y ∈ rowsL x) : y.length ≤ x.length := by
  have := spl_part_len 10 _ _ _ h
  rw [← len_toList x]
  simpa using this
theorem rows_cnt (x : Str) : (rowsL x).length ≤ x.length + 1 := by
  rw [← len_toList x]
  exact spl_cnt 10 _ _
theorem words_cnt (y : List Nat) : (wordsL y).length ≤ y.length + 1 := by
  unfold wordsL
  rw [List.length_map]
  exact spl_cnt 32 _ _
theorem words_len {y : List Nat} {w : Str} (h : w ∈ wordsL y) : w.length ≤ y.length := by
  unfold wordsL at h
  obtain ⟨p, hp, rfl⟩ := List.mem_map.mp h
  have := spl_part_len 32 _ _ _ hp
  rw [SX.S_len]
  simpa using this
theorem words_ne (y : List Nat) : wordsL y ≠ [] := by
  obtain ⟨p, q, e⟩ := spl_ne 32 y []
  unfold wordsL
  rw [e]
  simp
theorem nl_len : ((("\n" : Str).length) == 0) = false := by decide +kernel
theorem sp_len : (((" " : Str).length) == 0) = false := by decide +kernel
section
variable {P : Program} {w : World} {K : PySem.W.Frag} {mg : Str → Option Value} {base : Heap} {f : Addr} {fd : FuncData}
/-- the words of each line -/
def LinesAt (H0 H' : Hp) (D : Addr) (us : List V) (x : Str) : Prop := us.length = (rowsL x).dropLast.length ∧ ∀ (i : Nat) (u : V), us[i]? = some u → ∃ y q, (rowsL x).dropLast[i]? = some y ∧ u = .ref q ∧ H0 q = none ∧ q ≠ D ∧ H' q = some (.lst (strsV (wordsL y)))
def spLinesIn : Sp := fun vs H Q _ => ∃ x : Str, vs = [.str x] ∧ x.length ≤ 10000 ∧ ∀ D us H', Ex H H' → H D = none → H' D = some (.lst us) → LinesAt H H' D us x → Q (.ref D) H'
theorem sc_lines_in : FnScope ["text", "line"] ["text"] (defScope s_lines_in) := ⟨rfl, rfl, rfl, by decide +kernel, rfl, by decide +kernel, by decide +kernel⟩
theorem ok_lines_in (W : Wld K mg) (F : FnP K "lines_in" s_lines_in f fd) : FnOk P w K mg base CX0 1 f fd ["text"] spLinesIn := by
  refine F.ok sc_lines_in (fun vs H Q E h => ?_) (fun cdv A outer s H vs Q E hr h => ?_)
  · obtain ⟨x, rfl, _⟩ := h
    rfl
  obtain ⟨x, rfl, hx, k⟩ := h
  refine ⟨_, PSs.nox (pss_one (ps_ret (pe_lc (own := [("line", 1)]) (g := gName 1) (tt := tYes) (te := (tM1 XT7.rSplitS (tVar 1) (tC (.str " ")))) rfl sc_lines_in.nd (pi_list (pe_slice sl_list (pe_split (pv 0) pe_str) po_none (po_some (pe_un un_neg pe_int)))) (blkOk_by (N := ["text", "line"]) (sc := defScope s_lines_in) (by decide +kernel)) (fun _ _ _ _ _ => pg_name (i := 1) sc_lines_in.nd rfl (Or.inl rfl)) (fun _ _ _ _ _ => pts_nil) (fun _ _ _ _ _ => (pe_split (pv 1) pe_str))))), ?_⟩
  refine ⟨_, rfl, ⟨_, rfl⟩, x, "\n", rfl, rfl, nl_len, by rw [sizeLine_eq]; omega, fun p1 hp1 => ?_⟩
  have x1 : Ex H (upd H p1 (.lst ((Txt.split x "\n").map V.str))) := (Ex.refl H).new hp1
  have y1 : upd H p1 (.lst ((Txt.split x "\n").map V.str)) p1 = some (.lst ((Txt.split x "\n").map V.str)) := upd_same
  generalize upd H p1 (.lst ((Txt.split x "\n").map V.str)) = H1 at x1 y1 ⊢
  refine ⟨_, rfl, _, rfl, p1, _, rfl, SqL.of y1, fun p2 hp2 => ?_⟩
  rw [cut_last]
  have x2 : Ex H1 (upd H1 p2 (.lst ((Txt.split x "\n").map V.str).dropLast)) := (Ex.refl H1).new hp2
  have y2 : upd H1 p2 (.lst ((Txt.split x "\n").map V.str).dropLast) p2 = some (.lst ((Txt.split x "\n").map V.str).dropLast) := upd_same
  generalize upd H1 p2 (.lst ((Txt.split x "\n").map V.str).dropLast) = H2 at x2 y2 ⊢
  have e02 := x1.trans x2
  have ed : ((Txt.split x "\n").map V.str).dropLast = strsV ((rowsL x).dropLast.map SX.S) := by
    rw [split_nl]
    unfold strsV
    rw [List.map_dropLast, List.map_dropLast]
  rw [ed] at y2
  refine ⟨p2, rfl, ⟨_, SqL.of y2⟩, fun D hD => ?_⟩
  have cnt := rows_cnt x
  have dl : (rowsL x).dropLast.length ≤ x.length := by rw [List.length_dropLast]; omega
  refine lc_mapD (walk_list (xs := strsV ((rowsL x).dropLast.map SX.S))) (fun i v H' => ∃ y q, (rowsL x).dropLast[i]? = some y ∧ v = .ref q ∧ H q = none ∧ q ≠ D ∧ H' q = some (.lst (strsV (wordsL y)))) (by rw [strs_len, List.length_map, sizeLine_eq]; omega) hD (fun H' e => SqL.of (e _ _ y2)) ?_ ?_ ?_
  · rintro i v Ha Hb ⟨y, q, z1, z2, z3, z4, z5⟩ hk
    exact ⟨y, q, z1, z2, z3, z4, hk _ _ z4 z5⟩
  · intro i v Ha Q2 hv ea hDa q
    obtain ⟨z, hz, rfl⟩ := strs_get hv
    rw [List.getElem?_map] at hz
    cases e : (rowsL x).dropLast[i]? with
    | none => rw [e] at hz; cases hz
    | some y =>
      rw [e] at hz
      obtain rfl := Option.some.inj hz
      have yl := rowL_len (List.dropLast_subset _ (List.mem_of_getElem? e))
      refine ⟨rfl, _, rfl, ⟨_, rfl⟩, _, " ", rfl, rfl, sp_len, by rw [SX.S_len, sizeLine_eq]; omega, fun r hr => ?_⟩
      rw [split_sp]
      refine q _ _ ((Ex.refl Ha).new hr) ⟨y, r, e, rfl, ?_, ?_, upd_same⟩
      · cases hz : H r with
        | none => rfl
        | some o =>
          have := ea _ _ (e02 _ _ hz)
          rw [hr] at this
          cases this
      · obtain ⟨acc, ha⟩ := hDa
        exact (ne_of_none ha hr).symm
  · intro H3 us h3 ul e3 hu
    rw [strs_len, List.length_map] at ul
    refine k D us H3 (e02.trans e3) ?_ h3 ⟨ul, hu⟩
    exact e02.free hD
theorem clines_in (W : Wld K mg) : Cal P w K mg base 1 "lines_in" ["text"] spLinesIn := by
  obtain ⟨fd, F⟩ := W.c.def_ 23 rfl
  exact ⟨⟨fd, ok_lines_in W F, F.bindsN fun _ _ _ _ _ _ us hl => match us, hl with | [_], _ => rfl⟩, W.g_lines_in, F.kp⟩
/-! ### the lines of a log -/
theorem mv_out {n : Str} {k : Nat} : ((((Str.empty ++ ("move " : Str)) ++ n) ++ (" " : Str)) ++ (toString ((k : Nat) : Int) : Str)) = SX.S (mvL n k) := by
  refine TL.ext_tl ?_
  rw [TL.tl_append, TL.tl_append, TL.tl_append, TL.tl_append, TL.tl_num]
  rfl
theorem wv_out {n : Str} {bs : List Nat} : (((Str.empty ++ ("wave " : Str)) ++ n) ++ (" " : Str)) ++ Txt.join "" (bs.map strI) = SX.S (wvL (n, bs)) := by
  have e : bs.map strI = (bs.map TL.numL).map SX.S := by
    rw [List.map_map]
    refine List.map_congr_left fun b _ => ?_
    show strI b = SX.S (TL.numL b)
    exact (TL.mk_tl (strI b)).symm.trans (congrArg SX.S (TL.tl_num b))
  rw [e, join_all, ← List.flatMap_def]
  refine TL.ext_tl ?_
  rw [TL.tl_append, TL.tl_append, TL.tl_append, TL.tl_append]
  rfl
theorem log_bits {k : Nat} (h : k < 1000000) : ((k : Nat) : Int).natAbs.log2 < 1920 := by
  rw [Int.natAbs_natCast]
  by_cases z : k = 0
  · subst z; decide
  · have : k.log2 < 20 := (Nat.log2_lt z).mpr (Nat.lt_of_lt_of_le h (by decide))
    omega
theorem lse_ints {bs : List Nat} {t : Tr} {n : Nat} (h : Lse (n + 1) (.lst (bs.map fun k => Tr.int (k : Nat))) t) : kids t = bs.map fun k => Tr.int (k : Nat) := by
  obtain ⟨h1, h2⟩ := lse_kids h
  refine List.ext_getElem? fun i => ?_
  by_cases hi : i < bs.length
  · have e1 : (kids (.lst (bs.map fun k => Tr.int (k : Nat))))[i]? = some (.int (bs[i] : Nat)) := by
      show (bs.map fun k => Tr.int (k : Nat))[i]? = _
      rw [List.getElem?_map, List.getElem?_eq_getElem hi]
      rfl
    have hk : i < (kids t).length := by
      rw [h1]
      show i < (bs.map fun k => Tr.int (k : Nat)).length
      rw [List.length_map]
      exact hi
    have e2 := List.getElem?_eq_getElem hk
    have z := h2 i _ _ e1 e2
    rw [e2, lse_sc z rfl, List.getElem?_map, List.getElem?_eq_getElem hi]
    rfl
  · have hk : (kids t).length ≤ i := by
      rw [h1]
      show (bs.map fun k => Tr.int (k : Nat)).length ≤ i
      rw [List.length_map]
      omega
    rw [List.getElem?_eq_none hk, List.getElem?_eq_none (by rw [List.length_map]; omega)]
theorem lse_wvT {y : Wv} {t : Tr} {n : Nat} (h : Lse (n + 2) (wvT y) t) : ∃ u, kids t = [.str y.1, u] ∧ isSeq t = true ∧ kids u = y.2.map (fun k => Tr.int (k : Nat)) ∧ isSeq u = true := by
  obtain ⟨h1, h2⟩ := lse_kids h
  obtain ⟨a, b, e⟩ := two_of (h1.trans rfl)
  rw [e] at h2
  have z1 := h2 0 (.str y.1) a rfl rfl
  have z2 := h2 1 (.lst (y.2.map fun k => Tr.int (k : Nat))) b rfl rfl
  refine ⟨b, ?_, by rw [lse_seq h]; rfl, lse_ints z2, by rw [lse_seq z2]; rfl⟩
  rw [e, lse_sc z1 rfl]
theorem lse_lrT {x : LRow} {t : Tr} {n : Nat} (h : Lse (n + 4) (lrT x) t) : ∃ w, kids t = [.str x.1, .int (x.2.1 : Nat), w] ∧ isSeq t = true ∧ isSeq w = true ∧ Lse (n + 3) (.lst (x.2.2.map wvT)) w := by
  obtain ⟨h1, h2⟩ := lse_kids h
  obtain ⟨a, b, c, e⟩ := three_kids (h1.trans rfl)
  rw [e] at h2
  have z1 := h2 0 (.str x.1) a rfl rfl
  have z2 := h2 1 (.int (x.2.1 : Nat)) b rfl rfl
  have z3 := h2 2 (.lst (x.2.2.map wvT)) c rfl rfl
  refine ⟨c, ?_, by rw [lse_seq h]; rfl, by rw [lse_seq z3]; rfl, z3⟩
  rw [e, lse_sc z1 rfl, lse_sc z2 rfl]
theorem lines_mem {l : List LRow} {y : List Nat} (h : y ∈ linesOf l) : y.length + 1 ≤ (textL l).length := by
  unfold textL
  rw [len_flat]
  exact sum_len h
theorem lines_cnt (l : List LRow) : (linesOf l).length ≤ (textL l).length := by
  unfold textL
  rw [len_flat]
  exact sum_cnt
theorem rowL_mem {l : List LRow} {x : LRow} {y : List Nat} (hx : x ∈ l) (hy : y ∈ rowL x) : y ∈ linesOf l := List.mem_flatMap.mpr ⟨x, hx, hy⟩
theorem lines_take {l : List LRow} {i : Nat} {x : LRow} (h : l[i]? = some x) : linesOf (l.take (i + 1)) = linesOf (l.take i) ++ rowL x := by
  rw [List.take_add_one, h]
  unfold linesOf
  rw [List.flatMap_append]
  simp
theorem lines_pre (l : List LRow) (i : Nat) : (linesOf (l.take i)).length ≤ (linesOf l).length := by
  have e : linesOf l = linesOf (l.take i) ++ linesOf (l.drop i) := by
    unfold linesOf
    rw [← List.flatMap_append, List.take_append_drop]
  rw [e, List.length_append]
  exact Nat.le_add_right _ _
theorem strs_snoc (ls : List (List Nat)) (y : List Nat) : strsV (ls.map SX.S) ++ [V.str (SX.S y)] = strsV ((ls ++ [y]).map SX.S) := by
  unfold strsV
  rw [List.map_append, List.map_append]
  rfl
/-- a log that can be written -/
def TxtOk (l : List LRow) : Prop := (textL l).length ≤ 100000 ∧ ∀ x ∈ l, x.2.1 < 1000000 ∧ ∀ y ∈ x.2.2, ∀ b ∈ y.2, b < 1000000
theorem numL_pos (k : Nat) : 1 ≤ (TL.numL k).length := by
  cases h : TL.numL k with
  | cons a r => exact Nat.le_add_left 1 _
  | nil => exact absurd h (TL.numL_ne k)
theorem bits_join (bs : List Nat) : Txt.join "" (bs.map strI) = SX.S (bs.flatMap TL.numL) := by
  have e : bs.map strI = (bs.map TL.numL).map SX.S := by
    rw [List.map_map]
    refine List.map_congr_left fun b _ => ?_
    show strI b = SX.S (TL.numL b)
    exact (TL.mk_tl (strI b)).symm.trans (congrArg SX.S (TL.tl_num b))
  rw [e, join_all, ← List.flatMap_def]
def spLogLines (K : PySem.W.Frag) : Sp := fun vs H Q _ => ∃ (v : V) (d : Tr) (l : List LRow), vs = [v] ∧ Den K true H v d ∧ Lse 5 (logT l) d ∧ TxtOk l ∧ ∀ D H', Ex H H' → H D = none → H' D = some (.lst (strsV ((linesOf l).map SX.S))) → Q (.ref D) H'
theorem sc_log_lines : FnScope ["log", "lines", "state", "move", "waves", "lamp", "wave", "sign"] ["log"] (defScope s_log_lines) := ⟨rfl, rfl, rfl, by decide +kernel, rfl, by decide +kernel, by decide +kernel⟩
theorem ok_log_lines (W : Wld K mg) (F : FnP K "log_lines" s_log_lines f fd) : FnOk P w K mg base CX0 1 f fd ["log"] (spLogLines K) := by
  refine F.ok sc_log_lines (fun vs H Q E h => ?_) (fun cdv A outer s H vs Q E hr h => ?_)
  · obtain ⟨v, d, l, rfl, _⟩ := h
    rfl
  obtain ⟨v, d, l, rfl, hd, hl, ⟨tl, tx⟩, k⟩ := h
  refine ⟨_, PSs.nox (pss_cons (ps_set (i := 1) sc_log_lines.nd rfl (.inl rfl) (pe_lst pa_nil))
    (pss_cons (ps_for PassesOwn.never rfl (XN.pi_seq (pv 0)) (pg_any rfl (pgs_cons (pg_name (i := 2) sc_log_lines.nd rfl (.inl rfl)) (pgs_cons (pg_name (i := 3) sc_log_lines.nd rfl (.inl rfl)) (pgs_cons (pg_name (i := 4) sc_log_lines.nd rfl (.inl rfl)) pgs_nil))))
    (pss_cons (ps_expr (pe_bm PySem.F.plainAttrs_list PySem.F.slot_list_append PySem.F.type_list_append mt_append (pv 1) (pa_cons (pe_joined (PJ.cons pe_str (PJ.cons (pe_fmt (pv 2)) (PJ.cons pe_str (PJ.cons (pe_fmt (pv 3)) PJ.nil))))) pa_nil)))
    (pss_one (ps_for PassesOwn.never rfl (XN.pi_seq (pv 4)) (pg_any rfl (pgs_cons (pg_name (i := 5) sc_log_lines.nd rfl (.inl rfl)) (pgs_cons (pg_name (i := 6) sc_log_lines.nd rfl (.inl rfl)) pgs_nil)))
    (pss_one (ps_expr (pe_bm PySem.F.plainAttrs_list PySem.F.slot_list_append PySem.F.type_list_append mt_append (pv 1) (pa_cons (pe_op op_add_str (pe_joined (PJ.cons pe_str (PJ.cons (pe_fmt (pv 5)) (PJ.cons pe_str PJ.nil)))) (pe_join pe_str (pe_lc (own := [("sign", 7)]) (g := gName 7) (tt := tYes) (te := (tCB XT7.rStrI (tCons (tVar 7) tNil))) rfl sc_log_lines.nd (XN.pi_seq (pv 6)) (blkOk_by (N := ["log", "lines", "state", "move", "waves", "lamp", "wave", "sign"]) (sc := defScope s_log_lines) (by decide +kernel)) (fun _ _ _ _ _ => pg_name (i := 7) sc_log_lines.nd rfl (Or.inl rfl)) (fun _ _ _ _ _ => pts_nil) (fun _ _ _ _ _ => (pe_callTy call_str_int (by rfl) W.n_str (by decide +kernel) (pa_cons (pv 7) pa_nil)))))) pa_nil))))))))
    (pss_one (ps_ret (pv 1))))), ?_⟩
  have hs : isSeq d = true := by rw [lse_seq hl]; rfl
  obtain ⟨p, ys, rfl, hq, hds⟩ := den_kids hd hs
  obtain ⟨kl, kx⟩ := lse_kids hl
  have kl : (kids d).length = l.length := by rw [kl]; show (l.map lrT).length = _; rw [List.length_map]
  refine XL.p_lst ⟨by show 0 ≤ sizeLine; omega, fun D hD => ?_⟩
  have E1 : Ex H (upd H D (.lst [])) := (Ex.refl H).new hD
  have h1 : upd H D (.lst []) D = some (.lst []) := upd_same
  have T1 : Ex H (wo D (upd H D (.lst []))) := fun b o q => hid_some.mpr ⟨ne_of_none q hD, E1 b o q⟩
  generalize upd H D (.lst []) = H1 at E1 h1 T1 ⊢
  have up : ∀ {G G' : Hp} {o : HO}, Ex (wo D G) (wo D G') → Ex (wo D G) (wo D (upd G' D o)) := fun {G G' o} e b u q => by
    obtain ⟨q1, q2⟩ := hid_some.mp (e b u q)
    exact hid_some.mpr ⟨q1, by rw [upd_ne q1]; exact q2⟩
  have go : ∀ {G G' G'' : Hp}, Ex (wo D G) (wo D G') → Ex G' G'' → Ex (wo D G) (wo D G'') := fun {G G' G''} e x => e.trans (hid_of x)
  have cnt := lines_cnt l
  have snoc : ∀ {H' : Hp} {i : Nat} {extra : List (List Nat)} {y : List Nat}, H' D = some (.lst (strsV ((linesOf (l.take i) ++ extra).map SX.S))) → upd H' D (.lst (strsV ((linesOf (l.take i) ++ extra).map SX.S) ++ [.str (SX.S y)])) D = some (.lst (strsV ((linesOf (l.take i) ++ (extra ++ [y])).map SX.S))) := fun {H' i extra y} _ => by
    rw [upd_same, strs_snoc, List.append_assoc]
  refine ⟨_, rfl, p, rfl, walk_eitherS (S := fun b => b = D) (hq.imp T1.er.l T1.er.t) fun J G wk hG => ?_⟩
  refine for_it wk (fun i σ H' => Ex (wo D H1) (wo D H') ∧ H' D = some (.lst (strsV ((linesOf (l.take i) ++ []).map SX.S))) ∧ ∃ o2 o3 o4 o5 o6 o7, σ = [some (.ref p), some (.ref D), o2, o3, o4, o5, o6, o7]) ⟨Ex.refl _, by rw [List.take_zero]; exact h1, _, _, _, _, _, _, rfl⟩ (fun i σ H' _ h => hG H' h.1) ?_ ?_
  · rintro i v σ H2 H2' hi ⟨E2, h2, o2, o3, o4, o5, o6, o7, rfl⟩ ⟨rfl, hv⟩
    obtain ⟨dr, hdr, dv⟩ := hds.get hv
    have hil : i < l.length := by rw [← kl]; exact (List.getElem?_eq_some_iff.mp hdr).1
    have hx : l[i]? = some l[i] := List.getElem?_eq_getElem hil
    have hr1 := kx i (lrT l[i]) dr (by show (l.map lrT)[i]? = _; rw [List.getElem?_map, hx]; rfl) hdr
    have hxm := List.mem_of_getElem? hx
    obtain ⟨tx1, tx2⟩ := tx _ hxm
    have hrow : ∀ y ∈ rowL l[i], y.length + 1 ≤ 100000 := fun y hy => Nat.le_trans (lines_mem (rowL_mem hxm hy)) tl
    have htk := lines_take hx
    generalize l[i] = x at hr1 hx hxm tx1 tx2 hrow htk
    obtain ⟨w, ek, hsr, hsw, hlw⟩ := lse_lrT hr1
    have T2 : Ex H (wo D H2') := T1.trans E2
    obtain ⟨pr, xa, xm, xw, rfl, hpr, da, dm, dw⟩ := den_three (dv.mono T2.kp) hsr ek
    cases da
    cases dm
    obtain ⟨pw, ws, rfl, hpw, hdw⟩ := den_kids dw hsw
    obtain ⟨wl, wx⟩ := lse_kids hlw
    have wl : (kids w).length = x.2.2.length := by rw [wl]; show (x.2.2.map wvT).length = _; rw [List.length_map]
    refine ⟨pr, _, rfl, hpr.imp hid_ex.er.l hid_ex.er.t, rfl, _, _, rfl, _, _, rfl, _, _, rfl, rfl, ?_⟩
    have pre := lines_pre l i
    have pre1 := lines_pre l (i + 1)
    rw [htk, List.length_append] at pre1
    have m1 := hrow (mvL x.1 x.2.1) List.mem_cons_self
    have m2 : (mvL x.1 x.2.1).length = 6 + x.1.cps.toList.length + (TL.numL x.2.1).length := by
      unfold mvL
      simp
      omega
    have m3 : x.1.cps.toList.length = x.1.length := Array.length_toList
    have m4 : ((toString ((x.2.1 : Nat) : Int) : Str)).length = (TL.numL x.2.1).length := by rw [TL.len_tl, TL.tl_num]
    have la : ∀ (a b : Str), (a ++ b).length = a.length + b.length := fun a b => by rw [TL.len_tl, TL.tl_append, List.length_append, TL.len_tl, TL.len_tl]
    have l0 : (Str.empty).length = 0 := rfl
    have l1 : ("move " : Str).length = 5 := by decide +kernel
    have l2 : (" " : Str).length = 1 := by decide +kernel
    have l3 : ("wave " : Str).length = 5 := by decide +kernel
    refine ⟨_, rfl, .inl ⟨rfl, _, SqL.of h2⟩, ?_⟩
    refine ⟨_, rfl, by rw [la, sizeLine_eq]; omega, _, rfl, .inl ⟨_, rfl, by rw [sizeLine_eq]; omega, _, rfl, by rw [la, la, sizeLine_eq]; omega, _, rfl, by rw [la, la, la, sizeLine_eq]; omega, _, rfl, .inr ⟨_, rfl, log_bits tx1, _, rfl, by rw [la, la, la, la, m4, sizeLine_eq]; omega, ?_⟩⟩⟩
    refine ⟨D, _, _, rfl, rfl, h2, by rw [strs_len, List.length_map, List.length_append, sizeLine_eq]; show _ + 0 < _; omega, ?_⟩
    rw [mv_out]
    have h3 := snoc (y := mvL x.1 x.2.1) h2
    have E3 := up (o := .lst (strsV ((linesOf (l.take i) ++ []).map SX.S) ++ [.str (SX.S (mvL x.1 x.2.1))])) E2
    have E23 := up (G := H2') (G' := H2') (o := .lst (strsV ((linesOf (l.take i) ++ []).map SX.S) ++ [.str (SX.S (mvL x.1 x.2.1))])) (Ex.refl _)
    generalize upd H2' D (.lst (strsV ((linesOf (l.take i) ++ []).map SX.S) ++ [.str (SX.S (mvL x.1 x.2.1))])) = H3 at h3 E3 E23 ⊢
    refine ⟨_, rfl, pw, rfl, walk_eitherS (S := fun b => b = D) (hpw.imp E23.er.l E23.er.t) fun J2 G2 wk2 hG2 => ?_⟩
    refine for_it wk2 (fun j σ H' => Ex (wo D H3) (wo D H') ∧ H' D = some (.lst (strsV ((linesOf (l.take i) ++ (mvL x.1 x.2.1 :: (x.2.2.take j).map wvL)).map SX.S))) ∧ ∃ o5 o6 o7, σ = [some (.ref p), some (.ref D), some (.str x.1), some (.int (x.2.1 : Nat)), some (.ref pw), o5, o6, o7]) ⟨Ex.refl _, by rw [List.take_zero]; exact h3, _, _, _, rfl⟩ (fun i σ H' _ h => hG2 H' h.1) ?_ ?_
    · rintro j u σ H4 H4' hj ⟨E4, h4, o5', o6', o7', rfl⟩ ⟨rfl, hu⟩
      obtain ⟨dp, hdp, du⟩ := hdw.get hu
      have hjl : j < x.2.2.length := by rw [← wl]; exact (List.getElem?_eq_some_iff.mp hdp).1
      have hy : x.2.2[j]? = some x.2.2[j] := List.getElem?_eq_getElem hjl
      have hp1 := wx j (wvT x.2.2[j]) dp (by show (x.2.2.map wvT)[j]? = _; rw [List.getElem?_map, hy]; rfl) hdp
      have hym := List.mem_of_getElem? hy
      have bx := tx2 _ hym
      have wr := hrow (wvL x.2.2[j]) (List.mem_cons_of_mem _ (List.mem_map.mpr ⟨_, hym, rfl⟩))
      have htj : (x.2.2.take (j + 1)).map wvL = (x.2.2.take j).map wvL ++ [wvL x.2.2[j]] := by
        rw [List.take_add_one, hy, List.map_append]
        rfl
      generalize x.2.2[j] = y at hp1 hy hym bx wr htj
      obtain ⟨su, eku, hsp, ekb, hss⟩ := lse_wvT hp1
      obtain ⟨pp, yp, zp, rfl, hpp, dy1, dy2⟩ := den_two (du.mono (E23.trans E4).kp) hsp eku
      cases dy1
      obtain ⟨ps, bs, rfl, hps, hdb⟩ := den_kids dy2 hss
      rw [ekb] at hdb
      have eb := dens_ints hdb
      subst eb
      refine ⟨pp, _, rfl, hpp.imp hid_ex.er.l hid_ex.er.t, rfl, _, _, rfl, _, _, rfl, rfl, ?_⟩
      have w2 : (wvL y).length = 6 + y.1.cps.toList.length + (y.2.flatMap TL.numL).length := by
        unfold wvL
        simp
        omega
      have w3 : y.1.cps.toList.length = y.1.length := Array.length_toList
      refine ⟨_, rfl, .inl ⟨rfl, _, SqL.of h4⟩, ?_⟩
      refine ⟨_, rfl, by rw [la, sizeLine_eq]; omega, _, rfl, .inl ⟨_, rfl, by rw [sizeLine_eq]; omega, _, rfl, by rw [la, la, sizeLine_eq]; omega, _, rfl, by rw [la, la, la, sizeLine_eq]; omega, ?_⟩⟩
      refine ⟨⟨_, rfl⟩, _, rfl, ps, rfl, walk_eitherS (S := fun b => b = D) hps fun J3 G3 wk3 hG3 D2 hD2 => ?_⟩
      have bl : y.2.length ≤ (y.2.flatMap TL.numL).length := by
        clear bx w2 w3 wr htj hps hdb ekb eku
        induction y.2 with
        | nil => exact Nat.zero_le _
        | cons b r ih =>
          rw [List.flatMap_cons, List.length_append, List.length_cons]
          have : 1 ≤ (TL.numL b).length := numL_pos b
          omega
      refine lc_map wk3 (fun i v _ => ∃ b, y.2[i]? = some b ∧ v = .str (strI b)) (by rw [ints_len, sizeLine_eq]; omega) hD2 (fun H' e => hG3 H' (hid_of e)) (fun _ _ _ _ q _ => q) ?_ ?_
      · rintro i v H5 H6 Q2 hi e5 ⟨rfl, hv⟩ q
        unfold intsV at hv
        rw [List.getElem?_map] at hv
        cases e : y.2[i]? with
        | none => rw [e] at hv; cases hv
        | some b =>
          rw [e] at hv
          obtain rfl := Option.some.inj hv
          have hb := bx b (List.mem_of_getElem? e)
          exact ⟨rfl, _, rfl, _, rfl, log_bits hb, q _ _ (Ex.refl _) ⟨b, e, rfl⟩⟩
      · intro H5 us h5 ul e5 hus
        rw [ints_len] at ul
        have eus : us = strsV (y.2.map strI) := by
          refine List.ext_getElem? fun i => ?_
          cases e : us[i]? with
          | none =>
            rw [List.getElem?_eq_none_iff] at e
            symm
            rw [List.getElem?_eq_none_iff, strs_len, List.length_map]
            omega
          | some v =>
            obtain ⟨b, h1, rfl⟩ := hus i v e
            unfold strsV
            rw [List.getElem?_map, List.getElem?_map, h1]
            rfl
        rw [eus] at h5
        have tot : ((y.2.map strI).map (·.length)).sum = (y.2.flatMap TL.numL).length := by
          rw [List.length_flatMap, List.map_map]
          congr 1
          refine List.map_congr_left fun b _ => ?_
          show (strI b).length = _
          rw [TL.len_tl]
          exact congrArg List.length (TL.tl_num b)
        have h45 : H5 D = some (.lst (strsV ((linesOf (l.take i) ++ (mvL x.1 x.2.1 :: (x.2.2.take j).map wvL)).map SX.S))) := e5 _ _ h4
        refine ⟨_, _, _, rfl, rfl, .inl (SqL.of h5), by rw [tot]; show _ + _ * 0 ≤ _; omega, ?_⟩
        refine ⟨_, _, rfl, rfl, ?_, ?_⟩
        · rw [bits_join, la, la, la, SX.S_len (y.2.flatMap TL.numL), sizeLine_eq]
          omega
        rw [wv_out]
        refine ⟨D, _, _, rfl, rfl, h45, ?_, ?_⟩
        · rw [strs_len, List.length_map, List.length_append, List.length_cons, List.length_map, List.length_take, sizeLine_eq]
          have : (rowL x).length = 1 + x.2.2.length := by
            unfold rowL
            rw [List.length_cons, List.length_map]
            omega
          omega
        have h6 := snoc (y := wvL y) h45
        refine ⟨up (go E4 e5), ?_, _, _, _, rfl⟩
        rw [h6, htj]
        rfl
    · rintro σ H4 ⟨E4, h4, o5', o6', o7', rfl⟩
      rw [hdw.length, wl, List.take_length] at h4
      refine ⟨E3.trans E4, ?_, _, _, _, _, _, _, rfl⟩
      rw [h4, List.append_nil, htk]
      rfl
  · rintro σ H2 ⟨E2, h2, o2, o3, o4, o5, o6, o7, rfl⟩
    rw [hds.length, kl, List.take_length, List.append_nil] at h2
    exact ⟨_, rfl, k D H2 ((T1.trans E2).trans hid_ex) hD h2⟩
theorem clog_lines (W : Wld K mg) : Cal P w K mg base 1 "log_lines" ["log"] (spLogLines K) := by
  obtain ⟨fd, F⟩ := W.c.def_ 29 rfl
  exact ⟨⟨fd, ok_log_lines W F, F.bindsN fun _ _ _ _ _ _ us hl => match us, hl with | [_], _ => rfl⟩, W.g_log_lines, F.kp⟩
end
end K77

set_option Elab.async false
set_option linter.all false
set_option maxRecDepth 100000
set_option maxHeartbeats 400000
namespace K77
open PySem PySem.Spec PyProof.Rows L2 DL
section
variable {P : Program} {w : World} {K : PySem.W.Frag} {mg : Str → Option Value} {base : Heap} {f : Addr} {fd : FuncData}
def yText (K : PySem.W.Frag) : Addr → Raw → V → Tr → Hp → VK → XK → Prop := fun _ r v d H Q E => (isLogT r d = true → ∃ l, Lse 5 (logT l) d ∧ TxtOk l ∧ ∀ H', Ex H H' → Q (.str (textOf l)) H') ∧ (isLogT r d = false → ∀ H', Ex H H' → Err K "BadLog" "log" v H' E)
theorem sc_log_text : FnScope ["machine", "log"] ["machine", "log"] (defScope s_log_text) := ⟨rfl, rfl, rfl, by decide +kernel, rfl, by decide +kernel, by decide +kernel⟩
theorem ok_log_text (W : Wld K mg) (F : FnP K "log_text" s_log_text f fd) : FnOk P w K mg base (L2.CX P w) 8 f fd ["machine", "log"] (spAsk K (yText K)) := by
  have Cneed_log : CalR P w K mg base 7 "need_log" ["machine", "log"] (spAsk K (yNeed K)) := cneed_log W
  have Clog_lines : Cal P w K mg base 1 "log_lines" ["log"] (spLogLines K) := clog_lines W
  have Ctext_of : Cal P w K mg base 1 "text_of" ["lines"] (spTextOf K) := ctext_of W
  refine F.ok sc_log_text (fun vs H Q E h => ?_) (fun cdv A outer s H vs Q E hr h => ?_)
  · obtain ⟨x, v, rfl, _⟩ := h
    rfl
  have tk : Takes (cxOf (L2.CX P w) P w K mg base ["machine", "log"] "log_text" (defScope s_log_text) f cdv A outer s H E) (fun cls d _ H => E cls d H) := takes_of rfl rfl rfl rfl
  have px : Passes (L2.CX P w) (cxOf (L2.CX P w) P w K mg base ["machine", "log"] "log_text" (defScope s_log_text) f cdv A outer s H E) E := passes_call tk fun _ _ _ _ h => h
  obtain ⟨x, v, rfl, h⟩ := h
  refine ⟨_, (pss_cons (ps_expr (pe_r Cneed_log (hr.mono (by decide)) px (pa_cons (pv 0) (pa_cons (pv 1) pa_nil))))
    (pss_one (ps_ret (pe_c Ctext_of (hr.mono (by decide)) (pa_cons (pe_c Clog_lines (hr.mono (by decide)) (pa_cons (pv 1) pa_nil)) pa_nil))))), ?_⟩
  rcases h with ⟨a, r, d, rfl, hm, R, hd, ho, k1, k2⟩ | ⟨n, k⟩
  · refine ⟨_, rfl, _, rfl, .ref a, v, rfl, .inl ⟨a, r, d, rfl, hm, R, hd, ho, fun hb H1 e1 => ?_, k2⟩⟩
    obtain ⟨l, hl, tx, q⟩ := k1 hb
    refine ⟨_, rfl, v, d, l, rfl, hd.mono e1.kp, hl, tx, fun D H2 e2 hD h2 => ?_⟩
    exact ⟨D, linesOf l, rfl, SqL.of h2, (by have := tx.1; unfold textL at this; omega), fun H3 e3 => q H3 ((e1.trans e2).trans e3)⟩
  · exact ⟨_, rfl, _, rfl, x, v, rfl, .inr ⟨n, k⟩⟩
theorem clog_text (W : Wld K mg) : CalR P w K mg base 8 "log_text" ["machine", "log"] (spAsk K (yText K)) := by
  obtain ⟨fd, F⟩ := W.c.def_ 30 rfl
  exact ⟨⟨fd, ok_log_text W F, F.bindsN fun _ _ _ _ _ _ us hl => match us, hl with | [_, _], _ => rfl⟩, W.g_log_text, F.kp⟩
end
end K77

set_option Elab.async false
set_option linter.all false
set_option maxRecDepth 100000
set_option maxHeartbeats 400000
namespace K77
open PySem PySem.Spec PyProof.Rows L2 DL
/-! ### a log that grows -/
def Okn : Nat → Tr → Prop
  | n + 1, .lst xs => ∀ x ∈ xs, Okn n x
  | n + 1, .tup xs => ∀ x ∈ xs, Okn n x
  | 0, .lst _ => False
  | 0, .tup _ => False
  | _, .dic _ => False
  | _, _ => True
theorem den_dpN {K : PySem.W.Frag} {b : Bool} {H : Hp} : ∀ (n : Nat) (d : Tr) (v : V), Okn n d → Den K b H v d → ∃ e, Dp K H v e ∧ e.plain = true ∧ (∀ xs, d = .lst xs → ∃ es, e = .list es ∧ es.length = xs.length) := by
  have all : ∀ (n : Nat), (∀ (d : Tr) (v : V), Okn n d → Den K b H v d → ∃ e, Dp K H v e ∧ e.plain = true) → ∀ (ds : List Tr) (vs : List V), (∀ d ∈ ds, Okn n d) → Dens K b H vs ds → ∃ es, DpAll K H vs es ∧ PyData.plainAll es = true ∧ es.length = ds.length := by
    intro n ih ds
    induction ds with
    | nil =>
      intro vs _ h
      cases h
      exact ⟨[], .nil, rfl, rfl⟩
    | cons d ds ih2 =>
      intro vs ho h
      cases h with
      | cons h1 h2 =>
        obtain ⟨e, e1, e2⟩ := ih d _ (ho d List.mem_cons_self) h1
        obtain ⟨es, s1, s2, s3⟩ := ih2 _ (fun x hx => ho x (List.mem_cons_of_mem _ hx)) h2
        exact ⟨e :: es, .cons e1 s1, by simp [PyData.plainAll, e2, s2], by simp [s3]⟩
  intro n
  induction n with
  | zero =>
    intro d v ho h
    cases h with
    | non => exact ⟨_, .non, rfl, fun xs z => by cases z⟩
    | bl x => exact ⟨_, .bl x, rfl, fun xs z => by cases z⟩
    | int x => exact ⟨_, .int x, rfl, fun xs z => by cases z⟩
    | str x => exact ⟨_, .str x, rfl, fun xs z => by cases z⟩
    | _ => exact ho.elim
  | succ n ih =>
    intro d v ho h
    cases h with
    | non => exact ⟨_, .non, rfl, fun xs z => by cases z⟩
    | bl x => exact ⟨_, .bl x, rfl, fun xs z => by cases z⟩
    | int x => exact ⟨_, .int x, rfl, fun xs z => by cases z⟩
    | str x => exact ⟨_, .str x, rfl, fun xs z => by cases z⟩
    | lst h1 h2 =>
      obtain ⟨es, s1, s2, s3⟩ := all n (fun d v o h => (ih d v o h).imp fun e z => ⟨z.1, z.2.1⟩) _ _ ho h2
      exact ⟨.list es, .lst h1 s1, by simp [PyData.plain, s2], fun xs z => ⟨es, rfl, by cases z; exact s3⟩⟩
    | tup h1 h2 =>
      obtain ⟨es, s1, s2, s3⟩ := all n (fun d v o h => (ih d v o h).imp fun e z => ⟨z.1, z.2.1⟩) _ _ ho h2
      exact ⟨.tuple es, .tup h1 s1, by simp [PyData.plain, s2], fun xs z => by cases z⟩
    | dic _ _ => exact ho.elim

theorem okn_log (l : List LRow) : Okn 5 (logT l) := by
  intro x hx
  obtain ⟨y, _, rfl⟩ := List.mem_map.mp hx
  intro z hz
  simp only [List.mem_cons, List.not_mem_nil, or_false] at hz
  rcases hz with rfl | rfl | rfl
  · exact True.intro
  · exact True.intro
  intro u hu
  obtain ⟨v, _, rfl⟩ := List.mem_map.mp hu
  intro z hz
  simp only [List.mem_cons, List.not_mem_nil, or_false] at hz
  rcases hz with rfl | rfl
  · exact True.intro
  intro s hs
  obtain ⟨k, _, rfl⟩ := List.mem_map.mp hs
  exact True.intro
/-- the last row's waves can grow; B is what stays -/
structure LogO (K : PySem.W.Frag) (B H : Hp) (p : Addr) (l0 : List LRow) (x : LRow) (ys : List V) (t w : Addr) (ws : List V) : Prop where
  pa : H p = some (.lst (ys ++ [.ref t]))
  pw : w ≠ p
  ta : H t = some (.tup [.str x.1, .int (x.2.1 : Nat), .ref w])
  wa : H w = some (.lst ws)
  bp : B p = none
  bw : B w = none
  ex : Ex B (hid (fun b => b = p ∨ b = w) H)
  ds : Dens K true (hid (fun b => b = p ∨ b = w) H) ys (l0.map lrT)
  dw : Dens K true (hid (fun b => b = p ∨ b = w) H) ws (x.2.2.map wvT)
def LogE (B H : Hp) (p : Addr) : Prop := H p = some (.lst []) ∧ B p = none ∧ Ex B (wo p H)
def LogH (K : PySem.W.Frag) (B H : Hp) (p : Addr) (l : List LRow) : Prop := (l = [] ∧ LogE B H p) ∨ ∃ l0 x ys t w ws, l = l0 ++ [x] ∧ LogO K B H p l0 x ys t w ws
variable {K : PySem.W.Frag} {B H H' : Hp} {p : Addr} {l l0 : List LRow} {x : LRow} {ys ws : List V} {t w : Addr}
theorem LogO.mono (h : LogO K B H p l0 x ys t w ws) (e : Ex H H') : LogO K B H' p l0 x ys t w ws :=
  ⟨e _ _ h.pa, h.pw, e _ _ h.ta, e _ _ h.wa, h.bp, h.bw, h.ex.trans (hid_of e), h.ds.mono (hid_of e).kp, h.dw.mono (hid_of e).kp⟩
theorem LogH.mono (h : LogH K B H p l) (e : Ex H H') : LogH K B H' p l := by
  rcases h with ⟨z, h1, h2, h3⟩ | ⟨l0, x, ys, t, w, ws, z, h⟩
  · exact .inl ⟨z, e _ _ h1, h2, h3.trans (hid_of e)⟩
  · exact .inr ⟨l0, x, ys, t, w, ws, z, h.mono e⟩
theorem LogH.ex (h : LogH K B H p l) : Ex B H := by
  rcases h with ⟨z, h1, h2, h3⟩ | ⟨l0, x, ys, t, w, ws, z, h⟩
  · exact h3.trans hid_ex
  · exact h.ex.trans hid_ex
theorem LogO.row (h : LogO K B H p l0 x ys t w ws) : Den K true H (.ref t) (lrT x) :=
  .tup (SqT.of h.ta) (.cons (.str _) (.cons (.int _) (.cons (.lst (SqL.of h.wa) (h.dw.mono hid_ex.kp)) .nil)))
theorem LogH.at_ (h : LogH K B H p l) : ∃ ys, H p = some (.lst ys) ∧ Dens K true H ys (l.map lrT) := by
  rcases h with ⟨rfl, h1, h2, h3⟩ | ⟨l0, x, ys, t, w, ws, rfl, h⟩
  · exact ⟨[], h1, .nil⟩
  · refine ⟨_, h.pa, ?_⟩
    rw [List.map_append]
    exact dens_snoc (h.ds.mono hid_ex.kp) h.row
theorem LogH.den (h : LogH K B H p l) : Den K true H (.ref p) (logT l) := by
  obtain ⟨ys, h1, h2⟩ := h.at_
  exact .lst (SqL.of h1) h2
theorem LogO.wn (h : LogO K B H p l0 x ys t w ws) : ws.length = x.2.2.length := by rw [h.dw.length, List.length_map]
/-- a wave more -/
theorem LogO.wave {v : V} {y : Wv} (h : LogO K B H p l0 x ys t w ws) (e : Ex (wo w H) (wo w H')) (hw : H' w = some (.lst (ws ++ [v]))) (dv : Den K true (hid (fun b => b = p ∨ b = w) H') v (wvT y)) : LogO K B H' p l0 (x.1, x.2.1, x.2.2 ++ [y]) ys t w (ws ++ [v]) := by
  have tw : t ≠ w := fun z => by
    have := h.ta
    rw [z, h.wa] at this
    cases this
  have go : ∀ b o, b ≠ w → H b = some o → H' b = some o := fun b o n q => hid_ex _ _ (e b o (hid_some.mpr ⟨n, q⟩))
  have eh : Ex (hid (fun b => b = p ∨ b = w) H) (hid (fun b => b = p ∨ b = w) H') := fun b o q => by
    obtain ⟨q1, q2⟩ := hid_some.mp q
    exact hid_some.mpr ⟨q1, go b o (fun z => q1 (.inr z)) q2⟩
  refine ⟨go _ _ h.pw.symm h.pa, h.pw, go _ _ tw h.ta, hw, h.bp, h.bw, h.ex.trans eh, h.ds.mono eh.kp, ?_⟩
  rw [List.map_append]
  exact dens_snoc (h.dw.mono eh.kp) dv
/-- a row more -/
theorem LogH.move {ys : List V} {n : Str} {k : Nat} (h : LogH K B H p l) (hp : H p = some (.lst ys)) (e : Ex (wo p H) (wo p H')) (hp' : H' p = some (.lst (ys ++ [.ref t]))) (ht : H' t = some (.tup [.str n, .int (k : Nat), .ref w])) (hw : H' w = some (.lst [])) (nw : H w = none) : LogH K B H' p (l ++ [(n, k, [])]) := by
  have go : ∀ b o, b ≠ p → H b = some o → H' b = some o := fun b o n q => hid_ex _ _ (e b o (hid_some.mpr ⟨n, q⟩))
  have wp : w ≠ p := fun z => by
    rw [z, hp] at nw
    cases nw
  have bw : B w = none := h.ex.free nw
  have eh : ∀ b o, b ≠ p → H b = some o → hid (fun b => b = p ∨ b = w) H' b = some o := fun b o n q => hid_some.mpr ⟨(fun z => (z.elim (fun z => n z) (fun z => by rw [z, nw] at q; cases q))), go b o n q⟩
  rcases h with ⟨rfl, h1, h2, h3⟩ | ⟨l0, x, ys0, t0, w0, ws, rfl, h⟩
  · rw [h1] at hp
    cases hp
    refine .inr ⟨[], _, [], t, w, [], rfl, hp', wp, ht, hw, h2, bw, fun b o q => ?_, .nil, .nil⟩
    obtain ⟨q1, q2⟩ := hid_some.mp (h3 b o q)
    exact eh b o q1 q2
  · rw [h.pa] at hp
    cases hp
    have tp : t0 ≠ p := fun z => by
      have := h.ta
      rw [z, h.pa] at this
      cases this
    have eh2 : Ex (hid (fun b => b = p ∨ b = w0) H) (hid (fun b => b = p ∨ b = w) H') := fun b o q => by
      obtain ⟨q1, q2⟩ := hid_some.mp q
      exact eh b o (fun z => q1 (.inl z)) q2
    refine .inr ⟨l0 ++ [x], _, ys0 ++ [.ref t0], t, w, [], rfl, hp', wp, ht, hw, h.bp, bw, h.ex.trans eh2, ?_, .nil⟩
    rw [List.map_append]
    exact dens_snoc (h.ds.mono eh2.kp) (.tup (SqT.of (eh _ _ tp h.ta)) (.cons (.str _) (.cons (.int _) (.cons (.lst (SqL.of (eh _ _ h.pw h.wa)) (h.dw.mono eh2.kp)) .nil))))
theorem rd_neNilL {v : V} {l : List LRow} {t : Addr} {Q : VK} (hd : Den K true H v (logT l)) (ht : H t = some (.lst [])) (q : Q (.bl (!l.isEmpty)) H) : XQ.rNeP K v (.ref t) H Q := by
  obtain ⟨e1, h1, h2, h3⟩ := den_dpN 5 _ _ (okn_log l) hd
  obtain ⟨es, rfl, hl⟩ := h3 _ rfl
  have e0 : l.isEmpty = es.isEmpty := by
    rw [List.length_map] at hl
    cases l <;> cases es <;> first | rfl | simp at hl
  rw [e0, ← eqv_nilL] at q
  exact ⟨.list es, .list [], h1, .lst (SqL.of ht) .nil, h2, by decide, by simp [PyData.depth, PyData.depthAll], q⟩
theorem rd_eqNilL {v : V} {l : List LRow} {t : Addr} {Q : VK} (hd : Den K true H v (logT l)) (ht : H t = some (.lst [])) (q : Q (.bl l.isEmpty) H) : XQ.rEqP K v (.ref t) H Q := by
  obtain ⟨e1, h1, h2, h3⟩ := den_dpN 5 _ _ (okn_log l) hd
  obtain ⟨es, rfl, hl⟩ := h3 _ rfl
  have e0 : l.isEmpty = es.isEmpty := by
    rw [List.length_map] at hl
    cases l <;> cases es <;> first | rfl | simp at hl
  rw [e0, ← eqv_nilL] at q
  exact ⟨.list es, .list [], h1, .lst (SqL.of ht) .nil, h2, by decide, by simp [PyData.depth, PyData.depthAll], q⟩
theorem whole_nil {r : Raw} : wholeL r [] = true := rfl
theorem whole_snoc {r : Raw} {l0 : List LRow} {x : LRow} : wholeL r (l0 ++ [x]) = decide (r.lam.length ≤ x.2.2.length) := by
  unfold wholeL
  rw [List.getLast?_concat]
theorem st_snoc {r : Raw} {l0 : List LRow} {x : LRow} : stAfter r (l0 ++ [x]) = nextK r x.2.1 := by
  unfold stAfter
  rw [List.getLast?_concat]
theorem lam_snoc {r : Raw} {l0 : List LRow} {x : LRow} {w1 : Str} : lamB r (l0 ++ [x]) w1 = decide (r.lam[x.2.2.length]? = some w1) := by
  unfold lamB
  rw [List.getLast?_concat]
theorem addW_snoc {l0 : List LRow} {x : LRow} {y : Wv} : addW (l0 ++ [x]) y = l0 ++ [(x.1, x.2.1, x.2.2 ++ [y])] := by
  unfold addW
  rw [List.getLast?_concat]
  show (l0 ++ [x]).dropLast ++ _ = _
  rw [List.dropLast_concat]
theorem st_nilL {r : Raw} : stAfter r [] = st0 r := rfl
/-- the reader at x: B is what stays -/
def LL (K : PySem.W.Frag) (B H : Hp) (x m : Addr) (r : Raw) (p : Addr) (l : List LRow) : Prop := ∃ dx, H x = some (.ins (He.ga K "LogLines") dx [("machine", .ref m), ("state", .str (stAfter r l)), ("rows", .ref p)]) ∧ B x = none ∧ LogH K B (wo x H) p l ∧ MacAt K B m r
theorem LL.mono {x m : Addr} {r : Raw} (h : LL K B H x m r p l) (e : Ex H H') : LL K B H' x m r p l := by
  obtain ⟨dx, h1, h2, h3, h4⟩ := h
  exact ⟨dx, e _ _ h1, h2, h3.mono (hid_of e), h4⟩
theorem LL.ex {x m : Addr} {r : Raw} (h : LL K B H x m r p l) : Ex B H := by
  obtain ⟨dx, h1, h2, h3, h4⟩ := h
  exact h3.ex.trans hid_ex
end K77

set_option Elab.async false
set_option linter.all false
set_option maxRecDepth 100000
set_option maxHeartbeats 400000
namespace K77
open PySem PySem.Spec PyProof.Rows L2 DL
theorem pe_ma {X : Cx} {k : Nat} {C : Addr} {m : Str} {ps : List Str} {sp : Sp} {o e : Expr} {es : List Expr} {ta : TE} {t : TA} {pos apos : Pos} {pl : Sem Bool} (M : Mtd X.prog X.w X.K X.mg X.base k C m ps sp) (hr : Room k X.A) (he : PE X o ta) (ha : PA X (e :: es) t)
    (hst : starEach (e :: es) X.env = (false, eval e X.env) :: starEach es X.env := by rfl) (hpl : (backTo pos (starEach es X.env)).any (·.1) = false := by rfl)
    (ht : eval (.Call (.Attribute o m apos) (e :: es) [] pos) X.env = (do
      let ov ← eval o X.env
      standAt apos.atName
      let (f, first) ← holding [ov] (getMethod ov m pl)
      callWith pos f first (backTo pos (starEach (e :: es) X.env)) (backToKw pos (keywordEach [] X.env))) := by rfl) :
    PE X (.Call (.Attribute o m apos) (e :: es) [] pos) (tMeth C m sp [] E0 ta t) := by
  obtain ⟨f, fd, c, h, F, b⟩ := M.ex
  exact pe_meth (pl := pl) he c h F hr b .nil pass0 ha hst hpl ht
section
variable {P : Program} {w : World} {K : PySem.W.Frag} {mg : Str → Option Value} {base : Heap} {f : Addr} {fd : FuncData}
def spOpen (K : PySem.W.Frag) : Sp := fun vs H Q _ => ∃ (B : Hp) (x m p : Addr) (r : Raw) (l : List LRow), vs = [.ref x] ∧ LL K B H x m r p l ∧ ∀ H', Ex H H' → Q (.bl (!wholeL r l)) H'
theorem sc_LogLines_is_open : FnScope ["self"] ["self"] (defScope m_LogLines_is_open) := ⟨rfl, rfl, rfl, by decide +kernel, rfl, by decide +kernel, by decide +kernel⟩
theorem ok_LogLines_is_open (W : Wld K mg) (F : FnM K "is_open" "LogLines.is_open" m_LogLines_is_open f fd) : FnOk P w K mg base CX0 2 f fd ["self"] (spOpen K) := by
  have CMachine_lamps : Mtd P w K mg base 1 (He.ga K "Machine") "lamps" ["self"] (spGet_lamps K) := cMachine_lamps W
  refine F.ok sc_LogLines_is_open (fun vs H Q E h => ?_) (fun cdv A outer s H vs Q E hr h => ?_)
  · obtain ⟨B, x, m, p, r, l, rfl, _⟩ := h
    rfl
  obtain ⟨B, x, m, p, r, l, rfl, h, k⟩ := h
  refine ⟨_, PSs.nox (pss_one (ps_ret (pe_and (pe_cmpR (XQ.op_neP hr.units) (pe_fld (pv 0) rfl) (pe_lst pa_nil) (nomark _)) (pe_one (pe_cmpR op_lt (pe_callB call_len_seq (by rfl) W.n_len (by decide +kernel) (pa_cons (pe_ix ix_tup (pe_ix ix_list (pe_fld (pv 0) rfl) (pe_un un_neg pe_int) (fun _ _ => rfl)) pe_int (fun _ _ => rfl)) pa_nil)) (pe_callB call_len_seq (by rfl) W.n_len (by decide +kernel) (pa_cons (pe_mc0 CMachine_lamps (hr.mono (by decide)) (pe_fld (pv 0) rfl)) pa_nil)) (nomark _)))))), ?_⟩
  obtain ⟨dx, h1, h2, h3, h4⟩ := h
  refine ⟨_, rfl, x, _, dx, _, .ref p, rfl, h1, W.c_LogLines, W.na_LogLines_rows, rfl, by show 0 ≤ sizeLine; omega, fun q hq => ?_⟩
  have e1 : Ex H (upd H q (.lst [])) := (Ex.refl H).new hq
  have hq1 : upd H q (.lst []) q = some (.lst []) := upd_same
  generalize upd H q (.lst []) = H1 at e1 hq1 ⊢
  refine rd_neNilL (l := l) ((h3.mono (hid_of e1)).den.mono hid_ex.kp) hq1 ⟨_, rfl, ?_⟩
  rcases h3 with ⟨rfl, z1, z2, z3⟩ | ⟨l0, y, ys, t, w1, ws, rfl, h⟩
  · exact iteF (k H1 e1)
  refine ite2 (fun _ => ?_) (fun z => absurd z (by simp))
  have ho := fun {H' : Hp} (e : Ex H1 H') => h.mono (hid_of (e1.trans e))
  have hp := hid_ex _ _ (ho (Ex.refl H1)).pa
  have ht := hid_ex _ _ (ho (Ex.refl H1)).ta
  have hw := hid_ex _ _ (ho (Ex.refl H1)).wa
  refine ⟨_, rfl, x, _, dx, _, .ref p, rfl, e1 _ _ h1, W.c_LogLines, W.na_LogLines_rows, rfl, _, rfl, ?_⟩
  refine ⟨p, _, -1, .ref t, rfl, rfl, SqL.of hp, atI_last _ _, t, _, 2, .ref w1, rfl, rfl, SqT.of ht, rfl, ?_⟩
  refine ⟨w1, ws, rfl, .inl (SqL.of hw), ?_⟩
  have hm : MacAt K H1 m r := (h4.mono (h.ex.trans (hid_ex.trans hid_ex))).mono e1
  have hi := hm
  obtain ⟨dm, a', b', c', d', hmx, _⟩ := hi
  refine ⟨_, rfl, x, _, dx, _, .ref m, rfl, e1 _ _ h1, W.c_LogLines, W.na_LogLines_machine, rfl, m, dm, _, rfl, hmx, rfl, m, r, rfl, hm, fun a H2 e2 n2 h2 => ?_⟩
  refine ⟨a, _, rfl, .inl (SqL.of h2), _, _, rfl, rfl, ?_⟩
  have z := k H2 (e1.trans e2)
  rw [whole_snoc] at z
  rw [h.wn, strs_len]
  have ez : (!decide (r.lam.length ≤ y.2.2.length)) = decide ((y.2.2.length : Int) < (r.lam.length : Int)) := by
    by_cases hh : r.lam.length ≤ y.2.2.length
    · rw [decide_eq_true hh, decide_eq_false (by omega)]; rfl
    · rw [decide_eq_false hh, decide_eq_true (by omega)]; rfl
  rw [ez] at z
  exact z
theorem cLogLines_is_open (W : Wld K mg) : Mtd P w K mg base 2 (He.ga K "LogLines") "is_open" ["self"] (spOpen K) := by
  obtain ⟨fd, F⟩ := W.c.def_ d_LogLines_is_open rfl
  exact ⟨_, fd, W.c_LogLines, W.me_LogLines_is_open, ok_LogLines_is_open W F, F.bindsN fun _ _ _ _ _ _ us hl => match us, hl with | [_], _ => rfl⟩
end
end K77

set_option Elab.async false
set_option linter.all false
set_option maxRecDepth 100000
set_option maxHeartbeats 400000
set_option pp.deepTerms.threshold 6
set_option pp.maxSteps 4000
namespace K77
open PySem PySem.Spec PyProof.Rows L2 DL
section
variable {P : Program} {w : World} {K : PySem.W.Frag} {mg : Str → Option Value} {base : Heap} {f : Addr} {fd : FuncData}
/-- what a line does to the reader -/
def spLine (K : PySem.W.Frag) (g : Raw → List LRow → List Str → Option (List LRow)) : Sp := fun vs H Q _ => ∃ (B : Hp) (x m p q : Addr) (r : Raw) (l : List LRow) (ws : List Str), vs = [.ref x, .ref q] ∧ LL K B H x m r p l ∧ RawOk r ∧ B q = some (.lst (strsV ws)) ∧ (∀ w ∈ ws, w.length ≤ 10000) ∧ ws ≠ [] ∧ l.length ≤ 20000 ∧
  (g r l ws = none → ∀ H', LL K B H' x m r p l → Q (.bl false) H') ∧ (∀ l', g r l ws = some l' → ∀ H', LL K B H' x m r p l' → Q (.bl true) H')
def gMove (r : Raw) (l : List LRow) : List Str → Option (List LRow)
  | [_, w1, w2] => moveP r l w1 w2
  | _ => none
def gWave (r : Raw) (l : List LRow) : List Str → Option (List LRow)
  | [_, w1, w2] => waveP r l w1 w2
  | _ => none
theorem not3 {α : Type} {g : List Str → Option α} {ws : List Str} (h : ws.length ≠ 3) (hg : ∀ ws, ws.length ≠ 3 → g ws = none) : g ws = none := hg ws h
theorem gMove_none {r : Raw} {l : List LRow} {ws : List Str} (h : ws.length ≠ 3) : gMove r l ws = none := by
  match ws, h with
  | [], _ => rfl
  | [_], _ => rfl
  | [_, _], _ => rfl
  | [_, _, _], h => exact absurd rfl h
  | _ :: _ :: _ :: _ :: _, _ => rfl
theorem gWave_none {r : Raw} {l : List LRow} {ws : List Str} (h : ws.length ≠ 3) : gWave r l ws = none := by
  match ws, h with
  | [], _ => rfl
  | [_], _ => rfl
  | [_, _], _ => rfl
  | [_, _, _], h => exact absurd rfl h
  | _ :: _ :: _ :: _ :: _, _ => rfl
theorem num_int {x : Str} (h : numB x = true) : intText? x = some (numN x : Int) := by
  have e := num_back h
  have ex : x = Str.ofString (toString ((numN x : Nat) : Int)) := TL.ext_tl (by rw [TL.tl_num, e])
  rw [ex]
  refine (TL.int_num ?_).trans ?_
  · rw [e]
    have := (num_digits h).2.2
    have hl : x.cps.toList.length = x.length := Array.length_toList
    omega
  · rw [← ex]
theorem sqt_off {K : PySem.W.Frag} {H H' : Hp} {u p : Addr} {xs ys : List V} (h : SqT K H u xs) (hp : H p = some (.lst ys)) (hn : ∀ b, b ≠ p → H' b = H b) : SqT K H' u xs := by
  rcases h with (h | ⟨o, h⟩) | h
  · refine .inl (.inl ?_)
    rw [hn u fun z => by rw [z, hp] at h; cases h]
    exact h
  · refine .inl (.inr ⟨o, ?_⟩)
    rw [hn u fun z => by rw [z, hp] at h; cases h]
    exact h
  · exact .inr h
theorem sc_LogLines_move : FnScope ["self", "words", "move", "moves"] ["self", "words"] (defScope m_LogLines_move) := ⟨rfl, rfl, rfl, by decide +kernel, rfl, by decide +kernel, by decide +kernel⟩
theorem ok_LogLines_move (W : Wld K mg) (F : FnM K "move" "LogLines.move" m_LogLines_move f fd) : FnOk P w K mg base CX0 4 f fd ["self", "words"] (spLine K gMove) := by
  have CMachine_moves : Mtd P w K mg base 1 (He.ga K "Machine") "moves" ["self"] (spGet_moves K) := cMachine_moves W
  have CLogLines_is_open : Mtd P w K mg base 2 (He.ga K "LogLines") "is_open" ["self"] (spOpen K) := cLogLines_is_open W
  have Cis_numeral : Cal P w K mg base 2 "is_numeral" ["word"] spNum := cis_numeral W
  refine F.ok sc_LogLines_move (fun vs H Q E h => ?_) (fun cdv A outer s H vs Q E hr h => ?_)
  · obtain ⟨B, x, m, p, q, r, l, ws, rfl, _⟩ := h
    rfl
  obtain ⟨B, x, m, p, q, r, l, ws, rfl, hL, R, hq, hw, hne, ll, k1, k2⟩ := h
  refine ⟨_, PSs.nox (pss_cons (ps_if (PW.pt (pw_or (pt_val (pe_mc0 CLogLines_is_open (hr.mono (by decide)) (pv 0))) (pw_or (pt_cmpR op_ne (pe_callB call_len_seq (by rfl) W.n_len (by decide +kernel) (pa_cons (pv 1) pa_nil)) pe_int (nomark _)) (pw_or (pt_cmpR op_ne (pe_ix ix_list (pv 1) pe_int (fun _ _ => rfl)) (pe_fld (pv 0) rfl) (nomark _)) (pw_or1 (pt_not (pt_val (pe_c Cis_numeral (hr.mono (by decide)) (pa_cons (pe_ix ix_list (pv 1) pe_int (fun _ _ => rfl)) pa_nil)))))))))
    (pss_one (ps_ret pe_bl))
    pss_nil)
    (pss_cons (ps_par (i := 2) (j := 3) rfl sc_LogLines_move.nd rfl rfl (by decide) rfl rfl (pa_cons (pe_callTy call_int_str (by rfl) W.n_int (by decide +kernel) (pa_cons (pe_ix ix_list (pv 1) pe_int (fun _ _ => rfl)) pa_nil)) (pa_cons (pe_mc0 CMachine_moves (hr.mono (by decide)) (pe_fld (pv 0) rfl)) pa_nil)) (by rfl))
    (pss_cons (ps_if (PW.pt (pw_or (pt_cmpR op_ge (pv 2) (pe_callB call_len_seq (by rfl) W.n_len (by decide +kernel) (pa_cons (pv 3) pa_nil)) (nomark _)) (pw_or1 (pt_cmpR op_ne (pe_ix ix_tup (pe_ix ix_list (pv 3) (pv 2) (fun _ _ => rfl)) pe_int (fun _ _ => rfl)) (pe_fld (pv 0) rfl) (nomark _)))))
    (pss_one (ps_ret pe_bl))
    pss_nil)
    (pss_cons (ps_expr (pe_bm PySem.F.plainAttrs_list PySem.F.slot_list_append PySem.F.type_list_append mt_append (pe_fld (pv 0) rfl) (pa_cons (pe_tup (pa_cons (pe_fld (pv 0) rfl) (pa_cons (pv 2) (pa_cons (pe_lst pa_nil) pa_nil)))) pa_nil)))
    (pss_cons (ps_fld (pv 0) (pe_ix ix_tup (pe_ix ix_list (pv 3) (pv 2) (fun _ _ => rfl)) pe_int (fun _ _ => rfl)) (by rfl))
    (pss_one (ps_ret pe_bl))))))), ?_⟩
  obtain ⟨dx, h1, _⟩ := id hL
  refine ⟨_, rfl, x, dx, _, rfl, h1, rfl, B, x, m, p, r, l, rfl, hL, fun H1 e1 => ⟨_, rfl, ?_⟩⟩
  have hL1 := hL.mono e1
  have hq1 := hL1.ex _ _ hq
  cases hwh : wholeL r l with
  | false =>
    refine iteT (k1 ?_ H1 hL1)
    match ws, hne with
    | [], _ => rfl
    | [_], _ => rfl
    | [_, _], _ => rfl
    | [_, w1, w2], _ => 
      show moveP r l w1 w2 = none
      unfold moveP
      rw [hwh]
      rfl
    | _ :: _ :: _ :: _ :: _, _ => rfl
  | true =>
  refine iteF ⟨_, rfl, q, _, rfl, .inl (SqL.of hq1), ?_⟩
  refine ⟨rfl, _, rfl, ?_⟩
  rw [dec_i, strs_len]
  by_cases h3 : ws.length = 3
  rotate_left
  · rw [decide_eq_false (by omega : ¬ (ws.length : Int) = 3)]
    exact iteT (k1 (gMove_none h3) H1 hL1)
  rw [decide_eq_true (by omega : (ws.length : Int) = 3)]
  obtain ⟨w0, w1, w2, rfl⟩ : ∃ w0 w1 w2, ws = [w0, w1, w2] := by
    match ws, h3 with
    | [a, b, c], _ => exact ⟨a, b, c, rfl⟩
  have b2 := hw w2 (by simp)
  have kf : (decide (w1 = stAfter r l) && (numB w2 && mvB r (stAfter r l) (numN w2))) = false → ∀ H', LL K B H' x m r p l → Q (.bl false) H' := fun h => k1 (by
    show moveP r l w1 w2 = none
    unfold moveP
    rw [h, Bool.and_false]
    rfl)
  obtain ⟨dx1, g1, gb, gh, gm⟩ := id hL1
  refine iteF ⟨_, rfl, q, _, 1, .str w1, rfl, rfl, SqL.of hq1, rfl, ?_⟩
  refine ⟨_, rfl, x, _, dx1, _, .str (stAfter r l), rfl, g1, W.c_LogLines, W.na_LogLines_state, rfl, rfl, _, rfl, ?_⟩
  rw [dec_s]
  by_cases hs : w1 = stAfter r l
  rotate_left
  · rw [decide_eq_false hs]
    exact iteT (kf (by rw [decide_eq_false hs]; rfl) H1 hL1)
  rw [decide_eq_true hs, Bool.true_and] at kf
  rw [decide_eq_true hs]
  refine iteF ⟨_, rfl, q, _, 2, .str w2, rfl, rfl, SqL.of hq1, rfl, w2, rfl, by omega, fun H2 e2 => ⟨_, rfl, ?_⟩⟩
  have hL2 := hL1.mono e2
  have hq2 := hL2.ex _ _ hq
  cases hn : numB w2 with
  | false =>
    exact iteT (kf (by rw [hn]; rfl) H2 hL2)
  | true =>
  rw [hn, Bool.true_and] at kf
  obtain ⟨dx2, g1, gb, gh, gm⟩ := id hL2
  have hm2 := gm.mono hL2.ex
  obtain ⟨dm, a', b', c', d', hmx, _⟩ := id hm2
  refine iteF ⟨_, rfl, q, _, 2, .str w2, rfl, rfl, SqL.of hq2, rfl, w2, numN w2, rfl, num_int hn, ?_, ?_⟩
  · have := (num_digits hn).2.2
    omega
  refine ⟨_, rfl, x, _, dx2, _, .ref m, rfl, g1, W.c_LogLines, W.na_LogLines_machine, rfl, m, dm, _, rfl, hmx, rfl, m, r, rfl, hm2, fun a H3 e3 n3 hz => ?_⟩
  obtain ⟨zs, ha, hzs⟩ := hz
  have zl : zs.length = r.mvs.length := by rw [hzs.length, List.length_map]
  have hL3 := hL2.mono e3
  refine ⟨_, _, rfl, ?_⟩
  refine ⟨_, rfl, _, rfl, a, _, rfl, .inl (SqL.of ha), _, _, rfl, rfl, _, rfl, ?_⟩
  rcases Nat.lt_or_ge (numN w2) r.mvs.length with hlt | hge
  rotate_left
  · rw [decide_eq_true (by rw [zl]; omega)]
    refine iteT (kf ?_ H3 hL3)
    unfold mvB
    rw [List.getElem?_eq_none hge]
  rw [decide_eq_false (by rw [zl]; omega)]
  have hq0 : r.mvs[numN w2]? = some r.mvs[numN w2] := List.getElem?_eq_getElem hlt
  generalize r.mvs[numN w2] = mv at hq0
  obtain ⟨vu, hvu, dvu⟩ := hzs.get' (i := numN w2) (d := stT mv) (by rw [List.getElem?_map, hq0]; rfl)
  obtain ⟨u, rfl, hu⟩ := den_st dvu
  obtain ⟨dx3, g1, gb, gh, gm⟩ := id hL3
  refine iteF ⟨_, rfl, _, rfl, a, _, _, .ref u, rfl, rfl, SqL.of ha, atI_nat hvu, u, _, 0, _, rfl, rfl, hu, rfl, ?_⟩
  refine ⟨_, rfl, x, _, dx3, _, .str (stAfter r l), rfl, g1, W.c_LogLines, W.na_LogLines_state, rfl, rfl, _, rfl, ?_⟩
  rw [dec_s]
  have em : mvB r (stAfter r l) (numN w2) = decide (mv.1 = stAfter r l) := by
    unfold mvB
    rw [hq0]
  rcases Decidable.em (mv.1 = stAfter r l) with hs2 | hs2
  rotate_left
  · rw [decide_eq_false hs2]
    exact iteT (kf (by rw [em, decide_eq_false hs2]) H3 hL3)
  rw [decide_eq_true hs2] at em ⊢
  have k2 := k2 _ (show moveP r l w1 w2 = some (l ++ [(stAfter r l, numN w2, [])]) by
    unfold moveP
    rw [hwh, decide_eq_true hs, hn, em]
    rfl)
  obtain ⟨ys, hp, hds⟩ := gh.at_
  have hp' := hid_ex _ _ hp
  refine iteF ⟨_, rfl, x, _, dx3, _, .ref p, rfl, g1, W.c_LogLines, W.na_LogLines_rows, rfl, .inl ⟨rfl, _, SqL.of hp'⟩, ?_⟩
  refine ⟨_, rfl, x, _, dx3, _, .str (stAfter r l), rfl, g1, W.c_LogLines, W.na_LogLines_state, rfl, _, rfl, by show 0 ≤ sizeLine; omega, fun v hv => ?_⟩
  have e4 : Ex H3 (upd H3 v (.lst [])) := (Ex.refl H3).new hv
  have v4 : upd H3 v (.lst []) v = some (.lst []) := upd_same
  generalize upd H3 v (.lst []) = H4 at e4 v4 ⊢
  refine ⟨by show 3 ≤ sizeLine; rw [sizeLine_eq]; omega, fun t ht => ?_⟩
  have e5 : Ex H4 (upd H4 t (.tup [.str (stAfter r l), .int (numN w2 : Nat), .ref v])) := (Ex.refl H4).new ht
  have t5 : upd H4 t (.tup [.str (stAfter r l), .int (numN w2 : Nat), .ref v]) t = some (.tup [.str (stAfter r l), .int (numN w2 : Nat), .ref v]) := upd_same
  have H4t := ht
  generalize upd H4 t (.tup [.str (stAfter r l), .int (numN w2 : Nat), .ref v]) = H5 at e5 t5 ⊢
  have px : p ≠ x := (hid_some.mp hp).1
  have yl : ys.length = l.length := by rw [hds.length, List.length_map]
  have p5 := e5 _ _ (e4 _ _ hp')
  refine ⟨p, _, _, rfl, rfl, p5, by rw [sizeLine_eq, yl]; omega, ?_⟩
  have n6 : ∀ b, b ≠ p → upd H5 p (.lst (ys ++ [.ref t])) b = H5 b := fun b hb => upd_ne hb
  have p6 : upd H5 p (.lst (ys ++ [.ref t])) p = some (.lst (ys ++ [.ref t])) := upd_same
  generalize upd H5 p (.lst (ys ++ [.ref t])) = H6 at n6 p6 ⊢
  have e35 := e4.trans e5
  have ap : a ≠ p := by
    obtain ⟨_, _, _, gg, _⟩ := id hL2
    obtain ⟨_, z, _⟩ := gg.at_
    exact (ne_of_none (hid_ex _ _ z) n3).symm
  refine ⟨_, rfl, _, rfl, a, _, _, .ref u, rfl, rfl, SqL.of ((n6 a ap).trans (e35 _ _ ha)), atI_nat hvu, u, _, 2, _, rfl, rfl, sqt_off (e35.er.t hu) p5 n6, rfl, ?_⟩
  have x6 := (n6 x px.symm).trans (e35 _ _ g1)
  refine ⟨_, rfl, x, _, dx3, _, rfl, x6, W.c_LogLines, W.na_LogLines_state, by show 3 < 1000; decide, ?_⟩
  have n7 : ∀ b, b ≠ x → upd H6 x (.ins (He.ga K "LogLines") dx3 (putF "state" (.str mv.2.2) [("machine", .ref m), ("state", .str (stAfter r l)), ("rows", .ref p)])) b = H6 b := fun b hb => upd_ne hb
  have x7 : upd H6 x (.ins (He.ga K "LogLines") dx3 (putF "state" (.str mv.2.2) [("machine", .ref m), ("state", .str (stAfter r l)), ("rows", .ref p)])) x = some (.ins (He.ga K "LogLines") dx3 [("machine", .ref m), ("state", .str mv.2.2), ("rows", .ref p)]) := upd_same
  generalize upd H6 x (.ins (He.ga K "LogLines") dx3 (putF "state" (.str mv.2.2) [("machine", .ref m), ("state", .str (stAfter r l)), ("rows", .ref p)])) = H7 at n7 x7 ⊢
  have es : stAfter r (l ++ [(stAfter r l, numN w2, [])]) = mv.2.2 := by
    rw [st_snoc]
    show nextK r (numN w2) = _
    unfold nextK
    rw [hq0]
    rfl
  have xv : v ≠ x := (ne_of_none g1 hv).symm
  have xt : t ≠ x := (ne_of_none (e4 _ _ g1) H4t).symm
  have pv : v ≠ p := (ne_of_none hp' hv).symm
  have pt : t ≠ p := (ne_of_none (e4 _ _ hp') H4t).symm
  have go : ∀ b o, b ≠ p → b ≠ x → H5 b = some o → H7 b = some o := fun b o n1 n2 q => by rw [n7 b n2, n6 b n1]; exact q
  refine k2 H7 ⟨dx3, by rw [es]; exact x7, gb, ?_, gm⟩
  refine gh.move hp (fun b o q => ?_) (hid_some.mpr ⟨px, by rw [n7 p px]; exact p6⟩) (hid_some.mpr ⟨xt, go _ _ pt xt t5⟩) (hid_some.mpr ⟨xv, go _ _ pv xv (e5 _ _ v4)⟩) ?_
  · obtain ⟨q1, q2⟩ := hid_some.mp q
    obtain ⟨q3, q4⟩ := hid_some.mp q2
    exact hid_some.mpr ⟨q1, hid_some.mpr ⟨q3, go _ _ q1 q3 (e35 _ _ q4)⟩⟩
  · cases z : wo x H3 v with
    | none => rfl
    | some o =>
      have := hid_ex _ _ z
      rw [hv] at this
      cases this
theorem cLogLines_move (W : Wld K mg) : Mtd P w K mg base 4 (He.ga K "LogLines") "move" ["self", "words"] (spLine K gMove) := by
  obtain ⟨fd, F⟩ := W.c.def_ d_LogLines_move rfl
  exact ⟨_, fd, W.c_LogLines, W.me_LogLines_move, ok_LogLines_move W F, F.bindsN fun _ _ _ _ _ _ us hl => match us, hl with | [_, _], _ => rfl⟩
end
end K77

set_option Elab.async false
set_option linter.all false
set_option maxRecDepth 100000
set_option maxHeartbeats 400000
set_option pp.deepTerms.threshold 6
set_option pp.maxSteps 4000
namespace K77
open PySem PySem.Spec PyProof.Rows L2 DL
section
variable {P : Program} {w : World} {K : PySem.W.Frag} {mg : Str → Option Value} {base : Heap} {f : Addr} {fd : FuncData}
theorem sc_LogLines_wave : FnScope ["self", "words", "waves", "sign"] ["self", "words"] (defScope m_LogLines_wave) := ⟨rfl, rfl, rfl, by decide +kernel, rfl, by decide +kernel, by decide +kernel⟩
theorem ok_LogLines_wave (W : Wld K mg) (F : FnM K "wave" "LogLines.wave" m_LogLines_wave f fd) : FnOk P w K mg base CX0 4 f fd ["self", "words"] (spLine K gWave) := by
  have CMachine_lamps : Mtd P w K mg base 1 (He.ga K "Machine") "lamps" ["self"] (spGet_lamps K) := cMachine_lamps W
  have CLogLines_is_open : Mtd P w K mg base 2 (He.ga K "LogLines") "is_open" ["self"] (spOpen K) := cLogLines_is_open W
  refine F.ok sc_LogLines_wave (fun vs H Q E h => ?_) (fun cdv A outer s H vs Q E hr h => ?_)
  · obtain ⟨B, x, m, p, q, r, l, ws, rfl, _⟩ := h
    rfl
  obtain ⟨B, x, m, p, q, r, l, ws, rfl, hL, R, hq, hw, hne, ll, k1, k2⟩ := h
  refine ⟨_, PSs.nox (pss_cons (ps_if (PW.pt (pw_or (pt_not (pt_val (pe_mc0 CLogLines_is_open (hr.mono (by decide)) (pv 0)))) (pw_or (pt_cmpR op_ne (pe_callB call_len_seq (by rfl) W.n_len (by decide +kernel) (pa_cons (pv 1) pa_nil)) pe_int (nomark _)) (pw_or1 (pt_cmpR op_eq (pe_ix ix_list (pv 1) pe_int (fun _ _ => rfl)) pe_str (nomark _))))))
    (pss_one (ps_ret pe_bl))
    pss_nil)
    (pss_cons (ps_set (i := 2) sc_LogLines_wave.nd rfl (.inl rfl) (pe_ix ix_tup (pe_ix ix_list (pe_fld (pv 0) rfl) (pe_un un_neg pe_int) (fun _ _ => rfl)) pe_int (fun _ _ => rfl)))
    (pss_cons (ps_if (PW.pt (pw_or (pt_cmpR op_ne (pe_ix ix_list (pv 1) pe_int (fun _ _ => rfl)) (pe_ix ix_list (pe_mc0 CMachine_lamps (hr.mono (by decide)) (pe_fld (pv 0) rfl)) (pe_callB call_len_seq (by rfl) W.n_len (by decide +kernel) (pa_cons (pv 2) pa_nil)) (fun _ _ => rfl)) (nomark _)) (pw_or1 (pt_not (pt_val (pe_callB (cr_all rfl) (by rfl) W.n_all (by decide +kernel) (pa_cons (pe_lc (own := [("sign", 3)]) (g := gName 3) (tt := tYes) (te := (tOp rInS (tVar 3) (tC (.str "01")))) rfl sc_LogLines_wave.nd (pi_str (pe_ix ix_list (pv 1) pe_int (fun _ _ => rfl))) (blkOk_by (N := ["self", "words", "waves", "sign"]) (sc := defScope m_LogLines_wave) (by decide +kernel)) (fun _ _ _ _ _ => pg_name (i := 3) sc_LogLines_wave.nd rfl (Or.inl rfl)) (fun _ _ _ _ _ => pts_nil) (fun _ _ _ _ _ => (pe_cmpR op_in_str (pv 3) pe_str (by rfl)))) pa_nil)))))))
    (pss_one (ps_ret pe_bl))
    pss_nil)
    (pss_cons (ps_expr (pe_bm PySem.F.plainAttrs_list PySem.F.slot_list_append PySem.F.type_list_append mt_append (pv 2) (pa_cons (pe_tup (pa_cons (pe_ix ix_list (pv 1) pe_int (fun _ _ => rfl)) (pa_cons (pe_lc (own := [("sign", 3)]) (g := gName 3) (tt := tYes) (te := (tBM K "str" XT7.rIdxS (tC (.str "01")) (tCons (tVar 3) tNil))) rfl sc_LogLines_wave.nd (pi_str (pe_ix ix_list (pv 1) pe_int (fun _ _ => rfl))) (blkOk_by (N := ["self", "words", "waves", "sign"]) (sc := defScope m_LogLines_wave) (by decide +kernel)) (fun _ _ _ _ _ => pg_name (i := 3) sc_LogLines_wave.nd rfl (Or.inl rfl)) (fun _ _ _ _ _ => pts_nil) (fun _ _ _ _ _ => (pe_bm PySem.F.plainAttrs_str PySem.F.slot_str_index PySem.F.type_str_index mt_sindex pe_str (pa_cons (pv 3) pa_nil)))) pa_nil))) pa_nil)))
    (pss_one (ps_ret pe_bl)))))), ?_⟩
  obtain ⟨dx, h1, _⟩ := id hL
  refine ⟨_, rfl, x, dx, _, rfl, h1, rfl, B, x, m, p, r, l, rfl, hL, fun H1 e1 => ⟨_, rfl, ?_⟩⟩
  have hL1 := hL.mono e1
  have hq1 := hL1.ex _ _ hq
  have kz : (∀ w0 w1 w2, ws = [w0, w1, w2] → waveP r l w1 w2 = none) → ∀ H', LL K B H' x m r p l → Q (.bl false) H' := fun h => k1 (by
    match ws, h with
    | [], _ => rfl
    | [_], _ => rfl
    | [_, _], _ => rfl
    | [a, b, c], h => exact h a b c rfl
    | _ :: _ :: _ :: _ :: _, _ => rfl)
  cases hwh : wholeL r l with
  | true =>
    refine iteT (kz (fun w0 w1 w2 _ => ?_) H1 hL1)
    unfold waveP
    rw [hwh]
    rfl
  | false =>
  refine iteF ⟨_, rfl, q, _, rfl, .inl (SqL.of hq1), ?_⟩
  refine ⟨rfl, _, rfl, ?_⟩
  rw [dec_i, strs_len]
  rcases Decidable.em (ws.length = 3) with h3 | h3
  rotate_left
  · rw [decide_eq_false (by omega : ¬ (ws.length : Int) = 3)]
    exact iteT (k1 (gWave_none h3) H1 hL1)
  rw [decide_eq_true (by omega : (ws.length : Int) = 3)]
  obtain ⟨w0, w1, w2, rfl⟩ : ∃ w0 w1 w2, ws = [w0, w1, w2] := by
    match ws, h3 with
    | [a, b, c], _ => exact ⟨a, b, c, rfl⟩
  have b2 := hw w2 (by simp)
  refine iteF ⟨_, rfl, q, _, 2, .str w2, rfl, rfl, SqL.of hq1, rfl, rfl, _, rfl, ?_⟩
  rw [dec_s]
  rcases Decidable.em (w2 = "") with hs | hs
  · rw [decide_eq_true hs]
    refine iteT (kz (fun _ _ z e => ?_) H1 hL1)
    obtain rfl : w2 = z := by cases e; rfl
    unfold waveP
    rw [decide_eq_true hs, hwh]
    rfl
  rw [decide_eq_false hs]
  have kf : (lamB r l w1 && bitsB w2) = false → ∀ H', LL K B H' x m r p l → Q (.bl false) H' := fun h => k1 (by
    show waveP r l w1 w2 = none
    unfold waveP
    rw [h, Bool.and_false, Bool.and_false]
    rfl)
  obtain ⟨dx1, g1, gb, gh, gm⟩ := id hL1
  rcases gh with ⟨rfl, _⟩ | ⟨l0, y, ys, t, a, vs, rfl, hO⟩
  · cases hwh
  have hO0 := hO.mono hid_ex
  have hp1 := hO0.pa
  refine iteF ⟨_, rfl, x, _, dx1, _, .ref p, rfl, g1, W.c_LogLines, W.na_LogLines_rows, rfl, _, rfl, ?_⟩
  refine ⟨p, _, -1, .ref t, rfl, rfl, SqL.of (hid_ex _ _ hO.pa), atI_last _ _, t, _, 2, .ref a, rfl, rfl, SqT.of (hid_ex _ _ hO.ta), rfl, ?_⟩
  refine ⟨_, rfl, q, _, 1, .str w1, rfl, rfl, SqL.of hq1, rfl, ?_⟩
  have hm1 : MacAt K H1 m r := gm.mono hL1.ex
  obtain ⟨dm, a', b', c', d', hmx, _⟩ := id hm1
  refine ⟨_, rfl, x, _, dx1, _, .ref m, rfl, g1, W.c_LogLines, W.na_LogLines_machine, rfl, m, dm, _, rfl, hmx, rfl, m, r, rfl, hm1, fun ml H2 e2 n2 h2 => ?_⟩
  have hL2 := hL1.mono e2
  have hO2 := hO.mono (hid_of e2)
  have g2 := e2 _ _ g1
  have hq2 := hL2.ex _ _ hq
  have wn := hO.wn
  rw [whole_snoc] at hwh
  have wl : y.2.2.length < r.lam.length := by
    have := of_decide_eq_false hwh
    omega
  rw [lam_snoc] at kf
  refine ⟨_, rfl, a, _, rfl, .inl (SqL.of (hid_ex _ _ hO2.wa)), ?_⟩
  obtain ⟨sg, hsg⟩ : ∃ sg, r.lam[y.2.2.length]? = some sg := ⟨_, List.getElem?_eq_getElem wl⟩
  have hsg2 : atI (strsV r.lam) ((vs.length : Nat) : Int) = some (.str sg) := atI_nat (by
    rw [wn]
    unfold strsV
    rw [List.getElem?_map, hsg]
    rfl)
  refine ⟨ml, _, _, .str sg, rfl, rfl, SqL.of h2, hsg2, rfl, _, rfl, ?_⟩
  rw [dec_s]
  rw [hsg] at kf
  rcases Decidable.em (w1 = sg) with hs1 | hs1
  rotate_left
  · rw [decide_eq_false hs1]
    exact iteT (kf (by rw [decide_eq_false fun z => hs1 (Option.some.inj z).symm]; rfl) H2 hL2)
  subst hs1
  rw [decide_eq_true rfl, Bool.true_and] at kf
  rw [decide_eq_true rfl]
  have hcl : w2.cps.size ≤ 10000 := b2
  refine iteF ⟨_, rfl, q, _, 2, .str w2, rfl, rfl, SqL.of hq2, rfl, w2, rfl, fun D hD => ?_⟩
  refine lc_bools walk_str (atB bitB w2.cps.toList) (by rw [sizeLine_eq]; omega) hD (fun _ _ => trivial) ?_ ?_
  · rintro i v H3 H4 Q2 hi e3 ⟨rfl, c', hc', rfl⟩ q
    refine ⟨rfl, ?_⟩
    refine ⟨_, rfl, _, _, rfl, rfl, ?_⟩
    rw [atB_some (cps_get hc')] at q
    have w := q _ (Ex.refl _)
    rw [← bit_in] at w
    exact w
  intro H3 h3 e3
  have e23 := e3
  refine ⟨D, _, rfl, SqL.of h3, ?_⟩
  rw [show w2.cps.size = w2.cps.toList.length from Array.length_toList.symm, all_at]
  have hL3 := hL2.mono e3
  cases hb : bitsB w2 with
  | false =>
    have hb' : w2.cps.toList.all bitB = false := hb
    rw [hb']
    exact ⟨_, rfl, iteT (kf hb H3 hL3)⟩
  | true =>
  have hb' : w2.cps.toList.all bitB = true := hb
  rw [hb']
  refine ⟨_, rfl, iteF ?_⟩
  have g3 := e3 _ _ g2
  have hq3 := hL3.ex _ _ hq
  have hO3 := hO2.mono (hid_of e3)
  refine ⟨_, rfl, .inl ⟨rfl, _, SqL.of (hid_ex _ _ hO3.wa)⟩, ?_⟩
  refine ⟨_, rfl, q, _, 1, .str w1, rfl, rfl, SqL.of hq3, rfl, ?_⟩
  refine ⟨_, rfl, q, _, 2, .str w2, rfl, rfl, SqL.of hq3, rfl, w2, rfl, fun D2 hD2 => ?_⟩
  have bits : ∀ c ∈ w2.cps.toList, c = 48 ∨ c = 49 := fun c hc => by
    have := List.all_eq_true.mp hb' c hc
    unfold bitB at this
    simpa using this
  refine lc_map walk_str (fun i v _ => ∃ c, w2.cps.toList[i]? = some c ∧ v = .int (c - 48 : Nat)) (by rw [sizeLine_eq]; omega) hD2 (fun _ _ => trivial) (fun _ _ _ _ q _ => q) ?_ ?_
  · rintro i v H4 H5 Q2 hi e4 ⟨rfl, c', hc', rfl⟩ qq
    have hc2 := cps_get hc'
    refine ⟨rfl, rfl, _, rfl, ?_⟩
    rcases bits c' (List.mem_of_getElem? hc2) with rfl | rfl
    · exact ⟨"01", "0", 0, [], rfl, rfl, by decide +kernel, qq _ _ (Ex.refl _) ⟨48, hc2, rfl⟩⟩
    · exact ⟨"01", "1", 1, [], rfl, rfl, by decide +kernel, qq _ _ (Ex.refl _) ⟨49, hc2, rfl⟩⟩
  intro H4 us h4 ul e4 hu
  have eus : us = intsV (bitsN w2) := by
    refine List.ext_getElem? fun i => ?_
    unfold intsV bitsN
    cases e : us[i]? with
    | none =>
      rw [List.getElem?_eq_none_iff] at e
      symm
      rw [List.getElem?_eq_none_iff, List.length_map, List.length_map, Array.length_toList]
      omega
    | some v =>
      obtain ⟨c, z1, rfl⟩ := hu i v e
      rw [List.getElem?_map, List.getElem?_map, z1]
      rfl
  rw [eus] at h4
  refine ⟨by show 2 ≤ sizeLine; rw [sizeLine_eq]; omega, fun t2 ht2 => ?_⟩
  have e34 := e4
  have e5 : Ex H4 (upd H4 t2 (.tup [.str w1, .ref D2])) := (Ex.refl H4).new ht2
  have t5 : upd H4 t2 (.tup [.str w1, .ref D2]) t2 = some (.tup [.str w1, .ref D2]) := upd_same
  generalize upd H4 t2 (.tup [.str w1, .ref D2]) = H5 at e5 t5 ⊢
  have ax : a ≠ x := (hid_some.mp hO.wa).1
  have px : p ≠ x := (hid_some.mp hO.pa).1
  have w3 := hid_ex _ _ hO3.wa
  have p3 := hid_ex _ _ hO3.pa
  have e35 := e4.trans e5
  refine ⟨a, _, _, rfl, rfl, e35 _ _ w3, by rw [wn, sizeLine_eq]; have := R.ml; omega, ?_⟩
  have n6 : ∀ b, b ≠ a → upd H5 a (.lst (vs ++ [.ref t2])) b = H5 b := fun b hb => upd_ne hb
  have a6 : upd H5 a (.lst (vs ++ [.ref t2])) a = some (.lst (vs ++ [.ref t2])) := upd_same
  generalize upd H5 a (.lst (vs ++ [.ref t2])) = H6 at n6 a6 ⊢
  have Dn : D2 ≠ p ∧ D2 ≠ a ∧ D2 ≠ x := ⟨(ne_of_none p3 hD2).symm, (ne_of_none w3 hD2).symm, (ne_of_none g3 hD2).symm⟩
  have tn : t2 ≠ p ∧ t2 ≠ a ∧ t2 ≠ x := ⟨(ne_of_none (e4 _ _ p3) ht2).symm, (ne_of_none (e4 _ _ w3) ht2).symm, (ne_of_none (e4 _ _ g3) ht2).symm⟩
  have k2 := k2 _ (show waveP r (l0 ++ [y]) w1 w2 = some (l0 ++ [(y.1, y.2.1, y.2.2 ++ [(w1, bitsN w2)])]) by
    unfold waveP
    rw [whole_snoc, hwh, decide_eq_false hs, lam_snoc, hsg, decide_eq_true rfl, hb, addW_snoc]
    rfl)
  refine k2 H6 ⟨dx1, ?_, gb, .inr ⟨l0, _, ys, t, a, _, rfl, hO3.wave (y := (w1, bitsN w2)) (v := .ref t2) ?_ (hid_some.mpr ⟨ax, a6⟩) ?_⟩, gm⟩
  · rw [n6 x ax.symm, st_snoc]
    have z := e35 _ _ g3
    rw [st_snoc] at z
    exact z
  · intro b o q
    obtain ⟨q1, q2⟩ := hid_some.mp q
    obtain ⟨q3, q4⟩ := hid_some.mp q2
    exact hid_some.mpr ⟨q1, hid_some.mpr ⟨q3, by rw [n6 b q1]; exact e35 _ _ q4⟩⟩
  · refine .tup (SqT.of (hid_some.mpr ⟨fun z => z.elim tn.1 tn.2.1, hid_some.mpr ⟨tn.2.2, by rw [n6 _ tn.2.1]; exact t5⟩⟩)) (.cons (.str _) (.cons (.lst (SqL.of (hid_some.mpr ⟨fun z => z.elim Dn.1 Dn.2.1, hid_some.mpr ⟨Dn.2.2, by rw [n6 _ Dn.2.1]; exact e5 _ _ h4⟩⟩)) (dens_intsI _)) .nil))
theorem cLogLines_wave (W : Wld K mg) : Mtd P w K mg base 4 (He.ga K "LogLines") "wave" ["self", "words"] (spLine K gWave) := by
  obtain ⟨fd, F⟩ := W.c.def_ d_LogLines_wave rfl
  exact ⟨_, fd, W.c_LogLines, W.me_LogLines_wave, ok_LogLines_wave W F, F.bindsN fun _ _ _ _ _ _ us hl => match us, hl with | [_, _], _ => rfl⟩
end
end K77

set_option Elab.async false
set_option linter.all false
set_option maxRecDepth 100000
set_option maxHeartbeats 400000
set_option pp.deepTerms.threshold 6
set_option pp.maxSteps 4000
namespace K77
open PySem PySem.Spec PyProof.Rows L2 DL
theorem line_cons (r : Raw) (l : List LRow) (w0 : Str) (t : List Str) : lineP r l (w0 :: t) = if w0 = "move" then gMove r l (w0 :: t) else if w0 = "wave" then gWave r l (w0 :: t) else none := by
  match t with
  | [] => show none = if _ then none else if _ then none else none; split <;> (try split) <;> rfl
  | [_] => show none = if _ then none else if _ then none else none; split <;> (try split) <;> rfl
  | [a, b] => rfl
  | _ :: _ :: _ :: _ => show none = if _ then none else if _ then none else none; split <;> (try split) <;> rfl
section
variable {P : Program} {w : World} {K : PySem.W.Frag} {mg : Str → Option Value} {base : Heap} {f : Addr} {fd : FuncData}
theorem sc_LogLines_take : FnScope ["self", "words"] ["self", "words"] (defScope m_LogLines_take) := ⟨rfl, rfl, rfl, by decide +kernel, rfl, by decide +kernel, by decide +kernel⟩
theorem ok_LogLines_take (W : Wld K mg) (F : FnM K "take" "LogLines.take" m_LogLines_take f fd) : FnOk P w K mg base CX0 5 f fd ["self", "words"] (spLine K lineP) := by
  have CLogLines_move : Mtd P w K mg base 4 (He.ga K "LogLines") "move" ["self", "words"] (spLine K gMove) := cLogLines_move W
  have CLogLines_wave : Mtd P w K mg base 4 (He.ga K "LogLines") "wave" ["self", "words"] (spLine K gWave) := cLogLines_wave W
  refine F.ok sc_LogLines_take (fun vs H Q E h => ?_) (fun cdv A outer s H vs Q E hr h => ?_)
  · obtain ⟨B, x, m, p, q, r, l, ws, rfl, _⟩ := h
    rfl
  obtain ⟨B, x, m, p, q, r, l, ws, rfl, hL, R, hq, hw, hne, ll, k1, k2⟩ := h
  refine ⟨_, PSs.nox (pss_cons (ps_if (pt_cmpR op_eq (pe_ix ix_list (pv 1) pe_int (fun _ _ => rfl)) pe_str (nomark _))
    (pss_one (ps_ret (pe_ma CLogLines_move (hr.mono (by decide)) (pv 0) (pa_cons (pv 1) pa_nil))))
    pss_nil)
    (pss_one (ps_ret (pe_and (pe_cmpR op_eq (pe_ix ix_list (pv 1) pe_int (fun _ _ => rfl)) pe_str (nomark _)) (pe_one (pe_ma CLogLines_wave (hr.mono (by decide)) (pv 0) (pa_cons (pv 1) pa_nil))))))), ?_⟩
  obtain ⟨dx, h1, _⟩ := id hL
  have hq1 := hL.ex _ _ hq
  obtain ⟨w0, t, rfl⟩ : ∃ w0 t, ws = w0 :: t := by
    cases ws with
    | nil => exact absurd rfl hne
    | cons a b => exact ⟨a, b, rfl⟩
  rw [line_cons] at k1 k2
  refine ⟨_, rfl, q, _, 0, .str w0, rfl, rfl, SqL.of hq1, atI_nat (j := 0) rfl, rfl, _, rfl, ?_⟩
  rw [dec_s]
  rcases Decidable.em (w0 = "move") with hm | hm
  · rw [decide_eq_true hm]
    rw [if_pos hm] at k1 k2
    exact iteT ⟨_, rfl, x, dx, _, rfl, h1, rfl, _, rfl, B, x, m, p, q, r, l, _, rfl, hL, R, hq, hw, hne, ll, k1, k2⟩
  rw [decide_eq_false hm]
  rw [if_neg hm] at k1 k2
  refine iteF ⟨_, rfl, q, _, 0, .str w0, rfl, rfl, SqL.of hq1, atI_nat (j := 0) rfl, rfl, ?_⟩
  rw [dec_s]
  rcases Decidable.em (w0 = "wave") with hv | hv
  · rw [decide_eq_true hv]
    rw [if_pos hv] at k1 k2
    exact ⟨_, rfl, iteT ⟨_, rfl, x, dx, _, rfl, h1, rfl, _, rfl, B, x, m, p, q, r, l, _, rfl, hL, R, hq, hw, hne, ll, k1, k2⟩⟩
  · rw [decide_eq_false hv]
    rw [if_neg hv] at k1 k2
    exact ⟨_, rfl, iteF (k1 rfl H hL)⟩
theorem cLogLines_take (W : Wld K mg) : Mtd P w K mg base 5 (He.ga K "LogLines") "take" ["self", "words"] (spLine K lineP) := by
  obtain ⟨fd, F⟩ := W.c.def_ d_LogLines_take rfl
  exact ⟨_, fd, W.c_LogLines, W.me_LogLines_take, ok_LogLines_take W F, F.bindsN fun _ _ _ _ _ _ us hl => match us, hl with | [_, _], _ => rfl⟩
/-- a reader made -/
def spRead0 (K : PySem.W.Frag) : Sp := fun vs H Q _ => ∃ (x dx m : Addr) (r : Raw), vs = [.ref x, .ref m] ∧ H x = some (.ins (He.ga K "LogLines") dx []) ∧ MacAt K (wo x H) m r ∧ RawOk r ∧
  ∀ H' p, Ex (wo x H) (wo x H') → H p = none → H' x = some (.ins (He.ga K "LogLines") dx [("machine", .ref m), ("state", .str (st0 r)), ("rows", .ref p)]) → H' p = some (.lst []) → Q .non H'
theorem sc_LogLines_init : FnScope ["self", "machine"] ["self", "machine"] (defScope m_LogLines_init) := ⟨rfl, rfl, rfl, by decide +kernel, rfl, by decide +kernel, by decide +kernel⟩
theorem ok_LogLines_init (W : Wld K mg) (F : FnM K "__init__" "LogLines.__init__" m_LogLines_init f fd) : FnOk P w K mg base CX0 2 f fd ["self", "machine"] (spRead0 K) := by
  have CMachine_states : Mtd P w K mg base 1 (He.ga K "Machine") "states" ["self"] (spGet_states K) := cMachine_states W
  refine F.ok sc_LogLines_init (fun vs H Q E h => ?_) (fun cdv A outer s H vs Q E hr h => ?_)
  · obtain ⟨x, dx, m, r, rfl, _⟩ := h
    rfl
  obtain ⟨x, dx, m, r, rfl, hx, hm, R, k⟩ := h
  refine ⟨_, PSs.nox (pss_cons (ps_fld (pv 0) (pv 1) (by rfl))
    (pss_cons (ps_fld (pv 0) (pe_ix ix_tup (pe_ix ix_list (pe_mc0 CMachine_states (hr.mono (by decide)) (pv 1)) pe_int (fun _ _ => rfl)) pe_int (fun _ _ => rfl)) (by rfl))
    (pss_one (ps_fld (pv 0) (pe_lst pa_nil) (by rfl))))), ?_⟩
  refine ⟨_, rfl, _, rfl, x, _, dx, _, rfl, hx, W.c_LogLines, W.na_LogLines_machine, by show 0 < 1000; decide, ?_⟩
  have x1 : upd H x (.ins (He.ga K "LogLines") dx (putF "machine" (.ref m) [])) x = some (.ins (He.ga K "LogLines") dx [("machine", .ref m)]) := upd_same
  have E1 : Ex (wo x H) (wo x (upd H x (.ins (He.ga K "LogLines") dx (putF "machine" (.ref m) [])))) := wo_at (Ex.refl _)
  generalize upd H x (.ins (He.ga K "LogLines") dx (putF "machine" (.ref m) [])) = H1 at x1 E1 ⊢
  have hm1 : MacAt K H1 m r := (hm.mono E1).mono hid_ex
  obtain ⟨dm, a', b', c', d', hmx, _⟩ := id hm1
  refine ⟨_, rfl, m, dm, _, rfl, hmx, rfl, m, r, rfl, hm1, fun l H2 e2 n2 ⟨zs, hl, hss⟩ => ?_⟩
  obtain ⟨s0, ss, es⟩ : ∃ s0 ss, r.sts = s0 :: ss := by
    cases h : r.sts with
    | nil => exact absurd h R.s0
    | cons a b => exact ⟨a, b, rfl⟩
  obtain ⟨vz, hvz, dvz⟩ := hss.get' (i := 0) (d := stT s0) (by rw [es]; rfl)
  obtain ⟨u, rfl, hu⟩ := den_st dvz
  have es0 : st0 r = s0.1 := by
    unfold st0
    rw [es]
    rfl
  rw [es0] at k
  refine ⟨l, _, 0, .ref u, rfl, rfl, SqL.of hl, atI_nat (j := 0) hvz, u, _, 0, _, rfl, rfl, hu, rfl, ?_⟩
  have E2 := wo_go E1 e2
  have x2 := e2 _ _ x1
  refine ⟨_, rfl, x, _, dx, _, rfl, x2, W.c_LogLines, W.na_LogLines_state, by show 1 < 1000; decide, ?_⟩
  have x3 : upd H2 x (.ins (He.ga K "LogLines") dx (putF "state" (.str s0.1) [("machine", .ref m)])) x = some (.ins (He.ga K "LogLines") dx [("machine", .ref m), ("state", .str s0.1)]) := upd_same
  have E3 : Ex (wo x H) (wo x (upd H2 x (.ins (He.ga K "LogLines") dx (putF "state" (.str s0.1) [("machine", .ref m)])))) := wo_at E2
  generalize upd H2 x (.ins (He.ga K "LogLines") dx (putF "state" (.str s0.1) [("machine", .ref m)])) = H3 at x3 E3 ⊢
  refine ⟨by show 0 ≤ sizeLine; omega, fun p hp => ?_⟩
  have px : p ≠ x := (ne_of_none x3 hp).symm
  have hp0 : H p = none := by
    cases z : H p with
    | none => rfl
    | some o =>
      have := hid_ex _ _ (E3 _ _ (hid_some.mpr ⟨px, z⟩))
      rw [hp] at this
      cases this
  have x4 := ((Ex.refl H3).new (o := .lst []) hp) _ _ x3
  have E4 : Ex (wo x H) (wo x (upd H3 p (.lst []))) := wo_new E3 x3 hp
  have p4 : upd H3 p (.lst []) p = some (.lst []) := upd_same
  generalize upd H3 p (.lst []) = H4 at x4 E4 p4 ⊢
  refine ⟨_, rfl, x, _, dx, _, rfl, x4, W.c_LogLines, W.na_LogLines_rows, by show 2 < 1000; decide, ?_⟩
  exact k _ p (wo_at E4) hp0 upd_same (by rw [upd_ne px]; exact p4)
theorem cLogLines_init (W : Wld K mg) : Ini P w K mg base 2 (He.ga K "LogLines") (He.ma K (He.ga K "LogLines") "__init__") ["self", "machine"] (spRead0 K) := by
  obtain ⟨fd, F⟩ := W.c.def_ d_LogLines_init rfl
  exact ⟨fd, ok_LogLines_init W F, F.bindsN fun _ _ _ _ _ _ us hl => match us, hl with | [_, _], _ => rfl⟩
end
end K77

set_option Elab.async false
set_option linter.all false
set_option maxRecDepth 100000
set_option maxHeartbeats 400000
set_option pp.deepTerms.threshold 6
set_option pp.maxSteps 4000
namespace K77
open PySem PySem.Spec PyProof.Rows L2 DL
theorem addW_len (l : List LRow) (y : Wv) : (addW l y).length = l.length := by
  rcases List.eq_nil_or_concat l with rfl | ⟨l0, x, rfl⟩
  · rfl
  · rw [List.concat_eq_append, addW_snoc]
    simp
theorem lineP_len {r : Raw} {l l' : List LRow} {ws : List Str} (h : lineP r l ws = some l') : l'.length ≤ l.length + 1 := by
  match ws, h with
  | [w0, w1, w2], h =>
    have h : (if w0 = "move" then moveP r l w1 w2 else if w0 = "wave" then waveP r l w1 w2 else none) = some l' := h
    split at h
    · unfold moveP at h
      split at h
      · cases h
        simp
      · cases h
    · split at h
      · unfold waveP at h
        split at h
        · cases h
          rw [addW_len]
          omega
        · cases h
      · cases h
theorem hid_at {S : Addr → Prop} {H : Hp} {b : Addr} (h : S b) : hid S H b = none := by
  cases z : hid S H b with
  | none => rfl
  | some o => exact absurd h (hid_some.mp z).1
theorem ends_txt (x : Str) : (decide (x = "") || Txt.endswith x "\n") = endsB x := by
  have e1 : ("\n" : Str) = ⟨#[10]⟩ := by decide +kernel
  have hl : x.cps.toList.length = x.length := Array.length_toList
  have key : endsB x = true ↔ (x = "" ∨ Txt.endswith x "\n" = true) := by
    unfold endsB rowsL
    rw [decide_eq_true_iff, last_spl, e1]
    unfold Txt.endswith
    have so := StrLaws.subAt_one x 10 (x.length - 1)
    constructor
    · rintro (⟨_, h⟩ | h)
      · refine .inl (TL.ext_tl ?_)
        show x.cps.toList = _
        rw [h]
        rfl
      · right
        rw [List.getLast?_eq_getElem?, hl] at h
        obtain ⟨a, b⟩ := so.mpr h
        have a : x.length - 1 + 1 ≤ x.length := a
        exact Bool.and_eq_true_iff.mpr ⟨decide_eq_true (show 0 + 1 ≤ x.length by omega), b⟩
    · rintro (h | h)
      · left
        rw [h]
        exact ⟨rfl, rfl⟩
      · right
        obtain ⟨a, b⟩ := Bool.and_eq_true_iff.mp h
        have a : 0 + 1 ≤ x.length := of_decide_eq_true a
        rw [List.getLast?_eq_getElem?, hl]
        exact so.mp ⟨(show x.length - 1 + 1 ≤ x.length by omega), b⟩
  cases h : endsB x with
  | true =>
    rcases key.mp h with h | h
    · rw [decide_eq_true h]; rfl
    · rw [h, Bool.or_true]
  | false =>
    have n : ¬ (x = "" ∨ Txt.endswith x "\n" = true) := fun z => by
      have := h.symm.trans (key.mpr z)
      cases this
    rw [decide_eq_false fun z => n (.inl z)]
    cases z : Txt.endswith x "\n" with
    | false => rfl
    | true => exact absurd (.inr z) n
section
variable {P : Program} {w : World} {K : PySem.W.Frag} {mg : Str → Option Value} {base : Heap} {f : Addr} {fd : FuncData}
def spRead (K : PySem.W.Frag) : Sp := fun vs H Q E => ∃ xv yv : V, vs = [xv, yv] ∧
  ((∃ (m : Addr) (r : Raw), xv = .ref m ∧ MacAt K H m r ∧ RawOk r ∧
    ((∃ x : Str, yv = .str x ∧ x.length ≤ 10000 ∧ (∀ i : Nat, readP r x = .inl i → ∀ H', Ex H H' → Err K "BadLogText" "line" (.int i) H' E) ∧ (∀ l, readP r x = .inr l → ∀ p H', Ex H H' → Den K true H' (.ref p) (logT l) → Q (.ref p) H')) ∨
     (∃ d, Den K true H yv d ∧ isS d = false ∧ ∀ H', Ex H H' → Err K "BadLogText" "line" (.int (0 : Nat)) H' E))) ∨
   (NotM K H xv ∧ Err K "BadMachine" "machine" xv H E))
theorem sc_read_log : FnScope ["machine", "text", "taken", "lines", "place", "words"] ["machine", "text"] (defScope s_read_log) := ⟨rfl, rfl, rfl, by decide +kernel, rfl, by decide +kernel, by decide +kernel⟩
theorem ok_read_log (W : Wld K mg) (F : FnP K "read_log" s_read_log f fd) : FnOk P w K mg base (L2.CX P w) 7 f fd ["machine", "text"] (spRead K) := by
  have Cneed_machine : CalR P w K mg base 2 "need_machine" ["machine"] (spNeedM K) := cneed_machine W
  have Cis_text : Cal P w K mg base 1 "is_text" ["thing"] (sp1 K isS) := cis_text W
  have Clines_in : Cal P w K mg base 1 "lines_in" ["text"] spLinesIn := clines_in W
  have CLogLines_init : Ini P w K mg base 2 (He.ga K "LogLines") (He.ma K (He.ga K "LogLines") "__init__") ["self", "machine"] (spRead0 K) := cLogLines_init W
  have CLogLines_take : Mtd P w K mg base 5 (He.ga K "LogLines") "take" ["self", "words"] (spLine K lineP) := cLogLines_take W
  have CLogLines_is_open : Mtd P w K mg base 2 (He.ga K "LogLines") "is_open" ["self"] (spOpen K) := cLogLines_is_open W
  refine F.ok sc_read_log (fun vs H Q E h => ?_) (fun cdv A outer s H vs Q E hr h => ?_)
  · obtain ⟨x, v, rfl, _⟩ := h
    rfl
  have tk : Takes (cxOf (L2.CX P w) P w K mg base ["machine", "text", "taken", "lines", "place", "words"] "read_log" (defScope s_read_log) f cdv A outer s H E) (fun cls d _ H => E cls d H) := takes_of rfl rfl rfl rfl
  have px : Passes (L2.CX P w) (cxOf (L2.CX P w) P w K mg base ["machine", "text", "taken", "lines", "place", "words"] "read_log" (defScope s_read_log) f cdv A outer s H E) E := passes_call tk fun _ _ _ _ h => h
  obtain ⟨xv, yv, rfl, h⟩ := h
  refine ⟨_, (pss_cons (ps_expr (pe_r Cneed_machine (hr.mono (by decide)) px (pa_cons (pv 0) pa_nil)))
    (pss_cons (ps_if (pt_not (pt_val (pe_c Cis_text (hr.mono (by decide)) (pa_cons (pv 1) pa_nil))))
    (pss_one (ps_raise rfl tk (XR.pmk_x (W.x_BadLogText).t (W.x_BadLogText).g (W.x_BadLogText).k (W.x_BadLogText).c.hs (W.x_BadLogText).l.ty hr (pa_cons pe_int pa_nil))))
    pss_nil)
    (pss_cons (ps_par (i := 2) (j := 3) rfl sc_read_log.nd rfl rfl (by decide) rfl rfl (pa_cons (pe_mk CLogLines_init W.mk_LogLines W.g_LogLines (hr.mono (by decide)) (pa_cons (pv 0) pa_nil)) (pa_cons (pe_c Clines_in (hr.mono (by decide)) (pa_cons (pv 1) pa_nil)) pa_nil)) (by rfl))
    (pss_cons (ps_for (passes_of rfl) rfl (XN.pi_enumA (by rfl) W.n_enumerate (pa_cons (pv 3) pa_nil)) (pg_tup rfl (pgs_cons (pg_name (i := 4) sc_read_log.nd rfl (.inl rfl)) (pgs_cons (pg_name (i := 5) sc_read_log.nd rfl (.inl rfl)) pgs_nil)))
    (pss_one (ps_if (pt_not (pt_val (pe_ma CLogLines_take (hr.mono (by decide)) (pv 2) (pa_cons (pv 5) pa_nil))))
    (pss_one (ps_raise rfl tk (XR.pmk_x (W.x_BadLogText).t (W.x_BadLogText).g (W.x_BadLogText).k (W.x_BadLogText).c.hs (W.x_BadLogText).l.ty hr (pa_cons (pv 4) pa_nil))))
    pss_nil)))
    (pss_cons (ps_if (PW.pt (pw_or (pt_val (pe_mc0 CLogLines_is_open (hr.mono (by decide)) (pv 2))) (pw_or1 (PW.pt (pw_and (pt_cmpR op_ne (pv 1) pe_str (nomark _)) (pw_and1 (pt_not (pt_val (pe_bm PySem.F.plainAttrs_str PySem.F.slot_str_endswith PySem.F.type_str_endswith mt_endswith (pv 1) (pa_cons pe_str pa_nil))))))))))
    (pss_one (ps_raise rfl tk (XR.pmk_x (W.x_BadLogText).t (W.x_BadLogText).g (W.x_BadLogText).k (W.x_BadLogText).c.hs (W.x_BadLogText).l.ty hr (pa_cons (pe_callB call_len_seq (by rfl) W.n_len (by decide +kernel) (pa_cons (pv 3) pa_nil)) pa_nil))))
    pss_nil)
    (pss_one (ps_ret (pe_fld (pv 2) rfl)))))))), ?_⟩
  rcases h with ⟨m, r, rfl, hm, R, h⟩ | ⟨n, k⟩
  rotate_left
  · exact ⟨_, rfl, _, rfl, .inr ⟨n, k⟩⟩
  refine ⟨_, rfl, _, rfl, .inl ⟨m, r, rfl, hm, ?_⟩⟩
  rcases h with ⟨x, rfl, hx, k1, k2⟩ | ⟨d, hd, hs, k⟩
  rotate_left
  · refine ⟨_, rfl, yv, d, rfl, hd, fun H1 e1 => ⟨_, rfl, ?_⟩⟩
    rw [hs]
    exact iteT ⟨_, rfl, k H1 e1⟩
  refine ⟨_, rfl, .str x, .str x, rfl, .str x, fun H1 e1 => ⟨_, rfl, iteF ?_⟩⟩
  have hm1 := hm.mono e1
  refine ⟨_, rfl, fun o dx ho hdx ne => ?_⟩
  have e2 : Ex H1 (upd (upd H1 dx (.own o)) o (.ins (He.ga K "LogLines") dx [])) := XL.ex_two ho hdx
  have e2' : Ex H1 (wo o (upd (upd H1 dx (.own o)) o (.ins (He.ga K "LogLines") dx []))) := fun b u q => hid_some.mpr ⟨ne_of_none q ho, e2 b u q⟩
  have o2 : upd (upd H1 dx (.own o)) o (.ins (He.ga K "LogLines") dx []) o = some (.ins (He.ga K "LogLines") dx []) := upd_same
  generalize upd (upd H1 dx (.own o)) o (.ins (He.ga K "LogLines") dx []) = H2 at e2 e2' o2 ⊢
  refine ⟨o, dx, m, r, rfl, o2, hm1.mono e2', R, fun H3 p E3 np o3 p3 => ⟨rfl, ?_⟩⟩
  have e13 : Ex H1 (wo o H3) := e2'.trans E3
  refine ⟨_, rfl, x, rfl, hx, fun D us H4 e4 nD hD hl => ?_⟩
  obtain ⟨ul, hl⟩ := hl
  have po : p ≠ o := (ne_of_none o2 np).symm
  have Do : D ≠ o := (ne_of_none o3 nD).symm
  have Dp : D ≠ p := (ne_of_none p3 nD).symm
  have Bdef : Ex (hid (fun b => b = p ∨ b = o) H4) H4 := hid_ex
  have HB : Ex H (hid (fun b => b = p ∨ b = o) H4) := fun b u q => by
    have q1 := e1 _ _ q
    refine hid_some.mpr ⟨?_, e4 _ _ (hid_ex _ _ (e13 _ _ q1))⟩
    rintro (rfl | rfl)
    · rw [hid_ex _ _ (e2' _ _ q1)] at np
      cases np
    · rw [ho] at q1
      cases q1
  have DB : hid (fun b => b = p ∨ b = o) H4 D = some (.lst us) := hid_some.mpr ⟨fun z => z.elim Dp Do, hD⟩
  have qB : ∀ (i : Nat) (u : V), us[i]? = some u → ∃ y q, (rowsL x).dropLast[i]? = some y ∧ u = .ref q ∧ hid (fun b => b = p ∨ b = o) H4 q = some (.lst (strsV (wordsL y))) := fun i u h => by
    obtain ⟨y, q, z1, z2, z3, z4, z5⟩ := hl i u h
    refine ⟨y, q, z1, z2, hid_some.mpr ⟨?_, z5⟩⟩
    rintro (rfl | rfl)
    · rw [p3] at z3; cases z3
    · rw [o3] at z3; cases z3
  have mB : MacAt K (hid (fun b => b = p ∨ b = o) H4) m r := hm.mono HB
  have L0 : LL K (hid (fun b => b = p ∨ b = o) H4) H4 o m r p [] := by
    refine ⟨dx, e4 _ _ o3, ?_, .inl ⟨rfl, hid_some.mpr ⟨po, e4 _ _ p3⟩, ?_, fun b u q => ?_⟩, mB⟩
    · exact hid_at (.inr rfl)
    · exact hid_at (.inl rfl)
    · obtain ⟨q1, q2⟩ := hid_some.mp q
      exact hid_some.mpr ⟨fun z => q1 (.inl z), hid_some.mpr ⟨fun z => q1 (.inr z), q2⟩⟩
  have rc := rows_cnt x
  have rl : (rowsL x).dropLast.length ≤ 10000 := by rw [List.length_dropLast]; omega
  generalize hBe : hid (fun b => b = p ∨ b = o) H4 = B at HB DB qB mB L0
  clear hBe Bdef
  refine ⟨_, _, rfl, ?_⟩
  refine ⟨_, rfl, D, rfl, .inl ⟨us, SqL.of hD, ?_⟩⟩
  refine for_it (walk_enum (xs := us)) (fun i σ H' => ∃ l o4 o5, σ = [some (.ref m), some (.str x), some (.ref o), some (.ref D), o4, o5] ∧ LL K B H' o m r p l ∧ l.length ≤ i ∧ parseL r [] ((rowsL x).dropLast.map wordsL) 0 = parseL r l (((rowsL x).dropLast.map wordsL).drop i) i) ⟨[], _, _, rfl, L0, Nat.le_refl _, rfl⟩ (fun i σ H' _ h => ?_) ?_ ?_
  · obtain ⟨l, o4, o5, _, h, _⟩ := h
    exact SqL.of (h.ex _ _ DB)
  · rintro i u σ H5 H6 hi ⟨l, o4, o5, rfl, hL, ll, hpar⟩ ⟨T, a1, b1, rfl, hT, rfl, ha, hb⟩
    obtain rfl := Option.some.inj ha
    obtain ⟨y, q, hy, rfl, hq⟩ := qB i b1 hb
    have e6 : Ex H5 (upd H5 T (.tup [.int (i : Nat), .ref q])) := (Ex.refl H5).new hT
    have hT6 : upd H5 T (.tup [.int (i : Nat), .ref q]) T = some (.tup [.int (i : Nat), .ref q]) := upd_same
    generalize upd H5 T (.tup [.int (i : Nat), .ref q]) = H6 at e6 hT6 ⊢
    have hL6 := hL.mono e6
    have hil : i < ((rowsL x).dropLast.map wordsL).length := by rw [List.length_map]; exact (List.getElem?_eq_some_iff.mp hy).1
    have hdrop : ((rowsL x).dropLast.map wordsL).drop i = wordsL y :: ((rowsL x).dropLast.map wordsL).drop (i + 1) := by
      rw [List.drop_eq_getElem_cons hil]
      congr 1
      rw [List.getElem_map]
      congr 1
      exact (List.getElem?_eq_some_iff.mp hy).2
    rw [hdrop] at hpar
    have yl := rowL_len (List.dropLast_subset _ (List.mem_of_getElem? hy))
    obtain ⟨dx6, g6, _⟩ := id hL6
    refine ⟨T, _, rfl, SqT.of hT6, rfl, _, _, rfl, _, _, rfl, rfl, ?_⟩
    refine ⟨_, rfl, o, dx6, _, rfl, g6, rfl, _, rfl, B, o, m, p, q, r, l, wordsL y, rfl, hL6, R, hq, fun w h => Nat.le_trans (words_len h) (by omega), words_ne y, ?_, fun hn H7 hL7 => ?_, fun l' hn H7 hL7 => ?_⟩
    · rw [List.length_map] at hil
      omega
    · refine ⟨_, rfl, iteT ⟨_, rfl, ?_⟩⟩
      have hp2 : parseL r [] ((rowsL x).dropLast.map wordsL) 0 = .inl i := by
        rw [hpar]
        show (match lineP r l (wordsL y) with | none => Sum.inl i | some l' => parseL r l' _ (i + 1)) = _
        rw [hn]
      exact ⟨_, rfl, k1 i (by unfold readP; rw [hp2]) H7 (HB.trans hL7.ex)⟩
    · refine ⟨_, rfl, iteF ⟨l', _, _, rfl, hL7, ?_, ?_⟩⟩
      · have := lineP_len hn
        omega
      · rw [hpar]
        show (match lineP r l (wordsL y) with | none => Sum.inl i | some l' => parseL r l' _ (i + 1)) = _
        rw [hn]
  · rintro σ H5 ⟨l, o4, o5, rfl, hL, ll, hpar⟩
    rw [ul, ← List.length_map (f := wordsL) (as := (rowsL x).dropLast), List.drop_length] at hpar
    have hpar : parseL r [] ((rowsL x).dropLast.map wordsL) 0 = .inr l := hpar
    obtain ⟨dx5, g5, _⟩ := id hL
    refine ⟨_, rfl, o, dx5, _, rfl, g5, rfl, B, o, m, p, r, l, rfl, hL, fun H6 e6 => ⟨_, rfl, ?_⟩⟩
    have hL6 := hL.mono e6
    have e06 := HB.trans hL6.ex
    have D6 := hL6.ex _ _ DB
    have er := fun (h : (wholeL r l && endsB x) = false) => k1 (rowsL x).dropLast.length (by unfold readP; rw [hpar]; show (if _ then _ else _) = _; rw [h]; rfl) H6 e06
    cases hw : wholeL r l with
    | false =>
      rw [hw] at er
      refine iteT ⟨_, rfl, D, _, rfl, .inl (SqL.of D6), ?_⟩
      rw [ul]
      exact ⟨_, rfl, er rfl⟩
    | true =>
    rw [hw, Bool.true_and] at er
    refine iteF ⟨_, rfl, rfl, _, rfl, ?_⟩
    rw [dec_s]
    have et := ends_txt x
    have fin : endsB x = true → Q (.ref p) H6 := fun h => k2 l (by unfold readP; rw [hpar]; show (if _ then _ else _) = _; rw [hw, h]; rfl) p H6 e06 (by
      obtain ⟨_, _, _, gg, _⟩ := id hL6
      exact gg.den.mono hid_ex.kp)
    obtain ⟨dx6, g6, _⟩ := id hL6
    have ret : endsB x = true → tRet (tFld K (tVar 2) "rows") { nx := fun x H' => Q V.non H', rt := Q } [some (.ref m), some (.str x), some (.ref o), some (.ref D), o4, o5] H6 := fun h =>
      ⟨_, rfl, o, _, dx6, _, .ref p, rfl, g6, W.c_LogLines, W.na_LogLines_rows, rfl, fin h⟩
    rcases Decidable.em (x = "") with hx0 | hx0
    · rw [decide_eq_true hx0] at et ⊢
      exact iteF (ret et.symm)
    rw [decide_eq_false hx0] at et ⊢
    have et : Txt.endswith x "\n" = endsB x := et
    refine iteT ⟨_, rfl, rfl, x, "\n", rfl, rfl, _, rfl, ?_⟩
    rw [et]
    cases he : endsB x with
    | true => exact iteF (ret he)
    | false =>
      refine iteT ⟨_, rfl, D, _, rfl, .inl (SqL.of D6), ?_⟩
      rw [ul]
      exact ⟨_, rfl, er he⟩
theorem cread_log (W : Wld K mg) : CalR P w K mg base 7 "read_log" ["machine", "text"] (spRead K) := by
  obtain ⟨fd, F⟩ := W.c.def_ 31 rfl
  exact ⟨⟨fd, ok_read_log W F, F.bindsN fun _ _ _ _ _ _ us hl => match us, hl with | [_, _], _ => rfl⟩, W.g_read_log, F.kp⟩
end
end K77

set_option Elab.async false
set_option linter.all false
set_option maxRecDepth 100000
set_option maxHeartbeats 400000
set_option pp.deepTerms.threshold 6
set_option pp.maxSteps 4000
namespace K77
open PySem PySem.Spec PyProof.Rows L2 DL
theorem mv_txt {T : List Nat} {n : Str} {k : Nat} : ((((SX.S T ++ ("move " : Str)) ++ n) ++ (" " : Str)) ++ (toString ((k : Nat) : Int) : Str)) ++ ("\n" : Str) = SX.S (T ++ (mvL n k ++ [10])) := by
  refine TL.ext_tl ?_
  rw [TL.tl_append, TL.tl_append, TL.tl_append, TL.tl_append, TL.tl_append, TL.tl_num]
  show ((((TL.tl (SX.S T) ++ [109, 111, 118, 101, 32]) ++ n.cps.toList) ++ [32]) ++ TL.numL k) ++ [10] = T ++ (mvL n k ++ [10])
  rw [show TL.tl (SX.S T) = T from rfl]
  unfold mvL
  simp
theorem wv_txt {T : List Nat} {n : Str} {bs : List Nat} : ((((SX.S T ++ ("wave " : Str)) ++ n) ++ (" " : Str)) ++ Txt.join "" (bs.map strI)) ++ ("\n" : Str) = SX.S (T ++ (wvL (n, bs) ++ [10])) := by
  rw [bits_join]
  refine TL.ext_tl ?_
  rw [TL.tl_append, TL.tl_append, TL.tl_append, TL.tl_append, TL.tl_append]
  show ((((TL.tl (SX.S T) ++ [119, 97, 118, 101, 32]) ++ n.cps.toList) ++ [32]) ++ TL.tl (SX.S (bs.flatMap TL.numL))) ++ [10] = T ++ (wvL (n, bs) ++ [10])
  rw [show TL.tl (SX.S T) = T from rfl, show TL.tl (SX.S (bs.flatMap TL.numL)) = bs.flatMap TL.numL from rfl]
  unfold wvL
  simp
/-- the text of a row, its first j waves -/
def rowT (x : LRow) (j : Nat) : List Nat := (mvL x.1 x.2.1 ++ [10]) ++ ((x.2.2.take j).map wvL).flatMap (· ++ [10])
theorem text_take {l : List LRow} {i : Nat} {x : LRow} (h : l[i]? = some x) : textL (l.take (i + 1)) = textL (l.take i) ++ rowT x x.2.2.length := by
  unfold textL rowT
  rw [lines_take h, List.flatMap_append, List.take_length]
  rfl
theorem rowT_step {x : LRow} {j : Nat} {y : Wv} (h : x.2.2[j]? = some y) : rowT x (j + 1) = rowT x j ++ (wvL y ++ [10]) := by
  unfold rowT
  rw [List.take_add_one, h, List.map_append, List.flatMap_append, List.append_assoc (mvL x.1 x.2.1 ++ [10])]
  simp
theorem text_pre (l : List LRow) (i : Nat) : (textL (l.take i)).length ≤ (textL l).length := by
  have e : textL l = textL (l.take i) ++ textL (l.drop i) := by
    unfold textL linesOf
    rw [← List.flatMap_append, ← List.flatMap_append, List.take_append_drop]
  rw [e, List.length_append]
  exact Nat.le_add_right _ _
theorem rowT_pre (x : LRow) (j : Nat) : (rowT x j).length ≤ (rowT x x.2.2.length).length := by
  have e : rowT x x.2.2.length = rowT x j ++ ((x.2.2.drop j).map wvL).flatMap (· ++ [10]) := by
    unfold rowT
    rw [List.take_length, List.append_assoc (mvL x.1 x.2.1 ++ [10]), ← List.flatMap_append, ← List.map_append, List.take_append_drop]
  rw [e, List.length_append]
  exact Nat.le_add_right _ _
section
variable {P : Program} {w : World} {K : PySem.W.Frag} {mg : Str → Option Value} {base : Heap} {f : Addr} {fd : FuncData}
def spLText (K : PySem.W.Frag) : Sp := fun vs H Q _ => ∃ (v : V) (l : List LRow), vs = [v] ∧ Den K true H v (logT l) ∧ TxtOk l ∧ ∀ H', Ex H H' → Q (.str (textOf l)) H'
theorem sc_law_text_of : FnScope ["log", "text", "name", "move", "waves", "lamp", "shown", "sign"] ["log"] (defScope s_law_text_of) := ⟨rfl, rfl, rfl, by decide +kernel, rfl, by decide +kernel, by decide +kernel⟩
theorem ok_law_text_of (W : Wld K mg) (F : FnP K "_law_text_of" s_law_text_of f fd) : FnOk P w K mg base CX0 1 f fd ["log"] (spLText K) := by
  refine F.ok sc_law_text_of (fun vs H Q E h => ?_) (fun cdv A outer s H vs Q E hr h => ?_)
  · obtain ⟨v, l, rfl, _⟩ := h
    rfl
  obtain ⟨v, l, rfl, hd, ⟨tl, tx⟩, k⟩ := h
  refine ⟨_, PSs.nox (pss_cons (ps_set (i := 1) sc_law_text_of.nd rfl (.inl rfl) pe_str)
    (pss_cons (ps_for PassesOwn.never rfl (pi_list (pv 0)) (pg_tup rfl (pgs_cons (pg_name (i := 2) sc_law_text_of.nd rfl (.inl rfl)) (pgs_cons (pg_name (i := 3) sc_law_text_of.nd rfl (.inl rfl)) (pgs_cons (pg_name (i := 4) sc_law_text_of.nd rfl (.inl rfl)) pgs_nil))))
    (pss_cons (ps_set (i := 1) sc_law_text_of.nd rfl (.inl rfl) (pe_op op_add_str (pe_op op_add_str (pe_op op_add_str (pe_op op_add_str (pe_op op_add_str (pv 1) pe_str) (pv 2)) pe_str) (pe_callTy call_str_int (by rfl) W.n_str (by decide +kernel) (pa_cons (pv 3) pa_nil))) pe_str))
    (pss_one (ps_for PassesOwn.never rfl (pi_list (pv 4)) (pg_tup rfl (pgs_cons (pg_name (i := 5) sc_law_text_of.nd rfl (.inl rfl)) (pgs_cons (pg_name (i := 6) sc_law_text_of.nd rfl (.inl rfl)) pgs_nil)))
    (pss_one (ps_set (i := 1) sc_law_text_of.nd rfl (.inl rfl) (pe_op op_add_str (pe_op op_add_str (pe_op op_add_str (pe_op op_add_str (pe_op op_add_str (pv 1) pe_str) (pv 5)) pe_str) (pe_join pe_str (pe_lc (own := [("sign", 7)]) (g := gName 7) (tt := tYes) (te := (tCB XT7.rStrI (tCons (tVar 7) tNil))) rfl sc_law_text_of.nd (pi_list (pv 6)) (blkOk_by (N := ["log", "text", "name", "move", "waves", "lamp", "shown", "sign"]) (sc := defScope s_law_text_of) (by decide +kernel)) (fun _ _ _ _ _ => pg_name (i := 7) sc_law_text_of.nd rfl (Or.inl rfl)) (fun _ _ _ _ _ => pts_nil) (fun _ _ _ _ _ => (pe_callTy call_str_int (by rfl) W.n_str (by decide +kernel) (pa_cons (pv 7) pa_nil)))))) pe_str)))))))
    (pss_one (ps_ret (pv 1))))), ?_⟩
  unfold logT at hd
  obtain ⟨p, ys, rfl, hq, hds⟩ : ∃ p ys, v = .ref p ∧ SqL K H p ys ∧ Dens K true H ys (l.map lrT) := by
    cases hd with
    | lst h1 h2 => exact ⟨_, _, rfl, h1, h2⟩
  have yl : ys.length = l.length := by rw [hds.length, List.length_map]
  refine ⟨_, rfl, p, rfl, ⟨_, hq⟩, ?_⟩
  refine for_it (walk_list (xs := ys)) (fun i σ H' => Ex H H' ∧ ∃ o2 o3 o4 o5 o6 o7, σ = [some (.ref p), some (.str (SX.S (textL (l.take i)))), o2, o3, o4, o5, o6, o7]) ⟨Ex.refl _, none, none, none, none, none, none, by rw [List.take_zero, show textL [] = [] from rfl, ← str_empty]; rfl⟩ (fun i σ H' _ h => h.1.er.l hq) ?_ ?_
  · rintro i v σ H2 H2' hi ⟨E2, o2, o3, o4, o5, o6, o7, rfl⟩ ⟨rfl, hv⟩
    obtain ⟨dr, hdr, dv⟩ := hds.get hv
    obtain ⟨x, hx, rfl⟩ := logT_get hdr
    have hxm := List.mem_of_getElem? hx
    obtain ⟨tx1, tx2⟩ := tx _ hxm
    obtain ⟨t, w1, zs, rfl, ht, hz, hzs⟩ := den_lr (dv.mono E2.kp)
    have zl : zs.length = x.2.2.length := by rw [hzs.length, List.length_map]
    have htk := text_take hx
    have pre1 := text_pre l (i + 1)
    rw [htk, List.length_append] at pre1
    have la : ∀ (a b : Str), (a ++ b).length = a.length + b.length := fun a b => by rw [TL.len_tl, TL.tl_append, List.length_append, TL.len_tl, TL.len_tl]
    have l1 : ("move " : Str).length = 5 := by decide +kernel
    have l2 : (" " : Str).length = 1 := by decide +kernel
    have l3 : ("wave " : Str).length = 5 := by decide +kernel
    have l4 : ("\n" : Str).length = 1 := by decide +kernel
    have m3 : x.1.cps.toList.length = x.1.length := Array.length_toList
    have m4 : ((toString ((x.2.1 : Nat) : Int) : Str)).length = (TL.numL x.2.1).length := by rw [TL.len_tl, TL.tl_num]
    have m0 := rowT_pre x 0
    have m2 : (rowT x 0).length = 7 + x.1.cps.toList.length + (TL.numL x.2.1).length := by
      unfold rowT mvL
      simp
      omega
    have lS : (SX.S (textL (l.take i))).length = (textL (l.take i)).length := SX.S_len _
    refine ⟨t, _, rfl, ht, rfl, _, _, rfl, _, _, rfl, _, _, rfl, rfl, ?_⟩
    refine ⟨_, rfl, _, _, rfl, rfl, by rw [sizeLine_eq]; omega, _, rfl, _, _, rfl, rfl, by rw [la, sizeLine_eq]; omega, _, _, rfl, rfl, by rw [la, la, sizeLine_eq]; omega, _, rfl, _, rfl, log_bits tx1, _, _, rfl, rfl, by rw [la, la, la, sizeLine_eq]; omega, _, _, rfl, rfl, by rw [la, la, la, la, sizeLine_eq]; omega, ?_⟩
    rw [mv_txt]
    have r0 : textL (l.take i) ++ (mvL x.1 x.2.1 ++ [10]) = textL (l.take i) ++ rowT x 0 := by
      unfold rowT
      simp
    rw [r0]
    refine ⟨_, rfl, w1, rfl, ⟨_, hz⟩, ?_⟩
    refine for_it (walk_list (xs := zs)) (fun j σ H' => Ex H2' H' ∧ ∃ o5 o6 o7, σ = [some (.ref p), some (.str (SX.S (textL (l.take i) ++ rowT x j))), some (.str x.1), some (.int (x.2.1 : Nat)), some (.ref w1), o5, o6, o7]) ⟨Ex.refl _, _, _, _, rfl⟩ (fun i σ H' _ h => h.1.er.l hz) ?_ ?_
    · rintro j u σ H3 H3' hj ⟨E3, o5', o6', o7', rfl⟩ ⟨rfl, hu⟩
      obtain ⟨dp, hdp, du⟩ := hzs.get hu
      rw [List.getElem?_map] at hdp
      cases hy : x.2.2[j]? with
      | none => rw [hy] at hdp; cases hdp
      | some y =>
      rw [hy] at hdp
      obtain rfl := Option.some.inj hdp
      have bx := tx2 y (List.mem_of_getElem? hy)
      obtain ⟨t2, s2, rfl, ht2, hs2⟩ := den_wv (du.mono E3.kp)
      have rs := rowT_step hy
      have m0 := rowT_pre x (j + 1)
      rw [rs, List.length_append, List.length_append] at m0
      have w2 : (wvL y).length = 6 + y.1.cps.toList.length + (y.2.flatMap TL.numL).length := by
        unfold wvL
        simp
        omega
      have w3 : y.1.cps.toList.length = y.1.length := Array.length_toList
      have lS2 : (SX.S (textL (l.take i) ++ rowT x j)).length = (textL (l.take i)).length + (rowT x j).length := (SX.S_len _).trans List.length_append
      have lb : (SX.S (y.2.flatMap TL.numL)).length = (y.2.flatMap TL.numL).length := SX.S_len _
      have ln : ([10] : List Nat).length = 1 := rfl
      refine ⟨t2, _, rfl, ht2, rfl, _, _, rfl, _, _, rfl, rfl, ?_⟩
      refine ⟨_, rfl, _, _, rfl, rfl, by rw [sizeLine_eq]; omega, _, rfl, _, _, rfl, rfl, by rw [la, sizeLine_eq]; omega, _, _, rfl, rfl, by rw [la, la, sizeLine_eq]; omega, ?_⟩
      refine ⟨⟨_, rfl⟩, _, rfl, s2, rfl, ⟨_, hs2⟩, fun D2 hD2 => ?_⟩
      have bl : y.2.length ≤ (y.2.flatMap TL.numL).length := by
        clear bx w2 w3 rs hs2 lb m0 hy ht2
        induction y.2 with
        | nil => exact Nat.zero_le _
        | cons b r ih =>
          rw [List.flatMap_cons, List.length_append, List.length_cons]
          have := numL_pos b
          omega
      refine lc_map walk_list (fun i v _ => ∃ b, y.2[i]? = some b ∧ v = .str (strI b)) (by rw [ints_len, sizeLine_eq]; omega) hD2 (fun H' e => e.er.l hs2) (fun _ _ _ _ q _ => q) ?_ ?_
      · rintro i v H5 H6 Q2 hi e5 ⟨rfl, hv⟩ q
        unfold intsV at hv
        rw [List.getElem?_map] at hv
        cases e : y.2[i]? with
        | none => rw [e] at hv; cases hv
        | some b =>
          rw [e] at hv
          obtain rfl := Option.some.inj hv
          have hb := bx b (List.mem_of_getElem? e)
          exact ⟨rfl, _, rfl, _, rfl, log_bits hb, q _ _ (Ex.refl _) ⟨b, e, rfl⟩⟩
      · intro H5 us h5 ul e5 hus
        rw [ints_len] at ul
        have eus : us = strsV (y.2.map strI) := by
          refine List.ext_getElem? fun i => ?_
          cases e : us[i]? with
          | none =>
            rw [List.getElem?_eq_none_iff] at e
            symm
            rw [List.getElem?_eq_none_iff, strs_len, List.length_map]
            omega
          | some v =>
            obtain ⟨b, h1, rfl⟩ := hus i v e
            unfold strsV
            rw [List.getElem?_map, List.getElem?_map, h1]
            rfl
        rw [eus] at h5
        have tot : ((y.2.map strI).map (·.length)).sum = (y.2.flatMap TL.numL).length := by
          rw [List.length_flatMap, List.map_map]
          congr 1
          refine List.map_congr_left fun b _ => ?_
          show (strI b).length = _
          rw [TL.len_tl]
          exact congrArg List.length (TL.tl_num b)
        refine ⟨_, _, _, rfl, rfl, .inl (SqL.of h5), by rw [tot]; show _ + _ * 0 ≤ _; omega, ?_⟩
        have lj : (Txt.join "" (y.2.map strI)).length = (y.2.flatMap TL.numL).length := by rw [bits_join]; exact lb
        refine ⟨_, _, rfl, rfl, by rw [la, la, la, lj, sizeLine_eq]; omega, _, _, rfl, rfl, by rw [la, la, la, la, lj, sizeLine_eq]; omega, ?_⟩
        rw [wv_txt, List.append_assoc, ← rs]
        exact ⟨E3.trans e5, _, _, _, rfl⟩
    · rintro σ H3 ⟨E3, o5', o6', o7', rfl⟩
      rw [zl, ← htk]
      exact ⟨E2.trans E3, _, _, _, _, _, _, rfl⟩
  · rintro σ H2 ⟨E2, o2, o3, o4, o5, o6, o7, rfl⟩
    rw [yl, List.take_length]
    exact ⟨_, rfl, k H2 E2⟩
theorem c_law_text_of (W : Wld K mg) : Cal P w K mg base 1 "_law_text_of" ["log"] (spLText K) := by
  obtain ⟨fd, F⟩ := W.c.def_ 54 rfl
  exact ⟨⟨fd, ok_law_text_of W F, F.bindsN fun _ _ _ _ _ _ us hl => match us, hl with | [_], _ => rfl⟩, W.g_law_text_of, F.kp⟩
end
end K77

set_option Elab.async false
set_option linter.all false
set_option maxRecDepth 100000
set_option maxHeartbeats 400000
set_option pp.deepTerms.threshold 6
set_option pp.maxSteps 4000
namespace K77
open PySem PySem.Spec PyProof.Rows L2 DL
theorem str_FIG : ("0123456789" : Str) = FIG := rfl
def figV (x : Str) : V := if numB x = true then .int (numN x : Nat) else .non
section
variable {P : Program} {w : World} {K : PySem.W.Frag} {mg : Str → Option Value} {base : Heap} {f : Addr} {fd : FuncData}
def spFig : Sp := fun vs H Q _ => ∃ x : Str, vs = [.str x] ∧ x.length < 1000000 ∧ ∀ H', Ex H H' → Q (figV x) H'
theorem sc_law_figure : FnScope ["word", "sign"] ["word"] (defScope s_law_figure) := ⟨rfl, rfl, rfl, by decide +kernel, rfl, by decide +kernel, by decide +kernel⟩
theorem ok_law_figure (W : Wld K mg) (F : FnP K "_law_figure" s_law_figure f fd) : FnOk P w K mg base CX0 1 f fd ["word"] spFig := by
  refine F.ok sc_law_figure (fun vs H Q E h => ?_) (fun cdv A outer s H vs Q E hr h => ?_)
  · obtain ⟨x, rfl, _⟩ := h
    rfl
  obtain ⟨x, rfl, hx, k⟩ := h
  refine ⟨_, PSs.nox (pss_cons (ps_if (PW.pt (pw_or (pt_not (pt_chain op_le op_le pe_int (pe_callB call_len_str (by rfl) W.n_len (by decide +kernel) (pa_cons (pv 0) pa_nil)) pe_int)) (pw_or (pt_not (pt_val (pe_callB (cr_all rfl) (by rfl) W.n_all (by decide +kernel) (pa_cons (pe_lc (own := [("sign", 1)]) (g := gName 1) (tt := tYes) (te := (tOp rInS (tVar 1) (tC (.str "0123456789")))) rfl sc_law_figure.nd (pi_str (pv 0)) (blkOk_by (N := ["word", "sign"]) (sc := defScope s_law_figure) (by decide +kernel)) (fun _ _ _ _ _ => pg_name (i := 1) sc_law_figure.nd rfl (Or.inl rfl)) (fun _ _ _ _ _ => pts_nil) (fun _ _ _ _ _ => (pe_cmpR op_in_str (pv 1) pe_str (by rfl)))) pa_nil)))) (pw_or1 (PW.pt (pw_and (pt_cmpR op_eq (pe_ix ix_str (pv 0) pe_int (fun _ _ => rfl)) pe_str (nomark _)) (pw_and1 (pt_cmpR op_ne (pv 0) pe_str (nomark _)))))))))
    (pss_one (ps_ret pe_non))
    pss_nil)
    (pss_one (ps_ret (pe_callTy call_int_str (by rfl) W.n_int (by decide +kernel) (pa_cons (pv 0) pa_nil))))), ?_⟩
  have hz : x.length ≤ sizeLine := by rw [sizeLine_eq]; omega
  refine ⟨_, rfl, x, rfl, hz, ?_⟩
  have kf : numB x = false → ∀ H', Ex H H' → Q .non H' := fun h H' e => by
    have z := k H' e
    unfold figV at z
    rw [h] at z
    exact z
  refine ⟨_, _, rfl, rfl, _, rfl, ?_⟩
  rcases Nat.lt_or_ge x.length 1 with h1 | h1
  · rw [decide_eq_false (by omega : ¬ (1 : Int) ≤ x.length)]
    refine iteF ⟨_, rfl, iteT (kf ?_ H (Ex.refl _))⟩
    unfold numB
    rw [decide_eq_false (by omega : ¬ 1 ≤ x.length)]
    rfl
  rw [decide_eq_true (by omega : (1 : Int) ≤ x.length)]
  refine iteT ⟨_, _, rfl, rfl, _, rfl, ?_⟩
  rcases Nat.lt_or_ge 9 x.length with h9 | h9
  · rw [decide_eq_false (by omega : ¬ (x.length : Int) ≤ 9)]
    refine iteT (kf ?_ H (Ex.refl _))
    unfold numB
    rw [decide_eq_false (by omega : ¬ x.length ≤ 9)]
    simp
  rw [decide_eq_true (by omega : (x.length : Int) ≤ 9)]
  refine iteF ⟨_, rfl, x, rfl, fun D hD => ?_⟩
  refine lc_bools walk_str (atB digB x.cps.toList) (by rw [sizeLine_eq]; exact Nat.lt_of_lt_of_le hx (by decide)) hD (fun _ _ => trivial) ?_ ?_
  · rintro i y H2 H3 Q2 hi e2 ⟨rfl, c', hc', rfl⟩ q
    refine ⟨rfl, ?_⟩
    refine ⟨_, rfl, _, _, rfl, rfl, ?_⟩
    rw [atB_some (cps_get hc')] at q
    have w := q _ (Ex.refl _)
    rw [← fig_in] at w
    exact w
  intro H1 h5 e1
  obtain ⟨c, hc⟩ : ∃ c, x.cps[0]? = some c := ⟨x.cps[0]'h1, Array.getElem?_eq_getElem h1⟩
  have hat : atI x.cps.toList 0 = some c := atI_nat (j := 0) (cps_get hc)
  have ek : numB x = (if c = 48 then decide (x = "0") else x.cps.toList.all digB) := by
    unfold numB
    rw [decide_eq_true h1, decide_eq_true h9, Bool.true_and, Bool.true_and, hc]
    by_cases z : c = 48
    · rw [if_pos z, if_pos (by rw [z])]
    · rw [if_neg z, if_neg (fun w => z (Option.some.inj w))]
  refine ⟨D, _, rfl, SqL.of h5, ?_⟩
  rw [show x.cps.size = x.cps.toList.length from Array.length_toList.symm, all_at]
  have fin : numB x = true → tRet (tCB (fun xs H Q => ∃ a n, xs = [V.str a] ∧ intText? a = some n ∧ a.length ≤ 640 ∧ Q (V.int n) H) (tCons (tVar 0) tNil)) { nx := fun x H' => Q V.non H', rt := Q } (L2.start ["word", "sign"] [V.str x]) H1 := fun h => by
    have z := k H1 e1
    unfold figV at z
    rw [h] at z
    exact ⟨_, rfl, x, _, rfl, num_int h, by omega, z⟩
  cases hall : x.cps.toList.all digB with
  | false =>
    refine ⟨_, rfl, iteT (kf ?_ H1 e1)⟩
    rw [ek, hall]
    split
    · rename_i z
      refine decide_eq_false fun e => ?_
      rw [e] at hall
      have : (("0" : Str).cps.toList.all digB) = true := by decide
      rw [this] at hall
      cases hall
    · rfl
  | true =>
  refine ⟨_, rfl, iteF ⟨_, rfl, _, _, c, rfl, rfl, hz, hat, rfl, _, rfl, ?_⟩⟩
  rw [dec_s]
  rcases Decidable.em (c = 48) with z | z
  · rw [if_pos z] at ek
    rw [decide_eq_true (by rw [z]; rfl : (⟨#[c]⟩ : Str) = "0")]
    refine iteT ⟨_, rfl, rfl, _, rfl, ?_⟩
    rw [dec_s]
    rcases Decidable.em (x = "0") with y | y
    · rw [decide_eq_true y] at ek ⊢
      exact iteF (fin ek)
    · rw [decide_eq_false y] at ek ⊢
      exact iteT (kf ek H1 e1)
  · rw [if_neg z, hall] at ek
    rw [decide_eq_false (fun w : (⟨#[c]⟩ : Str) = "0" => z (by
      have w2 := congrArg (fun z : Str => z.cps[0]?) w
      exact Option.some.inj (show some c = some 48 from w2)))]
    exact iteF (fin ek)
theorem c_law_figure (W : Wld K mg) : Cal P w K mg base 1 "_law_figure" ["word"] spFig := by
  obtain ⟨fd, F⟩ := W.c.def_ 55 rfl
  exact ⟨⟨fd, ok_law_figure W F, F.bindsN fun _ _ _ _ _ _ us hl => match us, hl with | [_], _ => rfl⟩, W.g_law_figure, F.kp⟩
end
end K77

set_option Elab.async false
set_option linter.all false
set_option maxRecDepth 100000
set_option maxHeartbeats 400000
set_option pp.deepTerms.threshold 6
set_option pp.maxSteps 4000
namespace K77
open PySem PySem.Spec PyProof.Rows L2 DL
/-- rows whose moves are and whose waves are no more than the lamps -/
def CapL (r : Raw) (l : List LRow) : Prop := ∀ x ∈ l, x.2.1 < r.mvs.length ∧ x.2.2.length ≤ r.lam.length
theorem cap_nil (r : Raw) : CapL r [] := fun x h => absurd h (by simp)
theorem cap_line {r : Raw} {l l' : List LRow} {ws : List Str} (hc : CapL r l) (h : lineP r l ws = some l') : CapL r l' := by
  match ws, h with
  | [w0, w1, w2], h =>
    have h : (if w0 = "move" then moveP r l w1 w2 else if w0 = "wave" then waveP r l w1 w2 else none) = some l' := h
    split at h
    · unfold moveP at h
      split at h
      · rename_i hh
        cases h
        obtain ⟨_, hh⟩ := He.ba hh
        obtain ⟨_, hh⟩ := He.ba hh
        obtain ⟨_, hh⟩ := He.ba hh
        intro x hx
        rcases List.mem_append.mp hx with hx | hx
        · exact hc x hx
        · obtain rfl := List.mem_singleton.mp hx
          refine ⟨?_, Nat.zero_le _⟩
          unfold mvB at hh
          cases e : r.mvs[numN w2]? with
          | none => rw [e] at hh; cases hh
          | some q => exact (List.getElem?_eq_some_iff.mp e).1
      · cases h
    · split at h
      · unfold waveP at h
        split at h
        · rename_i hh
          cases h
          obtain ⟨hw, hh⟩ := He.ba hh
          rcases List.eq_nil_or_concat l with rfl | ⟨l0, y, rfl⟩
          · cases hw
          · rw [List.concat_eq_append] at hc hw ⊢
            rw [addW_snoc]
            rw [whole_snoc] at hw
            intro x hx
            rcases List.mem_append.mp hx with hx | hx
            · exact hc x (List.mem_append_left _ hx)
            · obtain rfl := List.mem_singleton.mp hx
              have := hc y (by simp)
              refine ⟨this.1, ?_⟩
              show (y.2.2 ++ [_]).length ≤ _
              rw [List.length_append]
              have : ¬ r.lam.length ≤ y.2.2.length := fun z => by rw [decide_eq_true z] at hw; cases hw
              show y.2.2.length + 1 ≤ _
              omega
        · cases h
      · cases h
section
variable {P : Program} {w : World} {K : PySem.W.Frag} {mg : Str → Option Value} {base : Heap} {f : Addr} {fd : FuncData}
def spLineR (K : PySem.W.Frag) : Sp := fun vs H Q _ => ∃ (B : Hp) (R p q : Addr) (r : Raw) (l : List LRow) (ws : List Str), vs = [.ref R, .ref p, .ref q] ∧ LogH K B H p l ∧ RawAt K B R r ∧ RawOk r ∧ CapL r l ∧ B q = some (.lst (strsV ws)) ∧ (∀ w ∈ ws, w.length ≤ 10000) ∧ ws ≠ [] ∧ l.length ≤ 20000 ∧
  (lineP r l ws = none → ∀ H', LogH K B H' p l → Q (.bl false) H') ∧ (∀ l', lineP r l ws = some l' → ∀ H', LogH K B H' p l' → Q (.bl true) H')
theorem sc_law_line_right : FnScope ["raw", "log", "words", "name", "whole", "move", "waves", "sign"] ["raw", "log", "words"] (defScope s_law_line_right) := ⟨rfl, rfl, rfl, by decide +kernel, rfl, by decide +kernel, by decide +kernel⟩
theorem ok_law_line_right (W : Wld K mg) (F : FnP K "_law_line_right" s_law_line_right f fd) : FnOk P w K mg base CX0 2 f fd ["raw", "log", "words"] (spLineR K) := by
  have C_law_figure : Cal P w K mg base 1 "_law_figure" ["word"] spFig := c_law_figure W
  refine F.ok sc_law_line_right (fun vs H Q E h => ?_) (fun cdv A outer s H vs Q E hr h => ?_)
  · obtain ⟨B, R, p, q, r, l, ws, rfl, _⟩ := h
    rfl
  obtain ⟨B, R, p, q, r, l, ws, rfl, hL, hR, hok, hcap, hq, hw, hne, ll, k1, k2⟩ := h
  refine ⟨_, PSs.nox (pss_cons (ps_set (i := 3) sc_law_line_right.nd rfl (.inl rfl) (pe_ifExp (pt_cmpR (XQ.op_eqP hr.units) (pv 1) (pe_lst pa_nil) (nomark _)) (pe_ix ix_tup (pe_ix ix_list (pe_ix ix_list (pv 0) pe_int (fun _ _ => rfl)) pe_int (fun _ _ => rfl)) pe_int (fun _ _ => rfl)) (pe_ix ix_tup (pe_ix ix_list (pe_ix ix_list (pv 0) pe_int (fun _ _ => rfl)) (pe_ix ix_tup (pe_ix ix_list (pv 1) (pe_un un_neg pe_int) (fun _ _ => rfl)) pe_int (fun _ _ => rfl)) (fun _ _ => rfl)) pe_int (fun _ _ => rfl))))
    (pss_cons (ps_set (i := 4) sc_law_line_right.nd rfl (.inl rfl) (pe_or (pe_cmpR (XQ.op_eqP hr.units) (pv 1) (pe_lst pa_nil) (nomark _)) (pe_one (pe_cmpR op_eq (pe_callB call_len_seq (by rfl) W.n_len (by decide +kernel) (pa_cons (pe_ix ix_tup (pe_ix ix_list (pv 1) (pe_un un_neg pe_int) (fun _ _ => rfl)) pe_int (fun _ _ => rfl)) pa_nil)) (pe_callB call_len_seq (by rfl) W.n_len (by decide +kernel) (pa_cons (pe_ix ix_list (pv 0) pe_int (fun _ _ => rfl)) pa_nil)) (nomark _)))))
    (pss_cons (ps_if (PW.pt (pw_and (pt_cmpR op_eq (pe_ix ix_list (pv 2) pe_int (fun _ _ => rfl)) pe_str (nomark _)) (pw_and (pt_cmpR op_eq (pe_callB call_len_seq (by rfl) W.n_len (by decide +kernel) (pa_cons (pv 2) pa_nil)) pe_int (nomark _)) (pw_and1 (pt_val (pv 4))))))
    (pss_cons (ps_set (i := 5) sc_law_line_right.nd rfl (.inl rfl) (pe_c C_law_figure (hr.mono (by decide)) (pa_cons (pe_ix ix_list (pv 2) pe_int (fun _ _ => rfl)) pa_nil)))
    (pss_cons (ps_if (PW.pt (pw_or (pt_cmpR op_isN (pv 5) pe_non (nomark _)) (pw_or (pt_cmpR op_ge (pv 5) (pe_callB call_len_seq (by rfl) W.n_len (by decide +kernel) (pa_cons (pe_ix ix_list (pv 0) pe_int (fun _ _ => rfl)) pa_nil)) (nomark _)) (pw_or (pt_cmpR op_ne (pe_ix ix_list (pv 2) pe_int (fun _ _ => rfl)) (pv 3) (nomark _)) (pw_or1 (pt_cmpR op_ne (pe_ix ix_tup (pe_ix ix_list (pe_ix ix_list (pv 0) pe_int (fun _ _ => rfl)) (pv 5) (fun _ _ => rfl)) pe_int (fun _ _ => rfl)) (pv 3) (nomark _)))))))
    (pss_one (ps_ret pe_bl))
    pss_nil)
    (pss_cons (ps_expr (pe_bm PySem.F.plainAttrs_list PySem.F.slot_list_append PySem.F.type_list_append mt_append (pv 1) (pa_cons (pe_tup (pa_cons (pv 3) (pa_cons (pv 5) (pa_cons (pe_lst pa_nil) pa_nil)))) pa_nil)))
    (pss_one (ps_ret pe_bl)))))
    pss_nil)
    (pss_cons (ps_if (PW.pt (pw_or (pt_cmpR op_ne (pe_ix ix_list (pv 2) pe_int (fun _ _ => rfl)) pe_str (nomark _)) (pw_or (pt_cmpR op_ne (pe_callB call_len_seq (by rfl) W.n_len (by decide +kernel) (pa_cons (pv 2) pa_nil)) pe_int (nomark _)) (pw_or (pt_val (pv 4)) (pw_or1 (pt_cmpR op_eq (pe_ix ix_list (pv 2) pe_int (fun _ _ => rfl)) pe_str (nomark _)))))))
    (pss_one (ps_ret pe_bl))
    pss_nil)
    (pss_cons (ps_set (i := 6) sc_law_line_right.nd rfl (.inl rfl) (pe_ix ix_tup (pe_ix ix_list (pv 1) (pe_un un_neg pe_int) (fun _ _ => rfl)) pe_int (fun _ _ => rfl)))
    (pss_cons (ps_if (PW.pt (pw_or (pt_cmpR op_ne (pe_ix ix_list (pv 2) pe_int (fun _ _ => rfl)) (pe_ix ix_list (pe_ix ix_list (pv 0) pe_int (fun _ _ => rfl)) (pe_callB call_len_seq (by rfl) W.n_len (by decide +kernel) (pa_cons (pv 6) pa_nil)) (fun _ _ => rfl)) (nomark _)) (pw_or1 (pt_not (pt_val (pe_callB (cr_all rfl) (by rfl) W.n_all (by decide +kernel) (pa_cons (pe_lc (own := [("sign", 7)]) (g := gName 7) (tt := tYes) (te := (tOp rInS (tVar 7) (tC (.str "01")))) rfl sc_law_line_right.nd (pi_str (pe_ix ix_list (pv 2) pe_int (fun _ _ => rfl))) (blkOk_by (N := ["raw", "log", "words", "name", "whole", "move", "waves", "sign"]) (sc := defScope s_law_line_right) (by decide +kernel)) (fun _ _ _ _ _ => pg_name (i := 7) sc_law_line_right.nd rfl (Or.inl rfl)) (fun _ _ _ _ _ => pts_nil) (fun _ _ _ _ _ => (pe_cmpR op_in_str (pv 7) pe_str (by rfl)))) pa_nil)))))))
    (pss_one (ps_ret pe_bl))
    pss_nil)
    (pss_cons (ps_expr (pe_bm PySem.F.plainAttrs_list PySem.F.slot_list_append PySem.F.type_list_append mt_append (pv 6) (pa_cons (pe_tup (pa_cons (pe_ix ix_list (pv 2) pe_int (fun _ _ => rfl)) (pa_cons (pe_lc (own := [("sign", 7)]) (g := gName 7) (tt := tYes) (te := (tCB XT7.rIntS (tCons (tVar 7) tNil))) rfl sc_law_line_right.nd (pi_str (pe_ix ix_list (pv 2) pe_int (fun _ _ => rfl))) (blkOk_by (N := ["raw", "log", "words", "name", "whole", "move", "waves", "sign"]) (sc := defScope s_law_line_right) (by decide +kernel)) (fun _ _ _ _ _ => pg_name (i := 7) sc_law_line_right.nd rfl (Or.inl rfl)) (fun _ _ _ _ _ => pts_nil) (fun _ _ _ _ _ => (pe_callTy call_int_str (by rfl) W.n_int (by decide +kernel) (pa_cons (pv 7) pa_nil)))) pa_nil))) pa_nil)))
    (pss_one (ps_ret pe_bl))))))))), ?_⟩
  have eB : ∀ {H' : Hp}, Ex H H' → Ex B H' := fun e => hL.ex.trans e
  obtain ⟨p1, p2, p3, p4, r0, r1, r2, ys, zs, r3, r4, r5, r6⟩ := hR
  have zl : zs.length = r.mvs.length := by rw [r6.length, List.length_map]
  -- the name
  refine p_key (F := fun σ' H' => Ex H H' ∧ σ' = [some (.ref R), some (.ref p), some (.ref q), some (.str (stAfter r l)), none, none, none, none]) (fun Nx key => ?_) ?_
  · refine ⟨_, rfl, by show 0 ≤ sizeLine; omega, fun z1 hz1 => ?_⟩
    have e1 : Ex H (upd H z1 (.lst [])) := (Ex.refl H).new hz1
    have z1e : upd H z1 (.lst []) z1 = some (.lst []) := upd_same
    generalize upd H z1 (.lst []) = H1 at e1 z1e ⊢
    have hL1 := hL.mono e1
    refine rd_eqNilL hL1.den z1e ⟨_, rfl, ?_⟩
    rcases id hL1 with ⟨rfl, _⟩ | ⟨l0, y, vs, t, a, us, rfl, hO⟩
    · obtain ⟨s0, ss, es⟩ : ∃ s0 ss, r.sts = s0 :: ss := by
        cases h : r.sts with
        | nil => exact absurd h hok.s0
        | cons a b => exact ⟨a, b, rfl⟩
      obtain ⟨vz, hvz, dvz⟩ := r4.get' (i := 0) (d := stT s0) (by rw [es]; rfl)
      obtain ⟨u, rfl, hu⟩ := den_st (dvz.mono (eB e1).kp)
      refine iteT ⟨_, rfl, R, _, 2, .ref p3, rfl, rfl, SqL.of (eB e1 _ _ r0), rfl, p3, _, 0, .ref u, rfl, rfl, SqL.of (eB e1 _ _ r3), atI_nat (j := 0) hvz, u, _, 0, _, rfl, rfl, hu, rfl, ?_⟩
      refine key _ _ ⟨e1, ?_⟩
      have es0 : stAfter r [] = s0.1 := by
        rw [st_nilL]
        unfold st0
        rw [es]
        rfl
      rw [es0]
      rfl
    · refine ite2 (fun z => absurd z (by simp)) fun _ => ?_
      obtain ⟨cm, cw⟩ := hcap y (by simp)
      have hm : r.mvs[y.2.1]? = some r.mvs[y.2.1] := List.getElem?_eq_getElem cm
      generalize r.mvs[y.2.1] = mv at hm
      obtain ⟨vz, hvz, dvz⟩ := r6.get' (i := y.2.1) (d := stT mv) (by rw [List.getElem?_map, hm]; rfl)
      obtain ⟨u, rfl, hu⟩ := den_st (dvz.mono (eB e1).kp)
      refine ⟨_, rfl, R, _, 3, .ref p4, rfl, rfl, SqL.of (eB e1 _ _ r0), rfl, _, rfl, _, rfl, p, _, -1, .ref t, rfl, rfl, SqL.of hO.pa, atI_last _ _, t, _, 1, _, rfl, rfl, SqT.of hO.ta, rfl, ?_⟩
      refine ⟨p4, _, _, .ref u, rfl, rfl, SqL.of (eB e1 _ _ r5), atI_nat hvz, u, _, 2, _, rfl, rfl, hu, rfl, ?_⟩
      refine key _ _ ⟨e1, ?_⟩
      have es0 : stAfter r (l0 ++ [y]) = mv.2.2 := by
        rw [st_snoc]
        unfold nextK
        rw [hm]
        rfl
      rw [es0]
      rfl
  rintro σ1 H1 ⟨e1, rfl⟩
  -- the row is whole
  refine p_key (F := fun σ' H' => Ex H H' ∧ σ' = [some (.ref R), some (.ref p), some (.ref q), some (.str (stAfter r l)), some (.bl (wholeL r l)), none, none, none]) (fun Nx key => ?_) ?_
  · refine ⟨_, rfl, by show 0 ≤ sizeLine; omega, fun z1 hz1 => ?_⟩
    have e2 : Ex H (upd H1 z1 (.lst [])) := e1.new hz1
    have z1e : upd H1 z1 (.lst []) z1 = some (.lst []) := upd_same
    generalize upd H1 z1 (.lst []) = H2 at e2 z1e ⊢
    have hL1 := hL.mono e2
    refine rd_eqNilL hL1.den z1e ⟨_, rfl, ?_⟩
    rcases id hL1 with ⟨rfl, _⟩ | ⟨l0, y, vs, t, a, us, rfl, hO⟩
    · exact iteT (key _ _ ⟨e2, rfl⟩)
    · refine ite2 (fun z => absurd z (by simp)) fun _ => ?_
      obtain ⟨cm, cw⟩ := hcap y (by simp)
      refine ⟨_, rfl, _, rfl, p, _, -1, .ref t, rfl, rfl, SqL.of hO.pa, atI_last _ _, t, _, 2, .ref a, rfl, rfl, SqT.of hO.ta, rfl, a, us, rfl, .inl (SqL.of hO.wa), _, rfl, R, _, 1, .ref p2, rfl, rfl, SqL.of (eB e2 _ _ r0), rfl, p2, _, rfl, .inl (SqL.of (eB e2 _ _ r2)), rfl, ?_⟩
      refine key _ _ ⟨e2, ?_⟩
      rw [whole_snoc, dec_i, hO.wn, strs_len]
      have : decide (r.lam.length ≤ y.2.2.length) = decide ((y.2.2.length : Int) = (r.lam.length : Int)) := decide_eq_decide.mpr (by omega)
      rw [this]
      rfl
  rintro σ2 H2 ⟨e2, rfl⟩
  have hq2 := eB e2 _ _ hq
  obtain ⟨w0, wt, rfl⟩ : ∃ w0 t, ws = w0 :: t := by
    cases ws with
    | nil => exact absurd rfl hne
    | cons a b => exact ⟨a, b, rfl⟩
  -- a move
  refine p_ifkey (F := fun σ' H' => Ex H H' ∧ σ' = [some (.ref R), some (.ref p), some (.ref q), some (.str (stAfter r l)), some (.bl (wholeL r l)), none, none, none] ∧ ¬ (w0 = "move" ∧ (w0 :: wt).length = 3 ∧ wholeL r l = true)) (fun Nx key => ?_) ?_
  · refine ⟨_, rfl, q, _, 0, .str w0, rfl, rfl, SqL.of hq2, atI_nat (j := 0) rfl, rfl, _, rfl, ?_⟩
    rw [dec_s]
    rcases Decidable.em (w0 = "move") with hm | hm
    rotate_left
    · rw [decide_eq_false hm]
      exact iteF (key _ _ ⟨e2, rfl, fun z => hm z.1⟩)
    rw [decide_eq_true hm]
    refine iteT ⟨_, rfl, q, _, rfl, .inl (SqL.of hq2), rfl, _, rfl, ?_⟩
    rw [dec_i, strs_len]
    rcases Decidable.em ((w0 :: wt).length = 3) with h3 | h3
    rotate_left
    · rw [decide_eq_false (by omega : ¬ ((w0 :: wt).length : Int) = 3)]
      exact iteF (key _ _ ⟨e2, rfl, fun z => h3 z.2.1⟩)
    rw [decide_eq_true (by omega : ((w0 :: wt).length : Int) = 3)]
    refine iteT ⟨_, rfl, _, rfl, ?_⟩
    cases hwh : wholeL r l with
    | false => exact iteF (key _ _ ⟨e2, by rw [hwh], fun z => by cases z.2.2.symm.trans hwh⟩)
    | true =>
    refine iteT ?_
    obtain ⟨w1, w2, rfl⟩ : ∃ w1 w2, wt = [w1, w2] := by
      match wt, h3 with
      | [b, c], _ => exact ⟨b, c, rfl⟩
    have b2 := hw w2 (by simp)
    have eqP : lineP r l [w0, w1, w2] = moveP r l w1 w2 := if_pos hm
    rw [eqP] at k1 k2
    have kf : (decide (w1 = stAfter r l) && (numB w2 && mvB r (stAfter r l) (numN w2))) = false → ∀ H', LogH K B H' p l → Q (.bl false) H' := fun h => k1 (by
      unfold moveP
      rw [h, Bool.and_false]
      rfl)
    refine ⟨_, rfl, q, _, 2, .str w2, rfl, rfl, SqL.of hq2, rfl, w2, rfl, by omega, fun H3 e3 => ?_⟩
    have e03 := e2.trans e3
    have hL3 := hL.mono e03
    unfold figV
    cases hn : numB w2 with
    | false =>
      rw [if_neg Bool.false_ne_true]
      exact ⟨_, rfl, rfl, _, rfl, iteT (kf (by rw [hn, Bool.false_and, Bool.and_false]) H3 hL3)⟩
    | true =>
    rw [if_pos rfl]
    rw [hn, Bool.true_and] at kf
    have hq3 := eB e03 _ _ hq
    refine ⟨_, rfl, rfl, _, rfl, iteF ?_⟩
    refine ⟨_, rfl, _, rfl, R, _, 3, .ref p4, rfl, rfl, SqL.of (eB e03 _ _ r0), rfl, p4, _, rfl, .inl (SqL.of (eB e03 _ _ r5)), _, _, rfl, rfl, _, rfl, ?_⟩
    rcases Nat.lt_or_ge (numN w2) r.mvs.length with hlt | hge
    rotate_left
    · rw [decide_eq_true (by rw [zl]; omega)]
      refine iteT (kf ?_ H3 hL3)
      unfold mvB
      rw [List.getElem?_eq_none hge]
      exact Bool.and_false _
    rw [decide_eq_false (by rw [zl]; omega)]
    refine iteF ⟨_, rfl, q, _, 1, .str w1, rfl, rfl, SqL.of hq3, rfl, _, rfl, rfl, _, rfl, ?_⟩
    rw [dec_s]
    rcases Decidable.em (w1 = stAfter r l) with hs | hs
    rotate_left
    · rw [decide_eq_false hs]
      exact iteT (kf (by rw [decide_eq_false hs]; rfl) H3 hL3)
    rw [decide_eq_true hs, Bool.true_and] at kf
    rw [decide_eq_true hs]
    have hm0 : r.mvs[numN w2]? = some r.mvs[numN w2] := List.getElem?_eq_getElem hlt
    generalize r.mvs[numN w2] = mv at hm0
    obtain ⟨vu, hvu, dvu⟩ := r6.get' (i := numN w2) (d := stT mv) (by rw [List.getElem?_map, hm0]; rfl)
    obtain ⟨u, rfl, hu⟩ := den_st (dvu.mono (eB e03).kp)
    refine iteF ⟨_, rfl, R, _, 3, .ref p4, rfl, rfl, SqL.of (eB e03 _ _ r0), rfl, _, rfl, p4, _, _, .ref u, rfl, rfl, SqL.of (eB e03 _ _ r5), atI_nat hvu, u, _, 0, _, rfl, rfl, hu, rfl, _, rfl, rfl, _, rfl, ?_⟩
    rw [dec_s]
    have em : mvB r (stAfter r l) (numN w2) = decide (mv.1 = stAfter r l) := by
      unfold mvB
      rw [hm0]
    rcases Decidable.em (mv.1 = stAfter r l) with hs2 | hs2
    rotate_left
    · rw [decide_eq_false hs2]
      exact iteT (kf (by rw [em, decide_eq_false hs2]) H3 hL3)
    rw [decide_eq_true hs2] at em ⊢
    have k2 := k2 _ (show moveP r l w1 w2 = some (l ++ [(stAfter r l, numN w2, [])]) by
      unfold moveP
      rw [hwh, decide_eq_true hs, hn, em]
      rfl)
    obtain ⟨vs, hp, hds⟩ := hL3.at_
    have vl : vs.length = l.length := by rw [hds.length, List.length_map]
    refine iteF ⟨_, rfl, .inl ⟨rfl, _, SqL.of hp⟩, _, rfl, _, rfl, by show 0 ≤ sizeLine; omega, fun v hv => ⟨by show 3 ≤ sizeLine; rw [sizeLine_eq]; omega, fun t ht => ?_⟩⟩
    have e4 : Ex H3 (upd H3 v (.lst [])) := (Ex.refl H3).new hv
    have v4 : upd H3 v (.lst []) v = some (.lst []) := upd_same
    generalize upd H3 v (.lst []) = H4 at e4 v4 ht ⊢
    have e5 : Ex H4 (upd H4 t (.tup [.str (stAfter r l), .int (numN w2 : Nat), .ref v])) := (Ex.refl H4).new ht
    have t5 : upd H4 t (.tup [.str (stAfter r l), .int (numN w2 : Nat), .ref v]) t = some (.tup [.str (stAfter r l), .int (numN w2 : Nat), .ref v]) := upd_same
    generalize upd H4 t (.tup [.str (stAfter r l), .int (numN w2 : Nat), .ref v]) = H5 at e5 t5 ⊢
    have p5 := e5 _ _ (e4 _ _ hp)
    refine ⟨p, _, _, rfl, rfl, p5, by rw [sizeLine_eq, vl]; omega, ?_⟩
    have pv : v ≠ p := (ne_of_none hp hv).symm
    have pt : t ≠ p := (ne_of_none (e4 _ _ hp) ht).symm
    exact k2 _ (hL3.move hp (fun b o q => by
      obtain ⟨q1, q2⟩ := hid_some.mp q
      exact hid_some.mpr ⟨q1, by rw [upd_ne q1]; exact e5 _ _ (e4 _ _ q2)⟩) upd_same (by rw [upd_ne pt]; exact t5) (by rw [upd_ne pv]; exact e5 _ _ v4) hv)
  rintro σ3 H3 ⟨e3, rfl, hno⟩
  have hq3 := eB e3 _ _ hq
  have hL3 := hL.mono e3
  -- a wave
  refine ⟨_, rfl, q, _, 0, .str w0, rfl, rfl, SqL.of hq3, atI_nat (j := 0) rfl, rfl, _, rfl, ?_⟩
  rw [dec_s]
  have kz : (w0 = "wave" → ∀ w1 w2, wt = [w1, w2] → waveP r l w1 w2 = none) → ∀ H', LogH K B H' p l → Q (.bl false) H' := fun h => k1 (by
    match wt, h, hno with
    | [], _, _ => rfl
    | [_], _, _ => rfl
    | [w1, w2], h, hno =>
      show (if w0 = "move" then moveP r l w1 w2 else if w0 = "wave" then waveP r l w1 w2 else none) = none
      split
      · rename_i hm
        unfold moveP
        rw [if_neg]
        intro z
        exact hno ⟨hm, rfl, (He.ba z).1⟩
      · split
        · rename_i hv
          exact h hv _ _ rfl
        · rfl
    | _ :: _ :: _ :: _, _, _ => rfl)
  rcases Decidable.em (w0 = "wave") with hv | hv
  rotate_left
  · rw [decide_eq_false hv]
    exact iteT (kz (fun z => absurd z hv) H3 hL3)
  rw [decide_eq_true hv]
  refine iteF ⟨_, rfl, q, _, rfl, .inl (SqL.of hq3), rfl, _, rfl, ?_⟩
  rw [dec_i, strs_len]
  rcases Decidable.em ((w0 :: wt).length = 3) with h3 | h3
  rotate_left
  · rw [decide_eq_false (by omega : ¬ ((w0 :: wt).length : Int) = 3)]
    exact iteT (kz (fun _ w1 w2 e => absurd (by rw [e]; rfl) h3) H3 hL3)
  rw [decide_eq_true (by omega : ((w0 :: wt).length : Int) = 3)]
  refine iteF ⟨_, rfl, _, rfl, ?_⟩
  cases hwh : wholeL r l with
  | true =>
    refine iteT (kz (fun _ w1 w2 e => ?_) H3 hL3)
    unfold waveP
    rw [hwh]
    rfl
  | false =>
  obtain ⟨w1, w2, rfl⟩ : ∃ w1 w2, wt = [w1, w2] := by
    match wt, h3 with
    | [b, c], _ => exact ⟨b, c, rfl⟩
  have b2 := hw w2 (by simp)
  refine iteF ⟨_, rfl, q, _, 2, .str w2, rfl, rfl, SqL.of hq3, rfl, rfl, _, rfl, ?_⟩
  rw [dec_s]
  rcases Decidable.em (w2 = "") with hs | hs
  · rw [decide_eq_true hs]
    refine iteT (kz (fun _ _ z e => ?_) H3 hL3)
    obtain rfl : w2 = z := by cases e; rfl
    unfold waveP
    rw [decide_eq_true hs, hwh]
    rfl
  rw [decide_eq_false hs]
  have eqP : lineP r l [w0, w1, w2] = waveP r l w1 w2 := by
    subst hv
    rfl
  rw [eqP] at k1 k2
  have kf : (lamB r l w1 && bitsB w2) = false → ∀ H', LogH K B H' p l → Q (.bl false) H' := fun h => k1 (by
    unfold waveP
    rw [h, Bool.and_false, Bool.and_false]
    rfl)
  rcases id hL3 with ⟨rfl, _⟩ | ⟨l0, y, ys, t, a, vs, rfl, hO⟩
  · cases hwh
  refine iteF ⟨_, rfl, _, rfl, p, _, -1, .ref t, rfl, rfl, SqL.of hO.pa, atI_last _ _, t, _, 2, .ref a, rfl, rfl, SqT.of hO.ta, rfl, ?_⟩
  have wn := hO.wn
  rw [whole_snoc] at hwh
  have wl : y.2.2.length < r.lam.length := by
    have := of_decide_eq_false hwh
    omega
  rw [lam_snoc] at kf
  obtain ⟨sg, hsg⟩ : ∃ sg, r.lam[y.2.2.length]? = some sg := ⟨_, List.getElem?_eq_getElem wl⟩
  have hsg2 : atI (strsV r.lam) ((vs.length : Nat) : Int) = some (.str sg) := atI_nat (by
    rw [wn]
    unfold strsV
    rw [List.getElem?_map, hsg]
    rfl)
  refine ⟨_, rfl, q, _, 1, .str w1, rfl, rfl, SqL.of hq3, rfl, _, rfl, R, _, 1, .ref p2, rfl, rfl, SqL.of (eB e3 _ _ r0), rfl, _, rfl, a, _, rfl, .inl (SqL.of hO.wa), p2, _, _, .str sg, rfl, rfl, SqL.of (eB e3 _ _ r2), hsg2, rfl, _, rfl, ?_⟩
  rw [dec_s]
  rw [hsg] at kf
  rcases Decidable.em (w1 = sg) with hs1 | hs1
  rotate_left
  · rw [decide_eq_false hs1]
    exact iteT (kf (by rw [decide_eq_false fun z => hs1 (Option.some.inj z).symm]; rfl) H3 hL3)
  subst hs1
  rw [decide_eq_true rfl, Bool.true_and] at kf
  rw [decide_eq_true rfl]
  have hcl : w2.cps.size ≤ 10000 := b2
  refine iteF ⟨_, rfl, q, _, 2, .str w2, rfl, rfl, SqL.of hq3, rfl, w2, rfl, fun D hD => ?_⟩
  refine lc_bools walk_str (atB bitB w2.cps.toList) (by rw [sizeLine_eq]; omega) hD (fun _ _ => trivial) ?_ ?_
  · rintro i v H4 H5 Q2 hi e4 ⟨rfl, c', hc', rfl⟩ q
    refine ⟨rfl, ?_⟩
    refine ⟨_, rfl, _, _, rfl, rfl, ?_⟩
    rw [atB_some (cps_get hc')] at q
    have w := q _ (Ex.refl _)
    rw [← bit_in] at w
    exact w
  intro H4 h4 e4
  have e04 := e3.trans e4
  refine ⟨D, _, rfl, SqL.of h4, ?_⟩
  rw [show w2.cps.size = w2.cps.toList.length from Array.length_toList.symm, all_at]
  have hL4 := hL3.mono e4
  have hO4 := hO.mono e4
  cases hb : bitsB w2 with
  | false =>
    have hb' : w2.cps.toList.all bitB = false := hb
    rw [hb']
    exact ⟨_, rfl, iteT (kf hb H4 hL4)⟩
  | true =>
  have hb' : w2.cps.toList.all bitB = true := hb
  rw [hb']
  refine ⟨_, rfl, iteF ?_⟩
  have hq4 := eB e04 _ _ hq
  have bits : ∀ c ∈ w2.cps.toList, c = 48 ∨ c = 49 := fun c hc => by
    have := List.all_eq_true.mp hb' c hc
    unfold bitB at this
    simpa using this
  refine ⟨_, rfl, .inl ⟨rfl, _, SqL.of hO4.wa⟩, _, rfl, q, _, 1, .str w1, rfl, rfl, SqL.of hq4, rfl, _, rfl, q, _, 2, .str w2, rfl, rfl, SqL.of hq4, rfl, w2, rfl, fun D2 hD2 => ?_⟩
  refine lc_map walk_str (fun i v _ => ∃ c, w2.cps.toList[i]? = some c ∧ v = .int (c - 48 : Nat)) (by rw [sizeLine_eq]; omega) hD2 (fun _ _ => trivial) (fun _ _ _ _ q _ => q) ?_ ?_
  · rintro i v H5 H6 Q2 hi e5 ⟨rfl, c', hc', rfl⟩ qq
    have hc2 := cps_get hc'
    refine ⟨rfl, _, rfl, ?_⟩
    rcases bits c' (List.mem_of_getElem? hc2) with rfl | rfl
    · exact ⟨"0", 0, rfl, by decide +kernel, by decide +kernel, qq _ _ (Ex.refl _) ⟨48, hc2, rfl⟩⟩
    · exact ⟨"1", 1, rfl, by decide +kernel, by decide +kernel, qq _ _ (Ex.refl _) ⟨49, hc2, rfl⟩⟩
  intro H5 us h5 ul e5 hu
  have eus : us = intsV (bitsN w2) := by
    refine List.ext_getElem? fun i => ?_
    unfold intsV bitsN
    cases e : us[i]? with
    | none =>
      rw [List.getElem?_eq_none_iff] at e
      symm
      rw [List.getElem?_eq_none_iff, List.length_map, List.length_map, Array.length_toList]
      omega
    | some v =>
      obtain ⟨c, z1, rfl⟩ := hu i v e
      rw [List.getElem?_map, List.getElem?_map, z1]
      rfl
  rw [eus] at h5
  refine ⟨by show 2 ≤ sizeLine; rw [sizeLine_eq]; omega, fun t2 ht2 => ?_⟩
  have e6 : Ex H5 (upd H5 t2 (.tup [.str w1, .ref D2])) := (Ex.refl H5).new ht2
  have t6 : upd H5 t2 (.tup [.str w1, .ref D2]) t2 = some (.tup [.str w1, .ref D2]) := upd_same
  generalize upd H5 t2 (.tup [.str w1, .ref D2]) = H6 at e6 t6 ⊢
  have e46 := e5.trans e6
  refine ⟨a, _, _, rfl, rfl, e46 _ _ hO4.wa, by rw [wn, sizeLine_eq]; have := hok.ml; omega, ?_⟩
  have Dn : D2 ≠ p ∧ D2 ≠ a := ⟨(ne_of_none hO4.pa hD2).symm, (ne_of_none hO4.wa hD2).symm⟩
  have tn : t2 ≠ p ∧ t2 ≠ a := ⟨(ne_of_none (e5 _ _ hO4.pa) ht2).symm, (ne_of_none (e5 _ _ hO4.wa) ht2).symm⟩
  have k2 := k2 _ (show waveP r (l0 ++ [y]) w1 w2 = some (l0 ++ [(y.1, y.2.1, y.2.2 ++ [(w1, bitsN w2)])]) by
    unfold waveP
    rw [whole_snoc, hwh, decide_eq_false hs, lam_snoc, hsg, decide_eq_true rfl, hb, addW_snoc]
    rfl)
  refine k2 _ (.inr ⟨l0, _, ys, t, a, _, rfl, hO4.wave (y := (w1, bitsN w2)) (v := .ref t2) (fun b o q => ?_) upd_same ?_⟩)
  · obtain ⟨q1, q2⟩ := hid_some.mp q
    exact hid_some.mpr ⟨q1, by rw [upd_ne q1]; exact e46 _ _ q2⟩
  · refine .tup (SqT.of (hid_some.mpr ⟨fun z => z.elim tn.1 tn.2, by rw [upd_ne tn.2]; exact t6⟩)) (.cons (.str _) (.cons (.lst (SqL.of (hid_some.mpr ⟨fun z => z.elim Dn.1 Dn.2, by rw [upd_ne Dn.2]; exact e6 _ _ h5⟩)) (dens_intsI _)) .nil))
theorem c_law_line_right (W : Wld K mg) : Cal P w K mg base 2 "_law_line_right" ["raw", "log", "words"] (spLineR K) := by
  obtain ⟨fd, F⟩ := W.c.def_ 56 rfl
  exact ⟨⟨fd, ok_law_line_right W F, F.bindsN fun _ _ _ _ _ _ us hl => match us, hl with | [_, _, _], _ => rfl⟩, W.g_law_line_right, F.kp⟩
end
end K77

set_option Elab.async false
set_option linter.all false
set_option maxRecDepth 100000
set_option maxHeartbeats 400000
set_option pp.deepTerms.threshold 6
set_option pp.maxSteps 4000
namespace K77
open PySem PySem.Spec PyProof.Rows L2 DL
theorem LogH.less {K : PySem.W.Frag} {B B' H : Hp} {p : Addr} {l : List LRow} (h : LogH K B' H p l) (e : Ex B B') : LogH K B H p l := by
  rcases h with ⟨z, h1, h2, h3⟩ | ⟨l0, x, ys, t, w, ws, z, h⟩
  · exact .inl ⟨z, h1, e.free h2, e.trans h3⟩
  · exact .inr ⟨l0, x, ys, t, w, ws, z, ⟨h.pa, h.pw, h.ta, h.wa, e.free h.bp, e.free h.bw, e.trans h.ex, h.ds, h.dw⟩⟩
theorem ex_both {B H : Hp} {q : Addr} {o : HO} {S : Addr → Prop} (e : Ex B (hid S H)) (hq : H q = none) (hs : ¬ S q) : Ex (upd B q o) (hid S (upd H q o)) := fun b u z => by
  by_cases h : b = q
  · subst h
    rw [upd_same] at z
    cases z
    exact hid_some.mpr ⟨hs, upd_same⟩
  · rw [upd_ne h] at z
    obtain ⟨z1, z2⟩ := hid_some.mp (e _ _ z)
    exact hid_some.mpr ⟨z1, by rw [upd_ne h]; exact z2⟩
theorem LogH.more {K : PySem.W.Frag} {B H : Hp} {p q : Addr} {l : List LRow} {o : HO} (h : LogH K B H p l) (hq : H q = none) : LogH K (upd B q o) (upd H q o) p l := by
  have e : Ex H (upd H q o) := (Ex.refl H).new hq
  rcases h with ⟨z, h1, h2, h3⟩ | ⟨l0, x, ys, t, w, ws, z, h⟩
  · have n := ne_of_none h1 hq
    exact .inl ⟨z, e _ _ h1, by rw [upd_ne n]; exact h2, ex_both h3 hq n.symm⟩
  · have n := ne_of_none h.pa hq
    have n2 := ne_of_none h.wa hq
    have h' := h.mono e
    exact .inr ⟨l0, x, ys, t, w, ws, z, ⟨h'.pa, h.pw, h'.ta, h'.wa, by rw [upd_ne n]; exact h.bp, by rw [upd_ne n2]; exact h.bw, ex_both h.ex hq (fun z => z.elim (fun y => n y.symm) (fun y => n2 y.symm)), h'.ds, h'.dw⟩⟩
theorem last_row (x : Str) : ∃ y, atI (strsV ((rowsL x).map SX.S)) (-1) = some (.str (SX.S y)) ∧ endsB x = decide (SX.S y = "") := by
  obtain ⟨p, q, e⟩ := spl_ne 10 x.cps.toList []
  have e : rowsL x = p :: q := e
  rcases List.eq_nil_or_concat (rowsL x) with h | ⟨l0, y, h⟩
  · rw [e] at h
    cases h
  · rw [List.concat_eq_append] at h
    refine ⟨y, ?_, ?_⟩
    · rw [h]
      unfold strsV
      rw [List.map_append, List.map_append]
      exact atI_last _ _
    · unfold endsB
      rw [h, List.getLast?_concat]
      refine decide_eq_decide.mpr ⟨fun z => ?_, fun z => ?_⟩
      · rw [Option.some.inj z]
        exact str_empty.symm
      · rw [str_empty] at z
        have := congrArg (fun s : Str => s.cps.toList) z
        exact congrArg some this
section
variable {P : Program} {w : World} {K : PySem.W.Frag} {mg : Str → Option Value} {base : Heap} {f : Addr} {fd : FuncData}
def spLRead (K : PySem.W.Frag) : Sp := fun vs H Q _ => ∃ (R : Addr) (r : Raw) (yv : V), vs = [.ref R, yv] ∧ RawAt K H R r ∧ RawOk r ∧
  ((∃ x : Str, yv = .str x ∧ x.length ≤ 10000 ∧ (∀ i : Nat, readP r x = .inl i → ∀ t H', Ex H H' → H' t = some (.tup [.non, .int i]) → Q (.ref t) H') ∧ (∀ l, readP r x = .inr l → ∀ p t H', Ex H H' → Den K true H' (.ref p) (logT l) → H' t = some (.tup [.ref p, .non]) → Q (.ref t) H')) ∨
   (∃ d, Den K true H yv d ∧ isS d = false ∧ ∀ t H', Ex H H' → H' t = some (.tup [.non, .int (0 : Nat)]) → Q (.ref t) H'))
theorem sc_law_read : FnScope ["raw", "text", "rows", "log", "at", "row"] ["raw", "text"] (defScope s_law_read) := ⟨rfl, rfl, rfl, by decide +kernel, rfl, by decide +kernel, by decide +kernel⟩
theorem ok_law_read (W : Wld K mg) (F : FnP K "_law_read" s_law_read f fd) : FnOk P w K mg base CX0 3 f fd ["raw", "text"] (spLRead K) := by
  have C_law_line_right : Cal P w K mg base 2 "_law_line_right" ["raw", "log", "words"] (spLineR K) := c_law_line_right W
  refine F.ok sc_law_read (fun vs H Q E h => ?_) (fun cdv A outer s H vs Q E hr h => ?_)
  · obtain ⟨R, r, yv, rfl, _⟩ := h
    rfl
  obtain ⟨R, r, yv, rfl, hR, hok, h⟩ := h
  refine ⟨_, PSs.nox (pss_cons (ps_if (pt_not (pt_val (pe_callB call_isi (by rfl) W.n_isinstance (by decide +kernel) (pa_cons (pv 1) (pa_cons (pe_bltn (v := .ty "str") (by rfl) W.n_str (by decide +kernel) rfl) pa_nil)))))
    (pss_one (ps_ret (pe_tup (pa_cons pe_non (pa_cons pe_int pa_nil)))))
    pss_nil)
    (pss_cons (ps_par3 (i := 2) (j := 3) (l := 4) rfl sc_law_read.nd rfl rfl rfl (by decide) (by decide) (by decide) rfl rfl rfl (pa_cons (pe_split (pv 1) pe_str) (pa_cons (pe_lst pa_nil) (pa_cons pe_int pa_nil))) (by rfl))
    (pss_cons (ps_for PassesOwn.never rfl (pi_list (pe_slice sl_list (pv 2) po_none (po_some (pe_un un_neg pe_int)))) (pg_name (i := 5) sc_law_read.nd rfl (.inl rfl))
    (pss_cons (ps_if (pt_not (pt_val (pe_c C_law_line_right (hr.mono (by decide)) (pa_cons (pv 0) (pa_cons (pv 3) (pa_cons (pe_split (pv 5) pe_str) pa_nil))))))
    (pss_one (ps_ret (pe_tup (pa_cons pe_non (pa_cons (pv 4) pa_nil)))))
    pss_nil)
    (pss_one (ps_set (i := 4) sc_law_read.nd rfl (.inl rfl) (pe_op op_add (pv 4) pe_int)))))
    (pss_cons (ps_if (PW.pt (pw_or (pt_cmpR op_ne (pe_ix ix_list (pv 2) (pe_un un_neg pe_int) (fun _ _ => rfl)) pe_str (nomark _)) (pw_or1 (PW.pt (pw_and (pt_cmpR (XQ.op_neP hr.units) (pv 3) (pe_lst pa_nil) (nomark _)) (pw_and1 (pt_cmpR op_lt (pe_callB call_len_seq (by rfl) W.n_len (by decide +kernel) (pa_cons (pe_ix ix_tup (pe_ix ix_list (pv 3) (pe_un un_neg pe_int) (fun _ _ => rfl)) pe_int (fun _ _ => rfl)) pa_nil)) (pe_callB call_len_seq (by rfl) W.n_len (by decide +kernel) (pa_cons (pe_ix ix_list (pv 0) pe_int (fun _ _ => rfl)) pa_nil)) (nomark _))))))))
    (pss_one (ps_ret (pe_tup (pa_cons pe_non (pa_cons (pv 4) pa_nil)))))
    pss_nil)
    (pss_one (ps_ret (pe_tup (pa_cons (pv 3) (pa_cons pe_non pa_nil))))))))), ?_⟩
  rcases h with ⟨x, rfl, hx, k1, k2⟩ | ⟨d, hd, hs, k⟩
  rotate_left
  · refine rd_isi rfl hd (kS d) ⟨_, rfl, ?_⟩
    rw [hs]
    refine iteT ⟨by show 2 ≤ sizeLine; rw [sizeLine_eq]; omega, fun t ht => k t _ ((Ex.refl H).new ht) upd_same⟩
  refine rd_isi rfl (.str x : Den K true H (.str x) (.str x)) (kS _) ⟨_, rfl, iteF ?_⟩
  refine ⟨_, rfl, ⟨_, rfl⟩, x, "\n", rfl, rfl, nl_len, by rw [sizeLine_eq]; omega, fun D1 hD1 => ?_⟩
  have e1 : Ex H (upd H D1 (.lst ((Txt.split x "\n").map V.str))) := (Ex.refl H).new hD1
  have y1 : upd H D1 (.lst ((Txt.split x "\n").map V.str)) D1 = some (.lst ((Txt.split x "\n").map V.str)) := upd_same
  generalize upd H D1 (.lst ((Txt.split x "\n").map V.str)) = H1 at e1 y1 ⊢
  have ed : (Txt.split x "\n").map V.str = strsV ((rowsL x).map SX.S) := by
    rw [split_nl]
    rfl
  rw [ed] at y1
  refine ⟨by show 0 ≤ sizeLine; omega, fun p hp => ?_⟩
  have e2 : Ex H1 (upd H1 p (.lst [])) := (Ex.refl H1).new hp
  have y2 : upd H1 p (.lst []) p = some (.lst []) := upd_same
  have pD : p ≠ D1 := (ne_of_none y1 hp).symm
  have e2p : Ex H1 (wo p (upd H1 p (.lst []))) := fun b u q => hid_some.mpr ⟨ne_of_none q hp, e2 b u q⟩
  generalize upd H1 p (.lst []) = H2 at e2 y2 e2p ⊢
  refine ⟨_, _, _, rfl, ?_⟩
  refine ⟨_, rfl, _, rfl, _, rfl, D1, _, rfl, SqL.of (e2 _ _ y1), fun D2 hD2 => ?_⟩
  rw [cut_last]
  have ed2 : (strsV ((rowsL x).map SX.S)).dropLast = strsV ((rowsL x).dropLast.map SX.S) := by
    unfold strsV
    rw [List.map_dropLast, List.map_dropLast]
  rw [ed2]
  have e3 : Ex H2 (upd H2 D2 (.lst (strsV ((rowsL x).dropLast.map SX.S)))) := (Ex.refl H2).new hD2
  have y3 : upd H2 D2 (.lst (strsV ((rowsL x).dropLast.map SX.S))) D2 = some (.lst (strsV ((rowsL x).dropLast.map SX.S))) := upd_same
  have pD2 : D2 ≠ p := (ne_of_none y2 hD2).symm
  generalize upd H2 D2 (.lst (strsV ((rowsL x).dropLast.map SX.S))) = H3 at e3 y3 ⊢
  have HB : Ex H (wo p H3) := e1.trans (e2p.trans (hid_of e3))
  have D1B : wo p H3 D1 = some (.lst (strsV ((rowsL x).map SX.S))) := hid_some.mpr ⟨pD.symm, e3 _ _ (e2 _ _ y1)⟩
  have D2B : wo p H3 D2 = some (.lst (strsV ((rowsL x).dropLast.map SX.S))) := hid_some.mpr ⟨pD2, y3⟩
  have L0 : LogH K (wo p H3) H3 p [] := .inl ⟨rfl, e3 _ _ y2, hid_at rfl, Ex.refl _⟩
  have rc := rows_cnt x
  have rl : (rowsL x).dropLast.length ≤ 10000 := by rw [List.length_dropLast]; omega
  generalize hBe : wo p H3 = B at HB D1B D2B L0
  clear hBe
  have RB := hR.mono HB
  refine ⟨D2, rfl, ⟨_, SqL.of y3⟩, ?_⟩
  refine for_it (walk_list (xs := strsV ((rowsL x).dropLast.map SX.S))) (fun i σ H' => ∃ l o5, σ = [some (.ref R), some (.str x), some (.ref D1), some (.ref p), some (.int (i : Nat)), o5] ∧ LogH K B H' p l ∧ CapL r l ∧ l.length ≤ i ∧ parseL r [] ((rowsL x).dropLast.map wordsL) 0 = parseL r l (((rowsL x).dropLast.map wordsL).drop i) i) ⟨[], _, rfl, L0, cap_nil r, Nat.le_refl _, rfl⟩ (fun i σ H' _ h => ?_) ?_ ?_
  · obtain ⟨l, o5, _, h, _⟩ := h
    exact SqL.of (h.ex _ _ D2B)
  · rintro i u σ H5 H6 hi ⟨l, o5, rfl, hL, hcap, ll, hpar⟩ ⟨rfl, hv⟩
    obtain ⟨z, hz, rfl⟩ := strs_get hv
    rw [List.getElem?_map] at hz
    cases hy : (rowsL x).dropLast[i]? with
    | none => rw [hy] at hz; cases hz
    | some y =>
    rw [hy] at hz
    obtain rfl := Option.some.inj hz
    have hil : i < ((rowsL x).dropLast.map wordsL).length := by rw [List.length_map]; exact (List.getElem?_eq_some_iff.mp hy).1
    have hdrop : ((rowsL x).dropLast.map wordsL).drop i = wordsL y :: ((rowsL x).dropLast.map wordsL).drop (i + 1) := by
      rw [List.drop_eq_getElem_cons hil]
      congr 1
      rw [List.getElem_map]
      congr 1
      exact (List.getElem?_eq_some_iff.mp hy).2
    rw [hdrop] at hpar
    have yl := rowL_len (List.dropLast_subset _ (List.mem_of_getElem? hy))
    refine ⟨_, rfl, _, rfl, _, rfl, ⟨_, rfl⟩, _, " ", rfl, rfl, sp_len, by rw [SX.S_len, sizeLine_eq]; omega, fun q hq => ?_⟩
    rw [split_sp]
    have hL6 := hL.more (o := .lst ((wordsL y).map V.str)) hq
    have eq' : Ex B (upd B q (.lst ((wordsL y).map V.str))) := (Ex.refl B).new (hL.ex.free hq)
    generalize upd H6 q (.lst ((wordsL y).map V.str)) = H7 at hL6 ⊢
    refine ⟨upd B q (.lst ((wordsL y).map V.str)), R, p, q, r, l, wordsL y, rfl, hL6, RB.mono eq', hok, hcap, upd_same, fun w h => Nat.le_trans (words_len h) (by omega), words_ne y, by rw [List.length_map] at hil; omega, fun hn H8 hL7 => ?_, fun l' hn H8 hL7 => ?_⟩
    · refine ⟨_, rfl, iteT ?_⟩
      have hp2 : parseL r [] ((rowsL x).dropLast.map wordsL) 0 = .inl i := by
        rw [hpar]
        show (match lineP r l (wordsL y) with | none => Sum.inl i | some l' => parseL r l' _ (i + 1)) = _
        rw [hn]
      have e7 := (HB.trans eq').trans hL7.ex
      refine ⟨_, rfl, by show 2 ≤ sizeLine; rw [sizeLine_eq]; omega, fun t ht => ?_⟩
      exact k1 i (by unfold readP; rw [hp2]) t _ (e7.new ht) upd_same
    · refine ⟨_, rfl, iteF ?_⟩
      refine ⟨_, rfl, _, _, rfl, rfl, ?_⟩
      refine ⟨l', _, rfl, hL7.less eq', cap_line hcap hn, ?_, ?_⟩
      · have := lineP_len hn
        omega
      · rw [hpar]
        show (match lineP r l (wordsL y) with | none => Sum.inl i | some l' => parseL r l' _ (i + 1)) = _
        rw [hn]
  · rintro σ H5 ⟨l, o5, rfl, hL, hcap, ll, hpar⟩
    have ul : (strsV ((rowsL x).dropLast.map SX.S)).length = (rowsL x).dropLast.length := by rw [strs_len, List.length_map]
    rw [ul, ← List.length_map (f := wordsL) (as := (rowsL x).dropLast), List.drop_length] at hpar
    have hpar : parseL r [] ((rowsL x).dropLast.map wordsL) 0 = .inr l := hpar
    rw [ul]
    obtain ⟨z, hz1, hz2⟩ := last_row x
    have D1' := hL.ex _ _ D1B
    have e05 := HB.trans hL.ex
    have bad := fun (h : (wholeL r l && endsB x) = false) (t : Addr) (H' : Hp) (e : Ex H5 H') (ht : H' t = some (.tup [.non, .int ((rowsL x).dropLast.length : Nat)])) => k1 (rowsL x).dropLast.length (by unfold readP; rw [hpar]; show (if _ then _ else _) = _; rw [h]; rfl) t H' (e05.trans e) ht
    have good := fun (h : (wholeL r l && endsB x) = true) (t : Addr) (H' : Hp) (e : Ex H5 H') (ht : H' t = some (.tup [.ref p, .non])) => k2 l (by unfold readP; rw [hpar]; show (if _ then _ else _) = _; rw [h]; rfl) p t H' (e05.trans e) ((hL.mono e).den) ht
    refine ⟨_, rfl, _, rfl, D1, _, _, _, rfl, rfl, SqL.of D1', hz1, rfl, _, rfl, ?_⟩
    rw [dec_s, ← hz2]
    have two : (2 : Nat) ≤ sizeLine := by rw [sizeLine_eq]; omega
    cases he : endsB x with
    | false =>
      refine iteT ⟨_, rfl, two, fun t ht => ?_⟩
      exact bad (by rw [he, Bool.and_false]) t _ ((Ex.refl H5).new ht) upd_same
    | true =>
    rw [he, Bool.and_true] at bad good
    refine iteF ⟨_, rfl, by show 0 ≤ sizeLine; omega, fun z1 hz1 => ?_⟩
    have e6 : Ex H5 (upd H5 z1 (.lst [])) := (Ex.refl H5).new hz1
    have z1e : upd H5 z1 (.lst []) z1 = some (.lst []) := upd_same
    generalize upd H5 z1 (.lst []) = H6 at e6 z1e ⊢
    have hL6 := hL.mono e6
    refine rd_neNilL hL6.den z1e ⟨_, rfl, ?_⟩
    rcases id hL6 with ⟨rfl, _⟩ | ⟨l0, y, vs, t, a, us, rfl, hO⟩
    · exact iteF (iteF ⟨_, rfl, two, fun t ht => good rfl t _ (e6.new ht) upd_same⟩)
    · refine ite2 (fun _ => ?_) (fun z => absurd (by simp) z)
      obtain ⟨cm, cw⟩ := hcap y (by simp)
      have eB := hL6.ex
      obtain ⟨p1, p2, p3, p4, r0, r1, r2, _⟩ := RB
      refine ⟨_, rfl, _, rfl, p, _, -1, .ref t, rfl, rfl, SqL.of hO.pa, atI_last _ _, t, _, 2, .ref a, rfl, rfl, SqT.of hO.ta, rfl, a, us, rfl, .inl (SqL.of hO.wa), _, rfl, R, _, 1, .ref p2, rfl, rfl, SqL.of (eB _ _ r0), rfl, p2, _, rfl, .inl (SqL.of (eB _ _ r2)), _, _, rfl, rfl, _, rfl, ?_⟩
      rw [hO.wn, strs_len]
      rw [whole_snoc] at bad good
      rcases Nat.lt_or_ge y.2.2.length r.lam.length with h | h
      · rw [decide_eq_true (by omega : (y.2.2.length : Int) < (r.lam.length : Int))]
        exact iteT ⟨_, rfl, two, fun t ht => bad (decide_eq_false (by omega)) t _ (e6.new ht) upd_same⟩
      · rw [decide_eq_false (by omega : ¬ (y.2.2.length : Int) < (r.lam.length : Int))]
        exact iteF ⟨_, rfl, two, fun t ht => good (decide_eq_true h) t _ (e6.new ht) upd_same⟩
theorem c_law_read (W : Wld K mg) : Cal P w K mg base 3 "_law_read" ["raw", "text"] (spLRead K) := by
  obtain ⟨fd, F⟩ := W.c.def_ 57 rfl
  exact ⟨⟨fd, ok_law_read W F, F.bindsN fun _ _ _ _ _ _ us hl => match us, hl with | [_, _], _ => rfl⟩, W.g_law_read, F.kp⟩
end
end K77

set_option Elab.async false
set_option linter.all false
set_option maxRecDepth 100000
set_option maxHeartbeats 400000
set_option pp.deepTerms.threshold 6
set_option pp.maxSteps 4000
namespace K77
open PySem PySem.Spec PyProof.Rows L2 DL
/-! ### a text bent -/
def wt (us : List Str) : Nat := (us.map fun s => s.length + 1).sum
theorem wt_cons (u : Str) (us : List Str) : wt (u :: us) = (u.length + 1) + wt us := by
  unfold wt
  rw [List.map_cons, List.sum_cons]
theorem wt_app (us vs : List Str) : wt (us ++ vs) = wt us + wt vs := by
  induction us with
  | nil => rw [List.nil_append, show wt [] = 0 from rfl]; omega
  | cons a us ih => rw [List.cons_append, wt_cons, wt_cons, ih]; omega
theorem wt_set {s : Str} : ∀ {us : List Str} {i : Nat} {u : Str}, us[i]? = some u → wt (us.set i s) + u.length = wt us + s.length
  | a :: us, 0, u, h => by
    obtain rfl := Option.some.inj h
    rw [List.set_cons_zero, wt_cons, wt_cons]
    omega
  | a :: us, i + 1, u, h => by
    have ih := wt_set (s := s) (us := us) (i := i) (u := u) (by simpa using h)
    rw [List.set_cons_succ, wt_cons, wt_cons]
    omega
theorem wt_mem {u : Str} : ∀ {us : List Str}, u ∈ us → u.length + 1 ≤ wt us
  | a :: us, h => by
    rw [wt_cons]
    rcases List.mem_cons.mp h with rfl | h
    · omega
    · have := wt_mem h
      omega
theorem wt_erase : ∀ {us : List Str} {i : Nat} {u : Str}, us[i]? = some u → wt (us.eraseIdx i) + (u.length + 1) = wt us
  | a :: us, 0, u, h => by
    obtain rfl := Option.some.inj h
    rw [List.eraseIdx_cons_zero, wt_cons]
    omega
  | a :: us, i + 1, u, h => by
    have ih := wt_erase (us := us) (i := i) (u := u) (by simpa using h)
    rw [List.eraseIdx_cons_succ, wt_cons, wt_cons]
    omega
theorem wt_ins (us : List Str) (i : Nat) (s : Str) : wt (us.take i ++ [s] ++ us.drop i) = wt us + s.length + 1 := by
  have e : wt us = wt (us.take i) + wt (us.drop i) := by rw [← wt_app, List.take_append_drop]
  rw [wt_app, wt_app, e, wt_cons, show wt [] = 0 from rfl]
  omega
theorem wt_len (us : List Str) : us.length ≤ wt us := by
  induction us with
  | nil => exact Nat.zero_le _
  | cons a us ih => rw [wt_cons, List.length_cons]; omega
theorem wt_join (us : List Str) : (Txt.join "" (us.map fun s => s ++ ("\n" : Str))).length = wt us := by
  have e : us.map (fun s => s ++ ("\n" : Str)) = (us.map fun s => s.cps.toList ++ [10]).map SX.S := by
    rw [List.map_map]
    refine List.map_congr_left fun s _ => ?_
    refine TL.ext_tl ?_
    rw [TL.tl_append]
    rfl
  rw [e, join_all, SX.S_len]
  induction us with
  | nil => rfl
  | cons a us ih =>
    rw [wt_cons, List.map_cons, List.flatten_cons, List.length_append, List.length_append]
    have h := ih (by
      rw [List.map_map]
      refine List.map_congr_left fun s _ => ?_
      refine TL.ext_tl ?_
      rw [TL.tl_append]
      rfl)
    rw [h]
    rfl
theorem spl_wt (c : Nat) : ∀ (l acc : List Nat), ((TL.spl [c] 0 acc l).dropLast.map fun y => y.length + 1).sum ≤ acc.length + l.length
  | [], acc => by rw [TL.spl_nil]; exact Nat.zero_le _
  | d :: r, acc => by
    rw [spl1]
    split
    · obtain ⟨p, q, e⟩ := spl_ne c r []
      have ih := spl_wt c r []
      rw [e] at ih ⊢
      rw [List.dropLast_cons_cons, List.map_cons, List.sum_cons, List.length_cons]
      simp only [List.length_nil] at ih
      omega
    · have ih := spl_wt c r (acc ++ [d])
      rw [List.length_append] at ih
      rw [List.length_cons]
      simp only [List.length_cons, List.length_nil] at ih
      omega
theorem rows_wt (x : Str) : wt ((rowsL x).dropLast.map SX.S) ≤ x.length := by
  have h := spl_wt 10 x.cps.toList []
  have e : x.cps.toList.length = x.length := Array.length_toList
  unfold wt
  rw [List.map_map]
  have e2 : ((fun s : Str => s.length + 1) ∘ SX.S) = fun y => y.length + 1 := by
    funext y
    show (SX.S y).length + 1 = _
    rw [SX.S_len]
  rw [e2]
  simp only [List.length_nil] at h
  unfold rowsL
  omega
theorem strs_set (us : List Str) (i : Nat) (s : Str) : (strsV us).set i (.str s) = strsV (us.set i s) := by
  unfold strsV
  rw [List.map_set]
theorem strs_erase : ∀ (us : List Str) (i : Nat), (strsV us).eraseIdx i = strsV (us.eraseIdx i)
  | [], i => by cases i <;> rfl
  | u :: us, 0 => rfl
  | u :: us, i + 1 => by
    have ih := strs_erase us i
    show V.str u :: (strsV us).eraseIdx i = V.str u :: strsV (us.eraseIdx i)
    rw [ih]
theorem strs_mem {v : V} {l : List Str} (h : v ∈ strsV l) : ∃ y ∈ l, v = .str y := by
  obtain ⟨y, hy, rfl⟩ := List.mem_map.mp h
  exact ⟨y, hy, rfl⟩
theorem strs_ins (us : List Str) (i : Nat) (s : Str) : (strsV us).take i ++ [V.str s] ++ (strsV us).drop i = strsV (us.take i ++ [s] ++ us.drop i) := by
  unfold strsV
  rw [List.map_append, List.map_append, List.map_take, List.map_drop]
  rfl
theorem dps_strs {K : PySem.W.Frag} {H : Hp} : ∀ us : List Str, DpAll K H (strsV us) (us.map PyData.str) ∧ PyData.plainAll (us.map PyData.str) = true
  | [] => ⟨.nil, rfl⟩
  | u :: us => ⟨.cons (.str u) (dps_strs us).1, by simp [PyData.plainAll, PyData.plain, (dps_strs (K := K) (H := H) us).2]⟩
theorem rd_eqStrs {K : PySem.W.Frag} {H : Hp} {p t : Addr} {us : List Str} {Q : VK} (hp : SqL K H p (strsV us)) (ht : H t = some (.lst [])) (q : Q (.bl us.isEmpty) H) : XQ.rEqP K (.ref p) (.ref t) H Q := by
  have e0 : us.isEmpty = (us.map PyData.str).isEmpty := by cases us <;> rfl
  rw [e0, ← eqv_nilL] at q
  obtain ⟨d1, d2⟩ := dps_strs (K := K) (H := H) us
  exact ⟨.list _, .list [], .lst hp d1, .lst (SqL.of ht) .nil, by simp [PyData.plain, d2], by decide, by simp [PyData.depth, PyData.depthAll], q⟩
section
variable {P : Program} {w : World} {K : PySem.W.Frag} {mg : Str → Option Value} {base : Heap} {f : Addr} {fd : FuncData}
def spBentT (K : PySem.W.Frag) : Sp := fun vs H Q _ => ∃ (a c : Addr) (N : Nat) (x : Str), vs = [.ref a, .str x] ∧ StAt H a c N ∧ N + 10 < 1099511627776 ∧ x.length ≤ 4000 ∧ ∀ (y : Str) H', y.length ≤ 3 * x.length + 10 → StAt H' a c (N + 10) → Bar a c H H' → Q (.str y) H'
theorem sc_law_bent : FnScope ["state", "text", "rows", "at", "way", "spot", "row"] ["state", "text"] (defScope s_law_bent) := ⟨rfl, rfl, rfl, by decide +kernel, rfl, by decide +kernel, by decide +kernel⟩
theorem ok_law_bent (W : Wld K mg) (F : FnP K "_law_bent" s_law_bent f fd) : FnOk P w K mg base CX0 4 f fd ["state", "text"] (spBentT K) := by
  have C_law_pick : Cal P w K mg base 2 "_law_pick" ["state", "many"] spPick := c_law_pick W
  have C_law_one : Cal P w K mg base 3 "_law_one" ["state", "things"] (spOne K) := c_law_one W
  refine F.ok sc_law_bent (fun vs H Q E h => ?_) (fun cdv A outer s H vs Q E hr h => ?_)
  · obtain ⟨a, c, N, x, rfl, _⟩ := h
    rfl
  obtain ⟨a, c, N, x, rfl, hS, hN, hx, k⟩ := h
  refine ⟨_, PSs.nox (pss_cons (ps_set (i := 2) sc_law_bent.nd rfl (.inl rfl) (pe_slice sl_list (pe_split (pv 1) pe_str) po_none (po_some (pe_un un_neg pe_int))))
    (pss_cons (ps_if (pt_cmpR (XQ.op_eqP hr.units) (pv 2) (pe_lst pa_nil) (nomark _))
    (pss_one (ps_ret (pe_c C_law_one (hr.mono (by decide)) (pa_cons (pv 0) (pa_cons (pe_lst (pa_cons pe_str (pa_cons pe_str (pa_cons pe_str (pa_cons pe_str (pa_cons pe_str (pa_cons pe_str pa_nil))))))) pa_nil)))))
    pss_nil)
    (pss_cons (ps_par (i := 3) (j := 4) rfl sc_law_bent.nd rfl rfl (by decide) rfl rfl (pa_cons (pe_c C_law_pick (hr.mono (by decide)) (pa_cons (pv 0) (pa_cons (pe_callB call_len_seq (by rfl) W.n_len (by decide +kernel) (pa_cons (pv 2) pa_nil)) pa_nil))) (pa_cons (pe_c C_law_pick (hr.mono (by decide)) (pa_cons (pv 0) (pa_cons pe_int pa_nil))) pa_nil)) (by rfl))
    (pss_cons (ps_set (i := 5) sc_law_bent.nd rfl (.inl rfl) (pe_c C_law_pick (hr.mono (by decide)) (pa_cons (pv 0) (pa_cons (pe_callB (call_max2 rfl) (by rfl) W.n_max (by decide +kernel) (pa_cons pe_int (pa_cons (pe_callB call_len_str (by rfl) W.n_len (by decide +kernel) (pa_cons (pe_ix ix_list (pv 2) (pv 3) (fun _ _ => rfl)) pa_nil)) pa_nil))) pa_nil))))
    (pss_cons (ps_if (pt_cmpR op_eq (pv 4) pe_int (nomark _))
    (pss_one (ps_asg (pe_op op_add_str (pe_op op_add_str (pe_slice sl_str (pe_ix ix_list (pv 2) (pv 3) (fun _ _ => rfl)) po_none (po_some (pv 5))) (pe_c C_law_one (hr.mono (by decide)) (pa_cons (pv 0) (pa_cons (pe_lst (pa_cons pe_str (pa_cons pe_str (pa_cons pe_str (pa_cons pe_str (pa_cons pe_str (pa_cons pe_str (pa_cons pe_str (pa_cons pe_str pa_nil))))))))) pa_nil)))) (pe_slice sl_str (pe_ix ix_list (pv 2) (pv 3) (fun _ _ => rfl)) (po_some (pe_op op_add (pv 5) pe_int)) po_none)) (pg_sub (pv 2) (pv 3) set_list)))
    (pss_one (ps_if (pt_cmpR op_eq (pv 4) pe_int (nomark _))
    (pss_one (ps_asg (pe_op op_add_str (pe_op op_add_str (pe_slice sl_str (pe_ix ix_list (pv 2) (pv 3) (fun _ _ => rfl)) po_none (po_some (pv 5))) (pe_c C_law_one (hr.mono (by decide)) (pa_cons (pv 0) (pa_cons (pe_lst (pa_cons pe_str (pa_cons pe_str (pa_cons pe_str (pa_cons pe_str pa_nil))))) pa_nil)))) (pe_slice sl_str (pe_ix ix_list (pv 2) (pv 3) (fun _ _ => rfl)) (po_some (pv 5)) po_none)) (pg_sub (pv 2) (pv 3) set_list)))
    (pss_one (ps_if (pt_cmpR op_eq (pv 4) pe_int (nomark _))
    (pss_one (ps_expr (pe_bm PySem.F.plainAttrs_list PySem.F.slot_list_insert PySem.F.type_list_insert mt_insert (pv 2) (pa_cons (pe_c C_law_pick (hr.mono (by decide)) (pa_cons (pv 0) (pa_cons (pe_callB call_len_seq (by rfl) W.n_len (by decide +kernel) (pa_cons (pv 2) pa_nil)) pa_nil))) (pa_cons (pe_bm PySem.F.plainAttrs_list PySem.F.slot_list_pop PySem.F.type_list_pop mt_popAt (pv 2) (pa_cons (pv 3) pa_nil)) pa_nil)))))
    (pss_one (ps_if (pt_cmpR op_eq (pv 4) pe_int (nomark _))
    (pss_one (ps_expr (pe_bm PySem.F.plainAttrs_list PySem.F.slot_list_insert PySem.F.type_list_insert mt_insert (pv 2) (pa_cons (pv 3) (pa_cons (pe_c C_law_one (hr.mono (by decide)) (pa_cons (pv 0) (pa_cons (pv 2) pa_nil))) pa_nil)))))
    (pss_one (ps_if (pt_cmpR op_eq (pv 4) pe_int (nomark _))
    (pss_one (ps_expr (pe_bm PySem.F.plainAttrs_list PySem.F.slot_list_pop PySem.F.type_list_pop mt_popAt (pv 2) (pa_cons (pv 3) pa_nil))))
    (pss_one (ps_if (pt_cmpR op_eq (pv 4) pe_int (nomark _))
    (pss_one (ps_ret (pe_slice sl_str (pv 1) po_none (po_some (pe_c C_law_pick (hr.mono (by decide)) (pa_cons (pv 0) (pa_cons (pe_callB call_len_str (by rfl) W.n_len (by decide +kernel) (pa_cons (pv 1) pa_nil)) pa_nil)))))))
    (pss_one (ps_if (pt_cmpR op_eq (pv 4) pe_int (nomark _))
    (pss_one (ps_ret (pe_op op_add_str (pv 1) (pe_c C_law_one (hr.mono (by decide)) (pa_cons (pv 0) (pa_cons (pe_lst (pa_cons pe_str (pa_cons pe_str (pa_cons pe_str (pa_cons pe_str (pa_cons pe_str pa_nil)))))) pa_nil))))))
    (pss_one (ps_asg (pe_c C_law_one (hr.mono (by decide)) (pa_cons (pv 0) (pa_cons (pe_lst (pa_cons pe_str (pa_cons pe_str (pa_cons pe_str (pa_cons pe_str (pa_cons (pe_op op_add_str (pe_ix ix_list (pv 2) (pv 3) (fun _ _ => rfl)) pe_str) (pa_cons (pe_op op_add_str pe_str (pe_ix ix_list (pv 2) (pv 3) (fun _ _ => rfl))) (pa_cons (pe_upper (pe_ix ix_list (pv 2) (pv 3) (fun _ _ => rfl))) pa_nil)))))))) pa_nil))) (pg_sub (pv 2) (pv 3) set_list))))))))))))))))
    (pss_one (ps_ret (pe_join pe_str (pe_lc (own := [("row", 6)]) (g := gName 6) (tt := tYes) (te := (tOp XT7.rAddS (tVar 6) (tC (.str "\n")))) rfl sc_law_bent.nd (pi_list (pv 2)) (blkOk_by (N := ["state", "text", "rows", "at", "way", "spot", "row"]) (sc := defScope s_law_bent) (by decide +kernel)) (fun _ _ _ _ _ => pg_name (i := 6) sc_law_bent.nd rfl (Or.inl rfl)) (fun _ _ _ _ _ => pts_nil) (fun _ _ _ _ _ => (pe_op op_add_str (pv 6) pe_str))))))))))), ?_⟩
  refine ⟨_, rfl, ⟨_, rfl⟩, x, "\n", rfl, rfl, nl_len, by rw [sizeLine_eq]; omega, fun D1 hD1 => ?_⟩
  have e1 : Ex H (upd H D1 (.lst ((Txt.split x "\n").map V.str))) := (Ex.refl H).new hD1
  have y1 : upd H D1 (.lst ((Txt.split x "\n").map V.str)) D1 = some (.lst ((Txt.split x "\n").map V.str)) := upd_same
  generalize upd H D1 (.lst ((Txt.split x "\n").map V.str)) = H1 at e1 y1 ⊢
  have ed : (Txt.split x "\n").map V.str = strsV ((rowsL x).map SX.S) := by
    rw [split_nl]
    rfl
  rw [ed] at y1
  refine ⟨_, rfl, _, rfl, D1, _, rfl, SqL.of y1, fun D hD => ?_⟩
  rw [cut_last]
  have ed2 : (strsV ((rowsL x).map SX.S)).dropLast = strsV ((rowsL x).dropLast.map SX.S) := by
    unfold strsV
    rw [List.map_dropLast, List.map_dropLast]
  rw [ed2]
  have hw := rows_wt x
  generalize (rowsL x).dropLast.map SX.S = us at hw ⊢
  have e2 : Ex H1 (upd H1 D (.lst (strsV us))) := (Ex.refl H1).new hD
  have y2 : upd H1 D (.lst (strsV us)) D = some (.lst (strsV us)) := upd_same
  generalize upd H1 D (.lst (strsV us)) = H2 at e2 y2 ⊢
  have e02 := e1.trans e2
  have S2 := hS.mono e02
  obtain ⟨Da, Dc⟩ := (hS.mono e1).fresh hD
  have hD0 : H D = none := e1.free hD
  refine ⟨_, rfl, by show 0 ≤ sizeLine; omega, fun z hz => ?_⟩
  have e3 : Ex H2 (upd H2 z (.lst [])) := (Ex.refl H2).new hz
  have y3 : upd H2 z (.lst []) z = some (.lst []) := upd_same
  generalize upd H2 z (.lst []) = H3 at e3 y3 ⊢
  have e03 := e02.trans e3
  have S3 := S2.mono e3
  have D3 := e3 _ _ y2
  have B3 : Bar a c H H3 := fun b o _ _ q => e03 b o q
  refine rd_eqStrs (SqL.of D3) y3 ⟨_, rfl, ?_⟩
  have pick6 : ∀ (l : List Str) (H4 : Hp) (M : Nat) (t : Addr) (Q2 : VK), StAt H4 a c M → M + 1 < 1099511627776 → Bar a c H H4 → H4 t = some (.lst (strsV l)) → t ≠ a → t ≠ c → l ≠ [] → l.length < 1000 → (∀ y ∈ l, ∀ H', StAt H' a c (M + 1) → Bar a c H4 H' → Q2 (.str y) H') → spOne K [.ref a, .ref t] H4 Q2 E0 := fun l H4 M t Q2 S4 lm B4 ht ta tc l0 ll q => by
    refine ⟨a, c, t, M, strsV l, rfl, S4, lm, SqL.of (hs_at ta tc ht), fun w => l0 ?_, by rw [strs_len]; omega, fun v H' hv S' B' => ?_⟩
    · cases l with
      | nil => rfl
      | cons _ _ => cases w
    · obtain ⟨y, hy, rfl⟩ := strs_mem hv
      exact q y hy H' S' B'
  refine ite2 (fun hem => ?_) (fun hem => ?_)
  · refine ⟨_, rfl, by show 6 ≤ sizeLine; rw [sizeLine_eq]; omega, fun t ht => ?_⟩
    have et := (Ex.refl H3).new (o := .lst (strsV ["\n", "move", "wave a 0\n", " ", "move a 0\n", "x"])) ht
    obtain ⟨ta, tc⟩ := S3.fresh ht
    refine pick6 ["\n", "move", "wave a 0\n", " ", "move a 0\n", "x"] _ N t _ (S3.mono et) (by omega) (fun b o _ _ q => et _ _ (e03 _ _ q)) upd_same ta tc (by simp) (by decide) fun y hy H' S' B' => ?_
    have : ∀ y ∈ (["\n", "move", "wave a 0\n", " ", "move a 0\n", "x"] : List Str), y.length ≤ 10 := by decide +kernel
    refine k y H' ?_ (S'.le (by omega)) (Bar.trans (fun b o _ _ q => et _ _ (e03 _ _ q)) B')
    have := this y hy
    omega
  have un : us ≠ [] := fun w => hem (by rw [w]; rfl)
  have up : 0 < us.length := List.length_pos_iff.mpr un
  have ul := wt_len us
  refine ⟨_, rfl, _, rfl, D, _, rfl, .inl (SqL.of D3), ?_⟩
  rw [strs_len]
  refine ⟨a, c, N, us.length, rfl, S3, by omega, by omega, by omega, fun r1 H4 r10 r11 S4 B4 => ?_⟩
  obtain ⟨at_, rfl⟩ := Int.eq_ofNat_of_zero_le r10
  refine ⟨_, rfl, a, c, _, 8, rfl, S4, by omega, by omega, by omega, fun way H5 w0 w1 S5 B5 => ?_⟩
  have B34 := Bar.trans B3 B4
  have B05 := Bar.trans B34 B5
  have D5 := B5 _ _ Da Dc (B4 _ _ Da Dc D3)
  refine ⟨_, _, rfl, ?_⟩
  have hat : at_ < us.length := by omega
  obtain ⟨u, hu⟩ : ∃ u, us[at_]? = some u := ⟨_, List.getElem?_eq_getElem hat⟩
  have hum := wt_mem (List.mem_of_getElem? hu)
  have hu5 : atI (strsV us) (at_ : Nat) = some (.str u) := atI_nat (by unfold strsV; rw [List.getElem?_map, hu]; rfl)
  refine ⟨_, rfl, _, rfl, _, rfl, D, _, _, .str u, rfl, rfl, SqL.of D5, hu5, ?_⟩
  refine ⟨u, rfl, by rw [sizeLine_eq]; omega, _, _, rfl, ?_⟩
  refine ⟨a, c, _, _, rfl, S5, by omega, by split <;> omega, by split <;> omega, fun spot H6 s0 s1 S6 B6 => ?_⟩
  have B06 := Bar.trans B05 B6
  have D6 := B6 _ _ Da Dc D5
  -- what is bent
  dsimp only [gName]
  refine p_key (F := fun σ' H' => ∃ (vs : List Str) (o3 o4 o5 o6 : Option V), σ' = [some (.ref a), some (.str x), some (.ref D), o3, o4, o5, o6] ∧ H' D = some (.lst (strsV vs)) ∧ wt vs ≤ 3 * x.length + 10 ∧ StAt H' a c (N + 10) ∧ Bar a c H H') (fun Nx key => ?_) ?_
  rotate_left
  · rintro σ7 H7 ⟨vs, o3, o4, o5, o6, rfl, D7, hv, S7, B7⟩
    refine ⟨⟨_, rfl⟩, _, rfl, D, rfl, ⟨_, SqL.of D7⟩, fun T hT => ?_⟩
    have vl := wt_len vs
    refine lc_map walk_list (fun i v _ => ∃ y, vs[i]? = some y ∧ v = .str (y ++ ("\n" : Str))) (by rw [strs_len, sizeLine_eq]; omega) hT (fun H' e => SqL.of (e _ _ D7)) (fun _ _ _ _ q _ => q) ?_ ?_
    · rintro i v H8 H9 Q2 hi e8 ⟨rfl, hv2⟩ q
      obtain ⟨y, hy, rfl⟩ := strs_get hv2
      have := wt_mem (List.mem_of_getElem? hy)
      exact ⟨rfl, _, rfl, _, _, rfl, rfl, by rw [show ("\n" : Str).length = 1 by decide +kernel, sizeLine_eq]; omega, q _ _ (Ex.refl _) ⟨y, hy, rfl⟩⟩
    · intro H8 ys h8 yl e8 hy
      rw [strs_len] at yl
      have ey : ys = strsV (vs.map fun s => s ++ ("\n" : Str)) := by
        refine List.ext_getElem? fun i => ?_
        cases e : ys[i]? with
        | none =>
          rw [List.getElem?_eq_none_iff] at e
          symm
          rw [List.getElem?_eq_none_iff, strs_len, List.length_map]
          omega
        | some v =>
          obtain ⟨y, h1, rfl⟩ := hy i v e
          unfold strsV
          rw [List.getElem?_map, List.getElem?_map, h1]
          rfl
      rw [ey] at h8
      have tot : ((vs.map fun s => s ++ ("\n" : Str)).map (·.length)).sum = wt vs := by
        unfold wt
        rw [List.map_map]
        congr 1
        refine List.map_congr_left fun y _ => ?_
        show (y ++ ("\n" : Str)).length = _
        rw [TL.len_tl, TL.tl_append, List.length_append, ← TL.len_tl]
        rfl
      refine ⟨_, _, _, rfl, rfl, .inl (SqL.of h8), by rw [tot]; show _ + _ * 0 ≤ _; omega, ?_⟩
      refine k _ H8 ?_ (S7.mono e8) (Bar.trans B7 (fun b o _ _ q => e8 b o q))
      rw [wt_join]
      exact hv
  have S6 : StAt H6 a c (N + 3) := S6
  have wx : wt us ≤ x.length := hw
  have hz : u.length ≤ sizeLine := by rw [sizeLine_eq]; omega
  have fin := fun (vs : List Str) (H' : Hp) (h1 : H' D = some (.lst (strsV vs))) (h2 : wt vs ≤ 3 * x.length + 10) (h3 : StAt H' a c (N + 10)) (h4 : Bar a c H H') => key [some (.ref a), some (.str x), some (.ref D), some (.int at_), some (.int way), some (.int spot), none] H' ⟨vs, _, _, _, _, rfl, h1, h2, h3, h4⟩
  have put : ∀ {H' : Hp} {o : HO} {M : Nat}, StAt H' a c M → M ≤ N + 10 → StAt (upd H' D o) a c (N + 10) := fun h l => (h.put Da Dc).le l
  have barD : ∀ {H' : Hp} {o : HO}, Bar a c H H' → Bar a c H (upd H' D o) := fun {H' o} h b u h1 h2 q => by
    rw [upd_ne (ne_of_none q hD0)]
    exact h b u h1 h2 q
  have la : ∀ (a b : Str), (a ++ b).length = a.length + b.length := fun a b => by rw [TL.len_tl, TL.tl_append, List.length_append, TL.len_tl, TL.len_tl]
  have hu6 : (strsV us)[at_]? = some (.str u) := by unfold strsV; rw [List.getElem?_map, hu]; rfl
  have ixA : ixN (strsV us).length ((at_ : Nat) : Int) = some at_ := by
    unfold ixN
    rw [strs_len, if_pos (by omega), if_pos (by omega)]
    congr 1
  refine ⟨_, rfl, rfl, _, rfl, ?_⟩
  rw [dec_i]
  refine ite2 (fun _ => ?_) (fun _ => ?_)
  · refine ⟨_, rfl, _, rfl, D, _, _, .str u, rfl, rfl, SqL.of D6, hu5, _, rfl, _, rfl, u, rfl, hz, ?_⟩
    refine ⟨_, rfl, by show 8 ≤ sizeLine; rw [sizeLine_eq]; omega, fun t ht => ?_⟩
    have et := (Ex.refl H6).new (o := .lst (strsV ["0", "1", "2", "a", " ", "-", "", "00"])) ht
    obtain ⟨ta, tc⟩ := S6.fresh ht
    have Bt : Bar a c H (upd H6 t (.lst (strsV ["0", "1", "2", "a", " ", "-", "", "00"]))) := Bar.trans B06 (fun b o _ _ q => et _ _ q)
    refine pick6 ["0", "1", "2", "a", " ", "-", "", "00"] _ _ t _ (S6.mono et) (by omega) Bt upd_same ta tc (by simp) (by decide) fun y hy H7 S7 B7 => ?_
    have : ∀ y ∈ (["0", "1", "2", "a", " ", "-", "", "00"] : List Str), y.length ≤ 2 := by decide +kernel
    have yl := this y hy
    have D7 := B7 _ _ Da Dc (et _ _ D6)
    have c1 := cutS_length u none (some spot)
    have c2 := cutS_length u (some (spot + 1)) none
    refine ⟨_, _, rfl, rfl, by rw [sizeLine_eq]; omega, ?_⟩
    refine ⟨_, rfl, _, rfl, D, _, _, .str u, rfl, rfl, SqL.of D7, hu5, ?_⟩
    refine ⟨_, rfl, _, _, rfl, rfl, _, rfl, u, rfl, hz, _, _, rfl, rfl, by rw [la, sizeLine_eq]; omega, ?_⟩
    refine ⟨_, rfl, _, rfl, D, _, _, at_, rfl, rfl, D7, ixA, ?_⟩
    rw [strs_set]
    have wq := wt_set (s := cutS u none (some spot) ++ y ++ cutS u (some (spot + 1)) none) hu
    rw [la, la] at wq
    exact fin _ _ upd_same (by omega) (put S7 (by omega)) (barD (Bar.trans Bt B7))
  refine ⟨_, rfl, rfl, _, rfl, ?_⟩
  rw [dec_i]
  refine ite2 (fun _ => ?_) (fun _ => ?_)
  · refine ⟨_, rfl, _, rfl, D, _, _, .str u, rfl, rfl, SqL.of D6, hu5, _, rfl, _, rfl, u, rfl, hz, ?_⟩
    refine ⟨_, rfl, by show 4 ≤ sizeLine; rw [sizeLine_eq]; omega, fun t ht => ?_⟩
    have et := (Ex.refl H6).new (o := .lst (strsV ["0", "1", " ", "z"])) ht
    obtain ⟨ta, tc⟩ := S6.fresh ht
    have Bt : Bar a c H (upd H6 t (.lst (strsV ["0", "1", " ", "z"]))) := Bar.trans B06 (fun b o _ _ q => et _ _ q)
    refine pick6 ["0", "1", " ", "z"] _ _ t _ (S6.mono et) (by omega) Bt upd_same ta tc (by simp) (by decide) fun y hy H7 S7 B7 => ?_
    have : ∀ y ∈ (["0", "1", " ", "z"] : List Str), y.length ≤ 2 := by decide +kernel
    have yl := this y hy
    have D7 := B7 _ _ Da Dc (et _ _ D6)
    have c1 := cutS_length u none (some spot)
    have c2 := cutS_length u (some spot) none
    refine ⟨_, _, rfl, rfl, by rw [sizeLine_eq]; omega, ?_⟩
    refine ⟨_, rfl, _, rfl, D, _, _, .str u, rfl, rfl, SqL.of D7, hu5, ?_⟩
    refine ⟨_, rfl, _, rfl, u, rfl, hz, _, _, rfl, rfl, by rw [la, sizeLine_eq]; omega, ?_⟩
    refine ⟨_, rfl, _, rfl, D, _, _, at_, rfl, rfl, D7, ixA, ?_⟩
    rw [strs_set]
    have wq := wt_set (s := cutS u none (some spot) ++ y ++ cutS u (some spot) none) hu
    rw [la, la] at wq
    exact fin _ _ upd_same (by omega) (put S7 (by omega)) (barD (Bar.trans Bt B7))
  refine ⟨_, rfl, rfl, _, rfl, ?_⟩
  rw [dec_i]
  refine ite2 (fun _ => ?_) (fun _ => ?_)
  · -- insert a drawn place, pop
    refine ⟨_, rfl, .inl ⟨rfl, _, SqL.of D6⟩, _, rfl, _, rfl, D, _, rfl, .inl (SqL.of D6), ?_⟩
    rw [strs_len]
    refine ⟨a, c, _, us.length, rfl, S6, by omega, by omega, by omega, fun r2 H7 r20 r21 S7 B7 => ?_⟩
    have D7 := B7 _ _ Da Dc D6
    refine ⟨_, rfl, .inl ⟨rfl, _, SqL.of D7⟩, _, rfl, D, _, _, at_, _, rfl, rfl, D7, by omega, by omega, seqIx (by rw [strs_len]; exact hat), hu6, ?_⟩
    rw [strs_erase]
    refine ⟨D, _, _, _, rfl, rfl, upd_same, by rw [strs_len, sizeLine_eq]; have := List.length_eraseIdx_le us at_; omega, r20, by omega, ?_⟩
    rw [strs_ins]
    have w1 := wt_erase hu
    have w2 := wt_ins (us.eraseIdx at_) r2.toNat u
    exact fin _ _ upd_same (by omega) ((S7.put Da Dc).put Da Dc |>.le (by omega)) (barD (barD (Bar.trans B06 B7)))
  refine ⟨_, rfl, rfl, _, rfl, ?_⟩
  rw [dec_i]
  refine ite2 (fun _ => ?_) (fun _ => ?_)
  · refine ⟨_, rfl, .inl ⟨rfl, _, SqL.of D6⟩, _, rfl, _, rfl, _, rfl, ?_⟩
    refine ⟨a, c, D, _, strsV us, rfl, S6, by omega, SqL.of (hs_at Da Dc D6), fun w => un (by cases us with | nil => rfl | cons _ _ => cases w), by rw [strs_len]; omega, fun v H7 hv S7 B7 => ?_⟩
    obtain ⟨y, hy, rfl⟩ := strs_mem hv
    have D7 := B7 _ _ Da Dc D6
    refine ⟨D, _, _, _, rfl, rfl, D7, by rw [strs_len, sizeLine_eq]; omega, by omega, by omega, ?_⟩
    rw [strs_ins]
    have w1 := wt_mem hy
    have w2 := wt_ins us ((at_ : Nat) : Int).toNat y
    exact fin _ _ upd_same (by omega) (put S7 (by omega)) (barD (Bar.trans B06 B7))
  refine ⟨_, rfl, rfl, _, rfl, ?_⟩
  rw [dec_i]
  refine ite2 (fun _ => ?_) (fun _ => ?_)
  · refine ⟨_, rfl, .inl ⟨rfl, _, SqL.of D6⟩, _, rfl, D, _, _, at_, _, rfl, rfl, D6, by omega, by omega, seqIx (by rw [strs_len]; exact hat), hu6, ?_⟩
    rw [strs_erase]
    have w1 := wt_erase hu
    exact fin _ _ upd_same (by omega) (put S6 (by omega)) (barD B06)
  refine ⟨_, rfl, rfl, _, rfl, ?_⟩
  rw [dec_i]
  refine ite2 (fun _ => ?_) (fun _ => ?_)
  · refine ⟨_, rfl, _, rfl, _, rfl, x, rfl, by rw [sizeLine_eq]; omega, ?_⟩
    refine ⟨a, c, _, _, rfl, S6, by omega, by omega, by omega, fun r2 H7 r20 r21 S7 B7 => ?_⟩
    refine ⟨_, rfl, x, rfl, by rw [sizeLine_eq]; omega, ?_⟩
    have := cutS_length x none (some r2)
    exact k _ H7 (by omega) (S7.le (by omega)) (Bar.trans B06 B7)
  refine ⟨_, rfl, rfl, _, rfl, ?_⟩
  rw [dec_i]
  refine ite2 (fun _ => ?_) (fun _ => ?_)
  · refine ⟨_, rfl, _, rfl, by show 5 ≤ sizeLine; rw [sizeLine_eq]; omega, fun t ht => ?_⟩
    have et := (Ex.refl H6).new (o := .lst (strsV ["\n", " ", "move", "wave a 0\n", "move a 0\n"])) ht
    obtain ⟨ta, tc⟩ := S6.fresh ht
    have Bt : Bar a c H (upd H6 t (.lst (strsV ["\n", " ", "move", "wave a 0\n", "move a 0\n"]))) := Bar.trans B06 (fun b o _ _ q => et _ _ q)
    refine pick6 ["\n", " ", "move", "wave a 0\n", "move a 0\n"] _ _ t _ (S6.mono et) (by omega) Bt upd_same ta tc (by simp) (by decide) fun y hy H7 S7 B7 => ?_
    have : ∀ y ∈ (["\n", " ", "move", "wave a 0\n", "move a 0\n"] : List Str), y.length ≤ 10 := by decide +kernel
    have yl := this y hy
    refine ⟨_, _, rfl, rfl, by rw [sizeLine_eq]; omega, ?_⟩
    exact k _ H7 (by rw [la]; omega) (S7.le (by omega)) (Bar.trans Bt B7)
  have l1 : (" " : Str).length = 1 := by decide +kernel
  have lu := PyProof.Rows.len_upper u
  refine ⟨_, rfl, _, rfl, _, rfl, D, _, _, .str u, rfl, rfl, SqL.of D6, hu5, _, _, rfl, rfl, by rw [l1, sizeLine_eq]; omega, ?_⟩
  refine ⟨_, rfl, _, rfl, D, _, _, .str u, rfl, rfl, SqL.of D6, hu5, _, _, rfl, rfl, by rw [l1, sizeLine_eq]; omega, ?_⟩
  refine ⟨_, rfl, _, rfl, D, _, _, .str u, rfl, rfl, SqL.of D6, hu5, ?_⟩
  refine ⟨⟨_, rfl⟩, u, rfl, rfl, by omega, by show 7 ≤ sizeLine; rw [sizeLine_eq]; omega, fun t ht => ?_⟩
  have et := (Ex.refl H6).new (o := .lst (strsV ["move", "wave", "", " ", u ++ (" " : Str), (" " : Str) ++ u, Txt.upper u])) ht
  obtain ⟨ta, tc⟩ := S6.fresh ht
  have Bt : Bar a c H (upd H6 t (.lst (strsV ["move", "wave", "", " ", u ++ (" " : Str), (" " : Str) ++ u, Txt.upper u]))) := Bar.trans B06 (fun b o _ _ q => et _ _ q)
  refine pick6 ["move", "wave", "", " ", u ++ (" " : Str), (" " : Str) ++ u, Txt.upper u] _ _ t _ (S6.mono et) (by omega) Bt upd_same ta tc (by simp) (by show 7 < 1000; decide) fun y hy H7 S7 B7 => ?_
  have D7 := B7 _ _ Da Dc (et _ _ D6)
  refine ⟨_, rfl, _, rfl, D, _, _, at_, rfl, rfl, D7, ixA, ?_⟩
  rw [strs_set]
  have wq := wt_set (s := y) hu
  have yl : y.length ≤ 3 * u.length + 4 := by
    have h4 : ∀ y ∈ (["move", "wave", "", " "] : List Str), y.length ≤ 4 := by decide +kernel
    rcases List.mem_append.mp (show y ∈ (["move", "wave", "", " "] : List Str) ++ [u ++ (" " : Str), (" " : Str) ++ u, Txt.upper u] from hy) with hy | hy
    · have := h4 y hy
      omega
    · rcases List.mem_cons.mp hy with rfl | hy
      · rw [la, l1]; omega
      rcases List.mem_cons.mp hy with rfl | hy
      · rw [la, l1]; omega
      · rw [List.mem_singleton.mp hy]
        omega
  exact fin _ _ upd_same (by omega) (put S7 (by omega)) (barD (Bar.trans Bt B7))
theorem c_law_bent (W : Wld K mg) : Cal P w K mg base 4 "_law_bent" ["state", "text"] (spBentT K) := by
  obtain ⟨fd, F⟩ := W.c.def_ 59 rfl
  exact ⟨⟨fd, ok_law_bent W F, F.bindsN fun _ _ _ _ _ _ us hl => match us, hl with | [_, _], _ => rfl⟩, W.g_law_bent, F.kp⟩
end
end K77

set_option Elab.async false
set_option linter.all false
set_option maxRecDepth 100000
set_option maxHeartbeats 400000
namespace K77
open PySem PySem.Spec PyProof.Rows L2 DL
/-! ### what a call tells, or what refuses it -/
theorem sc_law_told : FnScope ["ask", "found", "e"] ["ask"] (defScope s_law_told) := ⟨rfl, rfl, rfl, by decide +kernel, rfl, by decide +kernel, by decide +kernel⟩
/-- the wish may count on the number of slots -/
theorem takes_len {X : Cx} {W : WX} (t : Takes X W) : Takes X (fun cls d σ H => σ.length = X.N.length → W cls d σ H) := fun u s' ⟨a, B, sI, pins, σ, H, cls, d, e, I, nb, up, sky, na, os, ag, w⟩ =>
  t u s' ⟨a, B, sI, pins, σ, H, cls, d, e, I, nb, up, sky, na, os, ag, w I.len⟩
theorem exm_own {K : PySem.W.Frag} {C D P : Addr} (hC : XH.Ln K C P) (hD : XH.Ln K D P) (c : ExcC K D) (h2 : D ≠ P) : PySem.W.exmOne K (.ref C) (.ref D) = some (decide (D = C)) := by
  refine PySem.W.exm_ref c.hs c.hd hD.ty ?_
  show PySem.W.mroIn K C (.ref D) = _
  rw [XH.ln_mro hC]
  have h4 : ∀ X : Addr, (Value.ref D == Value.ref X) = decide (D = X) := fun X => by
    by_cases q : D = X
    · subst q
      simp
    · rw [decide_eq_false q]
      exact beq_eq_false_iff_ne.mpr fun z => q (Value.ref.inj z)
  congr 1
  by_cases hp : C = P
  · subst hp
    rw [if_pos rfl]
    simp [He.veBase, h4, h2]
  · rw [if_neg hp]
    simp [He.veBase, h4, h2]
section
variable {K : PySem.W.Frag} {mg : Str → Option Value}
theorem ne_log_mac (W : Wld K mg) : He.ga K "BadLog" ≠ He.ga K "BadMachine" := by
  have h := W.nd
  unfold xs xs0 ns at h
  simp only [List.map_cons, List.map_nil, List.cons_append, List.nil_append] at h
  rw [List.nodup_cons] at h
  exact fun z => h.1 (by rw [← z]; simp)
theorem ne_txt_mac (W : Wld K mg) : He.ga K "BadLogText" ≠ He.ga K "BadMachine" := by
  have h := W.nd
  unfold xs xs0 ns at h
  simp only [List.map_cons, List.map_nil, List.cons_append, List.nil_append] at h
  rw [List.nodup_cons] at h
  exact fun z => h.1 (by rw [← z]; simp)
theorem ne_txt_log (W : Wld K mg) : He.ga K "BadLogText" ≠ He.ga K "BadLog" := by
  have h := W.nd
  unfold xs xs0 ns at h
  simp only [List.map_cons, List.map_nil, List.cons_append, List.nil_append, List.nodup_cons] at h
  exact fun z => h.2.2.2.2.1 (by rw [← z]; simp)
theorem ne_log_base (W : Wld K mg) : He.ga K "BadLog" ≠ He.ga K "PanelError" := by
  have h := W.nd
  unfold xs xs0 ns at h
  simp only [List.map_cons, List.map_nil, List.cons_append, List.nil_append, List.nodup_cons] at h
  exact fun z => h.2.2.2.2.1 (by rw [z]; simp)
theorem ne_txt_base (W : Wld K mg) : He.ga K "BadLogText" ≠ He.ga K "PanelError" := by
  have h := W.nd
  unfold xs xs0 ns at h
  simp only [List.map_cons, List.map_nil, List.cons_append, List.nil_append, List.nodup_cons] at h
  exact fun z => h.2.2.2.2.2.1 (by rw [z]; simp)
theorem ne_mac_base (W : Wld K mg) : He.ga K "BadMachine" ≠ He.ga K "PanelError" := by
  have h := W.nd
  unfold xs xs0 ns at h
  simp only [List.map_cons, List.map_nil, List.cons_append, List.nil_append, List.nodup_cons] at h
  exact fun z => h.1 (by rw [z]; simp)
end
/-- the refusals that are caught -/
def Refused (K : PySem.W.Frag) (C f y : Str) (Q : VK) : XK := fun cls d H' => cls = .ref (He.ga K C) ∧ ∃ dd v, d = some dd ∧ H' dd = some (.xd [(f, v)]) ∧ ∀ p, H' p = none → Q (.ref p) (upd H' p (.tup [.str "bad", .str y, v]))
def EchK (K : PySem.W.Frag) (Q : VK) : XK := fun cls d H' => Refused K "BadLogText" "line" "text" Q cls d H' ∨ Refused K "BadLog" "log" "log" Q cls d H' ∨ Refused K "BadMachine" "machine" "machine" Q cls d H'
def TTk (K : PySem.W.Frag) : (XK → Hp → VK → Prop) → Hp → VK → Prop := fun tl H Q => tl (EchK K Q) H fun v H' => 2 ≤ sizeLine ∧ ∀ p, H' p = none → ∃ x, (some (some (V.ref p)) : Option (Option V)) = some (some x) ∧ Q x (upd H' p (.tup [.str "told", v]))
theorem slots3 {σ : L2.St} (h : σ.length = 3) : ∃ a b c, σ = [a, b, c] := by
  match σ, h with
  | [a, b, c], _ => exact ⟨a, b, c, rfl⟩
theorem told_gives {X : Cx} (W : Wld X.K X.mg) {g : Addr} {cdg : Value} {q : Str} : LamX.GivesTo X ["ask", "found", "e"] "_law_told" (defScope s_law_told) g cdg (defBody s_law_told) "ask" q (TTk X.K) := by
  intro f c' s H Q tl act hc h
  refine ⟨_, pss_cons (XT.ps_try_all (X := (cxOf C8.CX0 X.prog X.w X.K X.mg X.base ["ask", "found", "e"] "_law_told" (defScope s_law_told) g cdg X.A X.stack s H C8.E0).nox) (i := 2) (Wout := fun _ _ _ _ => False)
      (tb := fun Wx D σ H => ∃ Ech : XK, (∀ cls d σ' H', Ech cls d H' → σ'.length = 3 → Wx cls d σ' H') ∧ σ[0]? = some (some (.ref f)) ∧ H c' = some (LamX.CodeO c' q) ∧ tl Ech H fun v H1 => 2 ≤ sizeLine ∧ ∀ p, H1 p = none → D.nx (σ.set 1 (some (.ref p))) (upd H1 p (.tup [.str "told", v])))
      rfl rfl sc_law_told.nd rfl rfl LamX.takes0 (fun Wx pn xe tk _ => ?_)
      (.cons ⟨rfl, by decide, .inl (W.x_BadLogText).g⟩ (fun a oe cls d pn hz hf => pss_one (ps_set (i := 1) sc_law_told.nd rfl (.inl rfl) (pe_tup (pa_cons pe_str (pa_cons pe_str (pa_cons (pe_xf (XH.xf_of (W.x_BadLogText).c) (W.x_BadLogText).t.noN hz hf (pv 2)) pa_nil))))))
      (.cons ⟨rfl, by decide, .inl (W.x_BadLog).g⟩ (fun a oe cls d pn hz hf => pss_one (ps_set (i := 1) sc_law_told.nd rfl (.inl rfl) (pe_tup (pa_cons pe_str (pa_cons pe_str (pa_cons (pe_xf (XH.xf_of (W.x_BadLog).c) (W.x_BadLog).t.noN hz hf (pv 2)) pa_nil))))))
      (.cons ⟨rfl, by decide, .inl (W.x_BadMachine).g⟩ (fun a oe cls d pn hz hf => pss_one (ps_set (i := 1) sc_law_told.nd rfl (.inl rfl) (pe_tup (pa_cons pe_str (pa_cons pe_str (pa_cons (pe_xf (XH.xf_of (W.x_BadMachine).c) (W.x_BadMachine).t.noN hz hf (pv 2)) pa_nil)))))) .nil))))
    (pss_one (ps_ret (pv 1))), ?_⟩
  · refine ⟨fun pins s' σ H' D I h' => ?_⟩
    obtain ⟨Ech, hW, h1, h2, h3⟩ := h'
    have hp := act (fun cls d σ H => σ.length = 3 → Wx cls d σ H) pn xe Ech
    refine (pss_one (ps_set (i := 1) sc_law_told.nd rfl (.inl rfl) (pe_tup (pa_cons pe_str (pa_cons (hp _ _ (takes_len tk) hW) pa_nil))))).run pins s' σ H' D I ⟨h1, h2, h3⟩
  · refine ⟨EchK X.K Q, fun cls d σ' H' hE hl => ?_, rfl, hc, h⟩
    obtain ⟨o0, o1, o2, rfl⟩ := slots3 hl
    have l1 := (W.x_BadLogText).l
    have l2 := (W.x_BadLog).l
    have l3 := (W.x_BadMachine).l
    have c1 := (W.x_BadLogText).c
    have c2 := (W.x_BadLog).c
    have c3 := (W.x_BadMachine).c
    have e11 : PySem.W.exmOne X.K (.ref (He.ga X.K "BadLogText")) (.ref (He.ga X.K "BadLogText")) = some true := by
      rw [exm_own l1 l1 c1 (ne_txt_base W), decide_eq_true rfl]
    have e21 : PySem.W.exmOne X.K (.ref (He.ga X.K "BadLog")) (.ref (He.ga X.K "BadLogText")) = some false := by
      rw [exm_own l2 l1 c1 (ne_txt_base W), decide_eq_false (ne_txt_log W)]
    have e22 : PySem.W.exmOne X.K (.ref (He.ga X.K "BadLog")) (.ref (He.ga X.K "BadLog")) = some true := by
      rw [exm_own l2 l2 c2 (ne_log_base W), decide_eq_true rfl]
    have e31 : PySem.W.exmOne X.K (.ref (He.ga X.K "BadMachine")) (.ref (He.ga X.K "BadLogText")) = some false := by
      rw [exm_own l3 l1 c1 (ne_txt_base W), decide_eq_false (ne_txt_mac W)]
    have e32 : PySem.W.exmOne X.K (.ref (He.ga X.K "BadMachine")) (.ref (He.ga X.K "BadLog")) = some false := by
      rw [exm_own l3 l2 c2 (ne_log_base W), decide_eq_false (ne_log_mac W)]
    have e33 : PySem.W.exmOne X.K (.ref (He.ga X.K "BadMachine")) (.ref (He.ga X.K "BadMachine")) = some true := by
      rw [exm_own l3 l3 c3 (ne_mac_base W), decide_eq_true rfl]
    rcases hE with ⟨rfl, dd, v, rfl, hd, k⟩ | ⟨rfl, dd, v, rfl, hd, k⟩ | ⟨rfl, dd, v, rfl, hd, k⟩
    · refine ⟨true, e11, (fun _ a ha => ?_), (fun z => nomatch z)⟩
      exact ⟨_, rfl, rfl, rfl, dd, _, v, rfl, hd, by simp [List.lookup], by show 3 ≤ sizeLine; decide, fun p hp => ⟨_, rfl, k p hp⟩⟩
    · refine ⟨false, e21, (fun z => nomatch z), fun _ => ⟨true, e22, (fun _ a ha => ?_), (fun z => nomatch z)⟩⟩
      exact ⟨_, rfl, rfl, rfl, dd, _, v, rfl, hd, by simp [List.lookup], by show 3 ≤ sizeLine; decide, fun p hp => ⟨_, rfl, k p hp⟩⟩
    · refine ⟨false, e31, (fun z => nomatch z), fun _ => ⟨false, e32, (fun z => nomatch z), fun _ => ⟨true, e33, (fun _ a ha => ?_), (fun z => nomatch z)⟩⟩⟩
      exact ⟨_, rfl, rfl, rfl, dd, _, v, rfl, hd, by simp [List.lookup], by show 3 ≤ sizeLine; decide, fun p hp => ⟨_, rfl, k p hp⟩⟩
end K77

set_option Elab.async false
set_option linter.all false
set_option maxRecDepth 100000
set_option maxHeartbeats 400000
namespace K77
open PySem PySem.Spec PyProof.Rows L2 DL
/-! ### the heap without the draws and the tables of codes -/
def NT (o : HO) : Prop := ∀ ps, o ≠ .tbl ps
noncomputable def ht (a c : Addr) (H : Hp) : Hp := hid (fun b => b = a ∨ b = c ∨ ∃ ps, H b = some (.tbl ps)) H
theorem ht_some {a c b : Addr} {H : Hp} {o : HO} (h : ht a c H b = some o) : b ≠ a ∧ b ≠ c ∧ H b = some o ∧ NT o := by
  obtain ⟨h1, h2⟩ := hid_some.mp h
  exact ⟨fun z => h1 (.inl z), fun z => h1 (.inr (.inl z)), h2, fun ps z => h1 (.inr (.inr ⟨ps, by rw [h2, z]⟩))⟩
theorem ht_at {a c b : Addr} {H : Hp} {o : HO} (h1 : b ≠ a) (h2 : b ≠ c) (h : H b = some o) (n : NT o) : ht a c H b = some o := hid_some.mpr ⟨fun z => z.elim h1 fun z => z.elim h2 fun ⟨ps, z⟩ => n ps (Option.some.inj (h.symm.trans z)), h⟩
theorem ht_hs {a c : Addr} {H : Hp} : Ex (ht a c H) (hs a c H) := fun b o h => by
  obtain ⟨h1, h2, h3, _⟩ := ht_some h
  exact hs_at h1 h2 h3
theorem ht_ex {a c : Addr} {H : Hp} : Ex (ht a c H) H := fun b o h => (ht_some h).2.2.1
theorem ht_bar {a c : Addr} {H H' : Hp} (h : Bar a c H H') : Ex (ht a c H) (ht a c H') := fun b o q => by
  obtain ⟨h1, h2, h3, h4⟩ := ht_some q
  exact ht_at h1 h2 (h b o h1 h2 h3) h4
theorem ht_of {a c : Addr} {H H' : Hp} (e : Ex H H') : Ex (ht a c H) (ht a c H') := ht_bar fun b o _ _ q => e b o q
theorem ht_ext {a c : Addr} {H H' : Hp} (e : LamX.ExtN H H') : Ex (ht a c H) (ht a c H') := fun b o q => by
  obtain ⟨h1, h2, h3, h4⟩ := ht_some q
  exact ht_at h1 h2 (e b o h3 h4) h4
/-- what data lean on stands where all but tables stand -/
def ExT (H H' : Hp) : Prop := ∀ b o, NT o → H b = some o → H' b = some o
theorem hs_ht {a c : Addr} {H : Hp} : ExT (hs a c H) (ht a c H) := fun b o n q => by
  obtain ⟨h1, h2, h3⟩ := hs_some q
  exact ht_at h1 h2 h3 n
theorem nt_lst {xs : List V} : NT (.lst xs) := fun _ z => nomatch z
theorem nt_tup {xs : List V} : NT (.tup xs) := fun _ z => nomatch z
theorem nt_frz {o : Obj} {u : HO} : NT (.frz o u) := fun _ z => nomatch z
theorem nt_dK {kvs : List (Key × V)} : NT (.dK kvs) := fun _ z => nomatch z
section
variable {K : PySem.W.Frag} {H H' : Hp}
theorem ExT.l {p : Addr} {xs : List V} (e : ExT H H') (h : SqL K H p xs) : SqL K H' p xs := by
  rcases h with (h | ⟨o, h⟩) | h
  · exact .inl (.inl (e _ _ nt_lst h))
  · exact .inl (.inr ⟨o, e _ _ nt_frz h⟩)
  · exact .inr h
theorem ExT.t {p : Addr} {xs : List V} (e : ExT H H') (h : SqT K H p xs) : SqT K H' p xs := by
  rcases h with (h | ⟨o, h⟩) | h
  · exact .inl (.inl (e _ _ nt_tup h))
  · exact .inl (.inr ⟨o, e _ _ nt_frz h⟩)
  · exact .inr h
mutual
theorem den_t (e : ExT H H') : ∀ {v : V} {d : Tr}, Den K true H v d → Den K true H' v d
  | _, _, .non => .non
  | _, _, .bl x => .bl x
  | _, _, .int i => .int i
  | _, _, .str x => .str x
  | _, _, .lst h hs => .lst (e.l h) (dens_t e hs)
  | _, _, .tup h hs => .tup (e.t h) (dens_t e hs)
  | _, _, .dic h hs => .dic (e _ _ nt_dK h) (denK_t e hs)
theorem dens_t (e : ExT H H') : ∀ {vs : List V} {ds : List Tr}, Dens K true H vs ds → Dens K true H' vs ds
  | _, _, .nil => .nil
  | _, _, .cons h hs => .cons (den_t e h) (dens_t e hs)
theorem denK_t (e : ExT H H') : ∀ {kvs : List (Key × V)} {es : List (Key × Tr)}, DenK K true H kvs es → DenK K true H' kvs es
  | _, _, .nil => .nil
  | _, _, .cons h hs => .cons (den_t e h) (denK_t e hs)
end
theorem parts_t {r : Raw} {a b c d : Addr} (e : ExT H H') (h : Parts K H r a b c d) : Parts K H' r a b c d := by
  obtain ⟨h1, h2, ys, zs, h3, h4, h5, h6⟩ := h
  exact ⟨e _ _ nt_lst h1, e _ _ nt_lst h2, ys, zs, e _ _ nt_lst h3, dens_t e h4, e _ _ nt_lst h5, dens_t e h6⟩
theorem raw_t {R : Addr} {r : Raw} (e : ExT H H') (h : RawAt K H R r) : RawAt K H' R r := by
  obtain ⟨p1, p2, p3, p4, h1, h2⟩ := h
  exact ⟨p1, p2, p3, p4, e _ _ nt_lst h1, parts_t e h2⟩
theorem mac_t {m : Addr} {r : Raw} (e : ExT H H') (h : MacAt K H m r) : MacAt K H' m r := by
  obtain ⟨dx, a, b, c, d, h1, h2⟩ := h
  exact ⟨dx, a, b, c, d, e _ _ (fun _ z => nomatch z) h1, parts_t e h2⟩
end
/-! ### calls -/
theorem pass1 {X : Cx} : Passes (L2.CX X.prog X.w) X E0 := fun _ _ _ _ _ _ _ h => by
  obtain ⟨_, _, _, _, _, _, _, _, _, _, _, _, z⟩ := h
  exact z.elim
/-- one of several defs, held by a name; they may raise -/
def tCallAR (i : Nat) (S : Addr → Sp → Prop) (E : XK) (t : TA) : TE := fun σ H Q => ∃ f sp, σ[i]? = some (some (.ref f)) ∧ S f sp ∧ t σ H fun vs H1 => sp vs H1 Q E
theorem pe_callAR {X : Cx} {k i : Nat} {S : Addr → Sp → Prop} {E : XK} {x : Str} {p pos : Pos} {e : Expr} {es : List Expr} {t : TA} (A : ∀ f sp, S f sp → ∃ fd ps, FnOk X.prog X.w X.K X.mg X.base (L2.CX X.prog X.w) k f fd ps sp ∧ PySem.W.keepIn X.K (.ref f) = true ∧ Binds X.K fd ps [])
    (hr : Room k X.A) (hx : Passes (L2.CX X.prog X.w) X E) (hN : X.N[i]? = some x) (hv : Vis X.env.scope x) (ha : PA X (e :: es) t)
    (hdb : (x == ("__debug__" : Str)) = false := by decide) (hcd : (x == ("__classdict__" : Str)) = false := by decide)
    (he : starEach (e :: es) X.env = (false, eval e X.env) :: starEach es X.env := by rfl) (hpl : (backTo pos (starEach es X.env)).any (·.1) = false := by rfl) : PE X (.Call (.Name x p) (e :: es) [] pos) (tCallAR i S E t) := by
  refine ⟨fun pins s σ H Q I h => ?_⟩
  obtain ⟨f, sp, hs, hS, ht⟩ := h
  obtain ⟨fd, ps, F, hk, hb⟩ := A f sp hS
  refine (pe_callL (i := i) (f := f) (sp := sp) (dvs := []) (E := E) F hr hN hv hk hb .nil hx ha hdb hcd he hpl).run pins s σ H Q I ⟨hs, ?_⟩
  have e0 : (fun (vs : List V) (H1 : Hp) => sp (vs ++ []) H1 Q E) = fun vs H1 => sp vs H1 Q E := by
    funext vs H1
    rw [List.append_nil]
  rw [e0]
  exact ht
/-- f(k = v, ..) -/
def tCallN0 (m : Nat) (sp : Sp) (gV : List V → List V → List V) (E : XK) (tk : TA) : TE := fun σ H Q => tk σ H fun zs H2 => zs.length = m ∧ sp (gV [] zs) H2 Q E
theorem pe_callN0 {X : Cx} {CX : CXT} {k : Nat} {f : Addr} {fd : FuncData} {ps ks : List Str} {sp : Sp} {E : XK} {x : Str} {p pos : Pos} {kws : List Keyword} {tk : TA} {g : List Value → List Value → List Value} {gV : List V → List V → List V}
    (F : FnOk X.prog X.w X.K X.mg X.base CX k f fd ps sp) (hr : Room k X.A) (hg : Gl X x) (hm : X.mg x = some (.ref f)) (hk : PySem.W.keepIn X.K (.ref f) = true) (hb : KBn X.K fd ps 0 ks g gV) (hx : Passes CX X E)
    (hkw : PK X kws tk) (hall : (backToKw pos (keywordEach kws X.env)).all (·.1.isSome) = true := by rfl) (hks : (backToKw pos (keywordEach kws X.env)).filterMap (·.1) = ks := by rfl)
    (hpl : ((backTo pos (starEach [] X.env)).any (·.1) || (backToKw pos (keywordEach kws X.env)).any (·.1.isNone)) = false := by rfl) (hdb : (x == ("__debug__" : Str)) = false := by decide) :
    PE X (.Call (.Name x p) [] kws pos) (tCallN0 ks.length sp gV E tk) := by
  refine ⟨fun pins s σ H Q I h => ?_⟩
  refine wpAny_Call_Name_kw (ld_glob I hg hm ?_ hdb)
  refine PySem.W.callWith_KW0 (h₀ := X.base) I.ok.mod.kin hk hall (thn (hkw.run pos pins s σ H _ I h) fun ws s2 ⟨zs, H2, I2, rz, l2, q2⟩ => ⟨I2.kIn, ?_⟩) hpl
  rw [hks]
  exact run_fnN F hr hb hx I2 .nil rz rfl l2 q2
def rev2 {α : Type} : List α → List α
  | [a, b] => [b, a]
  | l => l
theorem vals_rev2 {zs : List V} {ws : List Value} (h : Vals zs ws) : Vals (rev2 zs) (rev2 ws) := by
  cases h with
  | nil => exact .nil
  | cons h1 r =>
    cases r with
    | nil => exact .cons h1 .nil
    | cons h2 r =>
      cases r with
      | nil => exact .cons h2 (.cons h1 .nil)
      | cons h3 r => exact .cons h1 (.cons h2 (.cons h3 r))
/-- the tables of the law's lambdas -/
abbrev tabT (P : Addr) : List (Addr × Str) := [(P, "law.<locals>.<lambda>")]
end K77

set_option Elab.async false
set_option linter.all false
set_option maxRecDepth 100000
set_option maxHeartbeats 400000
namespace K77
open PySem PySem.Spec PyProof.Rows L2 DL
/-! ### the law: what it leans on -/
theorem tabs_nol {T : List (Addr × Str)} {H H' : Hp} (e : NoL H H') (h : LamX.Tabs T H) : LamX.Tabs T H' := fun p hp => by
  obtain ⟨ps, h1, h2, h3⟩ := h p hp
  refine ⟨ps, e _ _ (fun xs z => nomatch z) h1, h2, fun pos cv hc => ?_⟩
  obtain ⟨c, e1, e2⟩ := h3 pos cv hc
  exact ⟨c, e1, e _ _ (fun xs z => nomatch z) e2⟩
theorem StAt.ext {a c : Addr} {H H' : Hp} {N : Nat} (h : StAt H a c N) (e : LamX.ExtN H H') : StAt H' a c N := by
  obtain ⟨ns, cur, cnt, mix, h1, h2, h3⟩ := h
  exact ⟨ns, cur, cnt, mix, e _ _ h1 (fun _ z => nomatch z), e _ _ h2 (fun _ z => nomatch z), h3⟩
theorem logT_ok {r : Raw} {l : List LRow} (h : LogOk r l) (hm : r.lam.length ≤ 3) : Okb 5 (logT l) ∧ LogSc (logT l) := by
  obtain ⟨h1, h2⟩ := h
  refine ⟨⟨by rw [List.length_map]; omega, fun x hx => ?_⟩, fun row hrow w hw p hp a ha => ?_⟩
  · obtain ⟨y, hy, rfl⟩ := List.mem_map.mp hx
    obtain ⟨y1, y2⟩ := h2 y hy
    refine ⟨by show 3 ≤ 16; decide, fun z hz => ?_⟩
    rcases List.mem_cons.mp hz with rfl | hz
    · trivial
    rcases List.mem_cons.mp hz with rfl | hz
    · trivial
    rw [List.mem_singleton.mp hz]
    refine ⟨by rw [List.length_map]; omega, fun u hu => ?_⟩
    obtain ⟨v, hv, rfl⟩ := List.mem_map.mp hu
    refine ⟨by show 2 ≤ 16; decide, fun z hz => ?_⟩
    rcases List.mem_cons.mp hz with rfl | hz
    · trivial
    rw [List.mem_singleton.mp hz]
    exact okb_ints (by have := y2 v hv; omega)
  · obtain ⟨y, hy, rfl⟩ := List.mem_map.mp (show row ∈ l.map lrT from hrow)
    have hw : some (Tr.lst (y.2.2.map wvT)) = some w := hw
    obtain rfl := Option.some.inj hw
    obtain ⟨v, hv, rfl⟩ := List.mem_map.mp (show p ∈ y.2.2.map wvT from hp)
    have ha : some (Tr.str v.1) = some a := ha
    rw [← Option.some.inj ha]
    rfl
theorem thing_lse {d e : Tr} (h : Lse 5 d e) (o : Okb 5 d) (s : LogSc d) : ThingOk e :=
  ⟨okt_okc (okb_okt (lse_okb h o)), fun _ => ⟨okb_okt (lse_okb h o), lse_logSc (n := 1) h s⟩⟩
section
variable {P : Program} {w : World} {K : PySem.W.Frag} {mg : Str → Option Value} {base : Heap} {f : Addr} {fd : FuncData}
/-- the rule for a def whose code object is known -/
theorem okC {CX : CXT} {x qual : Str} {params : Arguments} {body : List Stmt} {scope : Scope} {N ps : List Str} {k : Nat} {sp : Sp} {c : Addr} (F : FunD K x qual params body scope [] [] f fd) (hc : fd.code = .ref c) (S : FnScope N ps scope) (len : ∀ vs H Q E, sp vs H Q E → vs.length = ps.length)
    (hbody : ∀ (A : Around) (outer : List Env) (s : Shared) (H : Hp) (vs : List V) (Q : VK) (E : XK), Room k (A.deeper (envOfC qual scope s.heap.objs.size f (.ref c))) → sp vs H Q E →
      ∃ t, PSs (cxOf CX P w K mg base N qual scope f (.ref c) A outer s H E) body t ∧ t { nx := fun _ H' => Q .non H', rt := Q } (L2.start N vs) H) : FnOk P w K mg base CX (k + 1) f fd ps sp := by
  obtain ⟨oc, od, dV, kV, doc, pm, an, cdv, ct, osl, rfl, lk, hcd, _, _⟩ := F.ex
  have e : cdv = .ref c := hc
  subst e
  exact fn_of lk hcd S len fun A outer s H vs Q E hr hsp => hbody A outer s H vs Q E hr hsp
theorem pe_told {X : Cx} (W : Wld X.K X.mg) {fdT : FuncData} (FT : FnP X.K "_law_told" s_law_told (He.ga X.K "_law_told") fdT) (bT : Binds X.K fdT ["ask"] []) {c tb : Addr} {k : Nat} {params : Arguments} {body : Expr} {scope : Scope} {t : XK → TE} {p lpos pos : Pos}
    (TB : LamX.TabB X.base X.mg c tb) (hcode : X.env.code = .ref c) (hr : Room (k + 2) X.A) (L : LamX.LamS X.env.scope scope) (hg : Gl X "_law_told") (hdef : defaultsOf params X.env = ([], []))
    (hbind : ∀ (q : Str) (cl : List (Str × Addr)) (pm cv ctv : Value), bindArgs (PySem.W.kla_fn "<lambda>" q params body scope cl pm cv ctv) ⟨[], []⟩ = pure [])
    (hbody : ∀ (A : Around) (outer : List Env) (s : Shared) (H : Hp) (E : XK) (f c' : Addr), Room k (A.deeper (LamX.lamEnv X scope s.heap.objs.size f c')) → PE (LamX.lamCx X A outer s H E scope f c') body (t E)) :
    PE X (.Call (.Name "_law_told" p) [.Lambda params body scope lpos] [] pos) (LamX.tLam [(tb, X.env.qual ++ "<lambda>")] (TTk X.K) t) := by
  obtain ⟨oc, od, dV, kV, doc, pm, an, cdv, ct, osl, rfl, lk, hcd, _, _⟩ := FT.ex
  exact LamX.pe_lamcall (Ng := ["ask", "found", "e"]) hg W.g_law_told FT.kp lk hcd bT sc_law_told rfl (.inl rfl) (told_gives W) TB hcode List.mem_cons_self (fun p hp _ => by rw [List.mem_singleton.mp hp]) hr L hdef hbind hbody
theorem takesL {X : Cx} {A : Around} {outer : List Env} {s : Shared} {H : Hp} {E : XK} {scope : Scope} {f c' : Addr} : Passes (L2.CX X.prog X.w) (LamX.lamCx X A outer s H E scope f c') E := passes_call (takes_of rfl rfl rfl rfl) fun _ _ _ _ h => h
/-- what ask stands for -/
def Asks (K : PySem.W.Frag) (f : Addr) (sp : Sp) : Prop := (f = He.ga K "log_text" ∧ sp = spAsk K (yText K)) ∨ (f = He.ga K "read_log" ∧ sp = spRead K)
theorem asks_ok (W : Wld K mg) (f : Addr) (sp : Sp) (h : Asks K f sp) : ∃ fd ps, FnOk P w K mg base (L2.CX P w) 8 f fd ps sp ∧ PySem.W.keepIn K (.ref f) = true ∧ Binds K fd ps [] := by
  rcases h with ⟨rfl, rfl⟩ | ⟨rfl, rfl⟩
  · obtain ⟨fd, F, b⟩ := (clog_text (P := P) (w := w) (base := base) W).ex
    exact ⟨fd, _, F, (clog_text (P := P) (w := w) (base := base) W).kp, b⟩
  · obtain ⟨fd, F, b⟩ := (cread_log (P := P) (w := w) (base := base) W).ex
    exact ⟨fd, _, F.mono (by decide), (cread_log (P := P) (w := w) (base := base) W).kp, b⟩
theorem pe_toldA {X : Cx} (W : Wld X.K X.mg) {fdT : FuncData} (FT : FnP X.K "_law_told" s_law_told (He.ga X.K "_law_told") fdT) (bT : Binds X.K fdT ["ask"] []) {c tb : Addr} {params : Arguments} {scope : Scope} {p lpos pos q1 q2 q3 q4 : Pos}
    (TB : LamX.TabB X.base X.mg c tb) (hcode : X.env.code = .ref c) (hr : Room 10 X.A) (L : LamX.LamS X.env.scope scope) (hg : Gl X "_law_told") (hdef : defaultsOf params X.env = ([], []))
    (hbind : ∀ (q : Str) (cl : List (Str × Addr)) (pm cv ctv : Value), bindArgs (PySem.W.kla_fn "<lambda>" q params (.Call (.Name "read_log" q1) [.Name "machine" q2, .Name "thing" q3] [] q4) scope cl pm cv ctv) ⟨[], []⟩ = pure [])
    (h4 : X.N[4]? = some ("machine" : Str)) (h9 : X.N[9]? = some ("thing" : Str)) (v4 : Vis scope "machine") (v9 : Vis scope "thing") (gl : scope.names.lookup ("read_log" : Str) = some NameKind.globalImplicit) :
    PE X (.Call (.Name "_law_told" p) [.Lambda params (.Call (.Name "read_log" q1) [.Name "machine" q2, .Name "thing" q3] [] q4) scope lpos] [] pos) (LamX.tLam [(tb, X.env.qual ++ "<lambda>")] (TTk X.K) fun E => tCall (spRead X.K) [] E (tCons (tVar 4) (tCons (tVar 9) tNil))) :=
  pe_told (k := 8) W FT bT TB hcode hr L hg hdef hbind fun A outer s H E f c' hr2 => pe_r (X := LamX.lamCx X A outer s H E scope f c') (cread_log (P := X.prog) (w := X.w) (K := X.K) (mg := X.mg) (base := X.base) W) (hr2.mono (by decide)) (takesL (X := X) (A := A) (outer := outer) (s := s) (H := H) (E := E) (scope := scope) (f := f) (c' := c')) (pa_cons (pe_var (i := 4) h4 v4 (by decide) (by decide)) (pa_cons (pe_var (i := 9) h9 v9 (by decide) (by decide)) pa_nil)) gl
theorem pe_toldC {X : Cx} (W : Wld X.K X.mg) {fdT : FuncData} (FT : FnP X.K "_law_told" s_law_told (He.ga X.K "_law_told") fdT) (bT : Binds X.K fdT ["ask"] []) {c tb : Addr} {params : Arguments} {scope : Scope} {p lpos pos q1 q2 q3 q4 : Pos}
    (TB : LamX.TabB X.base X.mg c tb) (hcode : X.env.code = .ref c) (hr : Room 10 X.A) (L : LamX.LamS X.env.scope scope) (hg : Gl X "_law_told") (hdef : defaultsOf params X.env = ([], []))
    (hbind : ∀ (q : Str) (cl : List (Str × Addr)) (pm cv ctv : Value), bindArgs (PySem.W.kla_fn "<lambda>" q params (.Call (.Name "log_text" q1) [.Name "machine" q2, .Name "bent" q3] [] q4) scope cl pm cv ctv) ⟨[], []⟩ = pure [])
    (h4 : X.N[4]? = some ("machine" : Str)) (h13 : X.N[13]? = some ("bent" : Str)) (v4 : Vis scope "machine") (v13 : Vis scope "bent") (gl : scope.names.lookup ("log_text" : Str) = some NameKind.globalImplicit) :
    PE X (.Call (.Name "_law_told" p) [.Lambda params (.Call (.Name "log_text" q1) [.Name "machine" q2, .Name "bent" q3] [] q4) scope lpos] [] pos) (LamX.tLam [(tb, X.env.qual ++ "<lambda>")] (TTk X.K) fun E => tCall (spAsk X.K (yText X.K)) [] E (tCons (tVar 4) (tCons (tVar 13) tNil))) :=
  pe_told (k := 8) W FT bT TB hcode hr L hg hdef hbind fun A outer s H E f c' hr2 => pe_r (X := LamX.lamCx X A outer s H E scope f c') (clog_text (P := X.prog) (w := X.w) (K := X.K) (mg := X.mg) (base := X.base) W) hr2 (takesL (X := X) (A := A) (outer := outer) (s := s) (H := H) (E := E) (scope := scope) (f := f) (c' := c')) (pa_cons (pe_var (i := 4) h4 v4 (by decide) (by decide)) (pa_cons (pe_var (i := 13) h13 v13 (by decide) (by decide)) pa_nil)) gl
theorem pe_toldB {X : Cx} (W : Wld X.K X.mg) {fdT : FuncData} (FT : FnP X.K "_law_told" s_law_told (He.ga X.K "_law_told") fdT) (bT : Binds X.K fdT ["ask"] []) {c tb : Addr} {params : Arguments} {scope : Scope} {p lpos pos q1 q2 q3 q4 : Pos} {j : Nat}
    (TB : LamX.TabB X.base X.mg c tb) (hcode : X.env.code = .ref c) (hr : Room 10 X.A) (L : LamX.LamS X.env.scope scope) (hg : Gl X "_law_told") (hdef : defaultsOf params X.env = ([], []))
    (hbind : ∀ (q : Str) (cl : List (Str × Addr)) (pm cv ctv : Value), bindArgs (PySem.W.kla_fn "<lambda>" q params (.Call (.Name "ask" q1) [.Name "odd" q2, .Constant .none j q3] [] q4) scope cl pm cv ctv) ⟨[], []⟩ = pure [])
    (h15 : X.N[15]? = some ("odd" : Str)) (h16 : X.N[16]? = some ("ask" : Str)) (v15 : Vis scope "odd") (v16 : Vis scope "ask") :
    PE X (.Call (.Name "_law_told" p) [.Lambda params (.Call (.Name "ask" q1) [.Name "odd" q2, .Constant .none j q3] [] q4) scope lpos] [] pos) (LamX.tLam [(tb, X.env.qual ++ "<lambda>")] (TTk X.K) fun E => tCallAR 16 (Asks X.K) E (tCons (tVar 15) (tCons (tC .non) tNil))) :=
  pe_told (k := 8) W FT bT TB hcode hr L hg hdef hbind fun A outer s H E f c' hr2 => pe_callAR (X := LamX.lamCx X A outer s H E scope f c') (i := 16) (asks_ok (P := X.prog) (w := X.w) (K := X.K) (mg := X.mg) (base := X.base) W) hr2 (takesL (X := X) (A := A) (outer := outer) (s := s) (H := H) (E := E) (scope := scope) (f := f) (c' := c')) h16 v16 (pa_cons (pe_var (i := 15) h15 v15 (by decide) (by decide)) (pa_cons pe_non pa_nil))
end
end K77

set_option Elab.async false
set_option linter.all false
set_option maxRecDepth 100000
set_option maxHeartbeats 400000
set_option pp.deepTerms.threshold 6
set_option pp.maxSteps 4000
namespace K77
open PySem PySem.Spec PyProof.Rows L2 DL
/-! ### the plain law of the texts -/
theorem good_mem {r : Raw} {x : LRow} : ∀ {l : List LRow} {n : Str}, GoodAll r n l → x ∈ l → RowG r x
  | y :: t, n, ⟨h1, h2, h3⟩, h => by
    rcases List.mem_cons.mp h with rfl | h
    · exact h1
    · exact good_mem h3 h
theorem wv_le {r : Raw} {ws : List Wv} (h : WvOk r ws) {y : Wv} (hy : y ∈ ws) : y.1 ∈ r.lam ∧ ∀ b ∈ y.2, b ≤ 1 := by
  obtain ⟨j, hj, rfl⟩ := List.mem_iff_getElem.mp hy
  obtain ⟨a, b, c⟩ := h j _ (List.getElem?_eq_getElem hj)
  exact ⟨List.mem_of_getElem? a, c⟩
theorem bits_len {bs : List Nat} (h : ∀ b ∈ bs, b ≤ 1) : (bs.flatMap TL.numL).length = bs.length := by
  induction bs with
  | nil => rfl
  | cons b r ih =>
    rw [List.flatMap_cons, List.length_append, ih fun b hb => h b (List.mem_cons_of_mem _ hb)]
    have hb := h b List.mem_cons_self
    rw [TL.numL_lt (by omega), List.length_cons]
    simp
    omega
theorem txt_ok {r : Raw} {l : List LRow} (R : RawOk r) (h : GoodAll r (st0 r) l) (ht : (textL l).length ≤ 100000) : TxtOk l := by
  refine ⟨ht, fun x hx => ?_⟩
  obtain ⟨⟨q, hq, _⟩, _, hw⟩ := good_mem h hx
  have := (List.getElem?_eq_some_iff.mp hq).1
  have := R.vl
  refine ⟨by omega, fun y hy b hb => ?_⟩
  have := (wv_le hw hy).2 b hb
  omega
theorem row_small {r : Raw} {x : LRow} (R : RawOk r) (sm : Small r) (h : RowG r x) (hl : ∀ y ∈ x.2.2, y.2.length ≤ 8) : ((rowL x).map fun y => y.length + 1).sum ≤ 100 := by
  obtain ⟨⟨q, hq, hx⟩, hn, hw⟩ := h
  have hk := (List.getElem?_eq_some_iff.mp hq).1
  have hv := sm.v
  have hm := sm.m
  have nx : x.1.length ≤ 8 := by
    have h1 := (R.mo.1 q (List.mem_of_getElem? hq)).1
    rw [← hx] at h1
    obtain ⟨s, hs, e⟩ := List.mem_map.mp h1
    obtain ⟨i, hi, rfl⟩ := List.mem_iff_getElem.mp hs
    have := R.so i _ (List.getElem?_eq_getElem hi)
    rw [← e]
    exact this.1.2
  have m3 : x.1.cps.toList.length = x.1.length := Array.length_toList
  have m2 : (mvL x.1 x.2.1).length = 7 + x.1.cps.toList.length := by
    unfold mvL
    rw [TL.numL_lt (by omega)]
    simp
    omega
  have wq : ∀ ws : List Wv, (∀ y ∈ ws, (wvL y).length ≤ 22) → ((ws.map wvL).map fun y => y.length + 1).sum ≤ 23 * ws.length := by
    intro ws
    induction ws with
    | nil => intro _; exact Nat.le_refl 0
    | cons y ws ih =>
      intro h
      have a := h y List.mem_cons_self
      have b := ih fun y hy => h y (List.mem_cons_of_mem _ hy)
      rw [List.map_cons, List.map_cons, List.sum_cons, List.length_cons]
      omega
  have := wq x.2.2 fun y hy => by
    obtain ⟨y1, y2⟩ := wv_le hw hy
    have w3 : y.1.cps.toList.length = y.1.length := Array.length_toList
    have w4 : y.1.length ≤ 8 := (R.mw _ y1).1.1.2
    have w5 := hl y hy
    have w6 := bits_len y2
    have w2 : (wvL y).length = 6 + y.1.cps.toList.length + (y.2.flatMap TL.numL).length := by
      unfold wvL
      simp
      omega
    omega
  unfold rowL
  rw [List.map_cons, List.sum_cons]
  omega
theorem text_small {r : Raw} {l : List LRow} (R : RawOk r) (sm : Small r) (hl : LogOk r l) (hg : GoodAll r (st0 r) l) : (textL l).length ≤ 600 := by
  obtain ⟨l6, hx⟩ := hl
  have key : ∀ l : List LRow, (∀ x ∈ l, ((rowL x).map fun y => y.length + 1).sum ≤ 100) → (textL l).length ≤ 100 * l.length := by
    intro l
    induction l with
    | nil => intro _; exact Nat.zero_le _
    | cons x l ih =>
      intro h
      have a := h x List.mem_cons_self
      have b := ih fun y hy => h y (List.mem_cons_of_mem _ hy)
      have e : textL (x :: l) = (rowL x).flatMap (· ++ [10]) ++ textL l := by
        unfold textL linesOf
        rw [List.flatMap_cons, List.flatMap_append]
      rw [e, List.length_append, len_flat, List.length_cons]
      omega
  have := key l fun x h => row_small R sm (good_mem hg h) fun y hy => (hx x h).2 y hy
  omega
theorem text_len (l : List LRow) : (textOf l).length = (textL l).length := SX.S_len _
/-- a log that was read -/
theorem read_ok {r : Raw} {x : Str} {l : List LRow} (R : RawOk r) (h : readP r x = .inr l) (hx : x.length ≤ 10000) : isLogT r (logT l) = true ∧ TxtOk l ∧ textOf l = x ∧ Okt 5 (logT l) ∧ LogSc (logT l) ∧ ∀ n, Okd (n + 5) (logT l) := by
  have hg := read_good h
  have ht := read_text h
  have hl : (textL l).length ≤ 10000 := by rw [← text_len, ht]; exact hx
  have lc := lines_cnt l
  have ll : l.length ≤ (linesOf l).length := by
    unfold linesOf
    rw [List.length_flatMap]
    clear lc hl ht hg h
    induction l with
    | nil => exact Nat.zero_le _
    | cons x l ih =>
      rw [List.map_cons, List.sum_cons, List.length_cons]
      have : (rowL x).length = 1 + x.2.2.length := by
        unfold rowL
        rw [List.length_cons, List.length_map]
        omega
      omega
  have wl : ∀ x ∈ l, ∀ y ∈ x.2.2, y.2.length ≤ 10000 := fun x hx y hy => by
    have z := lines_mem (l := l) (rowL_mem hx (List.mem_cons_of_mem _ (List.mem_map.mpr ⟨y, hy, rfl⟩)) : wvL y ∈ linesOf l)
    have w6 := bits_len (wv_le (good_mem hg hx).2.2 hy).2
    unfold wvL at z
    simp only [List.length_append] at z
    omega
  have vl : ∀ x ∈ l, x.2.2.length ≤ 10000 := fun x hx => by
    rw [(good_mem hg hx).2.1]
    have := R.ml
    omega
  refine ⟨good_log hg, txt_ok R hg (by omega), ht, ?_, ?_, fun n => ?_⟩
  · refine ⟨by rw [List.length_map]; omega, fun z hz => ?_⟩
    obtain ⟨y, hy, rfl⟩ := List.mem_map.mp hz
    refine ⟨by show 3 ≤ 100000; decide, fun z hz => ?_⟩
    rcases List.mem_cons.mp hz with rfl | hz
    · trivial
    rcases List.mem_cons.mp hz with rfl | hz
    · trivial
    rw [List.mem_singleton.mp hz]
    refine ⟨by rw [List.length_map]; have := vl y hy; omega, fun u hu => ?_⟩
    obtain ⟨v, hv, rfl⟩ := List.mem_map.mp hu
    refine ⟨by show 2 ≤ 100000; decide, fun z hz => ?_⟩
    rcases List.mem_cons.mp hz with rfl | hz
    · trivial
    rw [List.mem_singleton.mp hz]
    refine ⟨by rw [List.length_map]; have := wl y hy v hv; omega, fun z hz => ?_⟩
    obtain ⟨k, _, rfl⟩ := List.mem_map.mp hz
    trivial
  · intro row hrow w hw p hp a ha
    obtain ⟨y, hy, rfl⟩ := List.mem_map.mp (show row ∈ l.map lrT from hrow)
    have hw : some (Tr.lst (y.2.2.map wvT)) = some w := hw
    obtain rfl := Option.some.inj hw
    obtain ⟨v, hv, rfl⟩ := List.mem_map.mp (show p ∈ y.2.2.map wvT from hp)
    have ha : some (Tr.str v.1) = some a := ha
    rw [← Option.some.inj ha]
    rfl
  · refine ⟨by rw [List.length_map]; omega, fun z hz => ?_⟩
    obtain ⟨y, hy, rfl⟩ := List.mem_map.mp hz
    refine ⟨by show 3 ≤ 1000000; decide, fun z hz => ?_⟩
    rcases List.mem_cons.mp hz with rfl | hz
    · trivial
    rcases List.mem_cons.mp hz with rfl | hz
    · trivial
    rw [List.mem_singleton.mp hz]
    refine ⟨by rw [List.length_map]; have := vl y hy; omega, fun u hu => ?_⟩
    obtain ⟨v, hv, rfl⟩ := List.mem_map.mp hu
    refine ⟨by show 2 ≤ 1000000; decide, fun z hz => ?_⟩
    rcases List.mem_cons.mp hz with rfl | hz
    · trivial
    rw [List.mem_singleton.mp hz]
    refine ⟨by rw [List.length_map]; have := wl y hy v hv; omega, fun z hz => ?_⟩
    obtain ⟨k, _, rfl⟩ := List.mem_map.mp hz
    cases n <;> trivial
end K77

set_option Elab.async false
set_option linter.all false
set_option maxRecDepth 100000
set_option maxHeartbeats 400000
set_option pp.deepTerms.threshold 6
set_option pp.maxSteps 4000
namespace K77
open PySem PySem.Spec PyProof.Rows L2 DL
section
variable {P : Program} {w : World} {K : PySem.W.Frag} {mg : Str → Option Value} {base : Heap} {f : Addr} {fd : FuncData}
theorem same_all (W : Wld K mg) (F : FnP K "_law_same" s_law_same (He.ga K "_law_same") fd) (b : Binds K fd ["found", "due"] []) : ∀ n : Nat, FnOk P w K mg base CX0 n (He.ga K "_law_same") fd ["found", "due"] (spSame K n)
  | 0 => ⟨fun vs H Q E h => h.elim, fun _ _ _ _ _ _ _ _ _ _ _ _ _ h => h.elim⟩
  | n + 1 => ok_same n W F W.g_law_same F.kp b (same_all W F b n)
theorem c_law_same (W : Wld K mg) (n : Nat) : Cal P w K mg base n "_law_same" ["found", "due"] (spSame K n) := by
  obtain ⟨fd, F⟩ := W.c.def_ 36 rfl
  have b : Binds K fd ["found", "due"] [] := F.bindsN fun _ _ _ _ _ _ us hl => match us, hl with | [_, _], _ => rfl
  exact ⟨⟨fd, same_all W F b n, b⟩, W.g_law_same, F.kp⟩
end
theorem okd_mono : ∀ {n : Nat} {d : Tr}, Okd n d → Okd (n + 1) d
  | n, .non, _ => by cases n <;> trivial
  | n, .bl _, _ => by cases n <;> trivial
  | n, .int _, _ => by cases n <;> trivial
  | n, .str _, _ => by cases n <;> trivial
  | 0, .lst _, h => h.elim
  | 0, .tup _, h => h.elim
  | 0, .dic _, h => h.elim
  | 1, .dic _, h => h.elim
  | n + 1, .lst xs, h => ⟨h.1, fun x hx => okd_mono (h.2 x hx)⟩
  | n + 1, .tup xs, h => ⟨h.1, fun x hx => okd_mono (h.2 x hx)⟩
  | n + 2, .dic kvs, h => ⟨h.1, h.2.1, fun p hp => ⟨okd_mono (h.2.2 p hp).1, (h.2.2 p hp).2⟩⟩
theorem p_asg {te : TE} {g : TG} {u : TS} {D : Ends} {σ : L2.St} {H : Hp} (F : V → Hp → Prop) (main : ∀ Q' : VK, (∀ v H', F v H' → Q' v H') → te σ H Q') (tail : ∀ v H', F v H' → g v σ H' (u D)) : tSeq (tAsg te g) u D σ H := main _ tail
theorem lse_refl : ∀ (n : Nat) (d : Tr), Lse n d d
  | 0, _ => rfl
  | n + 1, d => by
    cases h : isSeq d with
    | false => exact .inl ⟨h, rfl⟩
    | true => exact .inr ⟨h, h, rfl, fun i x y h1 h2 => by
        rw [h1] at h2
        obtain rfl := Option.some.inj h2
        exact lse_refl n _⟩
theorem lse_self {n : Nat} {d : Tr} : Lse n d d := lse_refl n d
/-- what is read -/
def ThingV (K : PySem.W.Frag) (G : Hp) (v : V) : Prop := (∃ x : Str, v = .str x ∧ x.length ≤ 10000) ∨ ∃ d, Den K true G v d ∧ isS d = false
theorem ThingV.mono {K : PySem.W.Frag} {G G' : Hp} {v : V} (h : ThingV K G v) (e : Ex G G') : ThingV K G' v := by
  rcases h with h | ⟨d, h1, h2⟩
  · exact .inl h
  · exact .inr ⟨d, h1.mono e.kp, h2⟩
/-- the first things -/
def things (X : Str) (q : Addr) : List V := [.str X, .str "", .str "\n", .str (cutS X none (some (-1))), .str (X ++ X), .non, .int 5, .ref q, .bl true]
theorem things_ok {K : PySem.W.Frag} {G : Hp} {X : Str} {q : Addr} (hq : G q = some (.lst [.str X])) (hX : X.length ≤ 5000) {us : List Str} (hu : ∀ u ∈ us, u.length ≤ 10000) {v : V} (hv : v ∈ things X q ++ strsV us) : ThingV K G v := by
  have la : ∀ (a b : Str), (a ++ b).length = a.length + b.length := fun a b => by rw [TL.len_tl, TL.tl_append, List.length_append, TL.len_tl, TL.len_tl]
  have l0 : ("" : Str).length = 0 := by decide +kernel
  have l1 : ("\n" : Str).length = 1 := by decide +kernel
  rcases List.mem_append.mp hv with hv | hv
  · unfold things at hv
    simp only [List.mem_cons, List.not_mem_nil, or_false] at hv
    rcases hv with rfl | rfl | rfl | rfl | rfl | rfl | rfl | rfl | rfl
    · exact .inl ⟨_, rfl, by omega⟩
    · exact .inl ⟨_, rfl, by omega⟩
    · exact .inl ⟨_, rfl, by omega⟩
    · exact .inl ⟨_, rfl, by have := cutS_length X none (some (-1)); omega⟩
    · exact .inl ⟨_, rfl, by rw [la]; omega⟩
    · exact .inr ⟨.non, .non, rfl⟩
    · exact .inr ⟨.int 5, .int 5, rfl⟩
    · exact .inr ⟨.lst [.str X], .lst (SqL.of hq) (.cons (.str X) .nil), rfl⟩
    · exact .inr ⟨.bl true, .bl true, rfl⟩
  · obtain ⟨y, hy, rfl⟩ := strs_mem hv
    exact .inl ⟨y, rfl, hu y hy⟩
theorem bad_or {K : PySem.W.Frag} {H : Hp} {r : Raw} {y : V} {n : Nat} {T : Nat → Hp → Prop} {G : List LRow → Prop} (hb : (∃ x : Str, y = .str x ∧ x.length ≤ 10000 ∧ readP r x = .inl n) ∨ (n = 0 ∧ ∃ d, Den K true H y d ∧ isS d = false)) (h : ∀ H', Ex H H' → T n H') :
    (∃ x : Str, y = .str x ∧ x.length ≤ 10000 ∧ (∀ i : Nat, readP r x = .inl i → ∀ H', Ex H H' → T i H') ∧ (∀ l, readP r x = .inr l → G l)) ∨ (∃ d, Den K true H y d ∧ isS d = false ∧ ∀ H', Ex H H' → T 0 H') := by
  rcases hb with ⟨x, rfl, hx, hn⟩ | ⟨rfl, d, hd, hs⟩
  · refine .inl ⟨x, rfl, hx, fun i hi H' e => ?_, fun l hl => ?_⟩
    · rw [hn] at hi
      cases hi
      exact h H' e
    · rw [hn] at hl
      cases hl
  · exact .inr ⟨d, hd, hs, h⟩
section
variable {P : Program} {w : World} {K : PySem.W.Frag} {mg : Str → Option Value} {base : Heap} {f : Addr} {fd : FuncData}
abbrev lawT (tb : Addr) : List (Addr × Str) := [(tb, (envOfC "law" (defScope s_law) 0 0 .none).qual ++ "<lambda>")]
def spLaw (K : PySem.W.Frag) (tb : Addr) : Sp := fun vs H Q _ => ∃ (a0 : Addr) (ns : List Int), vs = [.ref a0] ∧ SqL K H a0 (ns.map V.int) ∧ ns.length ≤ 63 ∧ H tb = some (.tbl #[]) ∧ ∀ H', Q (.bl true) H'
theorem sc_law : FnScope ["script", "state", "turn", "raw", "machine", "log", "text", "some", "k", "thing", "mine", "line", "found", "bent", "kept", "odd", "ask"] ["script"] (defScope s_law) := ⟨rfl, rfl, rfl, by decide +kernel, rfl, by decide +kernel, by decide +kernel⟩
theorem ok_law (W : Wld K mg) (F : FnP K "law" s_law f fd) {c0 tb : Addr} (hc : fd.code = .ref c0) (TB : LamX.TabB base mg c0 tb) : FnOk P w K mg base CX0 11 f fd ["script"] (spLaw K tb) := by
  have C_law_start : Cal P w K mg base 1 "_law_start" ["script"] (spStart K) := c_law_start W
  have C_law_draw_machine : Cal P w K mg base 5 "_law_draw_machine" ["state", "levers", "lamps", "states", "moves"] (spDraw K) := c_law_draw_machine W
  have C_law_machine_of : Cal P w K mg base 9 "_law_machine_of" ["raw"] (spMacOf K) := c_law_machine_of W
  have C_law_draw_walk : Cal P w K mg base 4 "_law_draw_walk" ["state", "raw", "many"] (spWalk K) := c_law_draw_walk W
  have C_law_any_log : Cal P w K mg base 3 "_law_any_log" ["state", "raw", "walk"] (spAny K) := c_law_any_log W
  have C_law_bent_log : Cal P w K mg base 10 "_law_bent_log" ["state", "raw", "log"] (spBent K) := c_law_bent_log W
  have C_law_loose : Cal P w K mg base 9 "_law_loose" ["state", "thing"] (spLoose K 6) := c_law_loose W 6
  have C_law_is_log : Cal P w K mg base 3 "_law_is_log" ["raw", "thing"] (spLIs K) := c_law_is_log W
  have C_law_copy : Cal P w K mg base 6 "_law_copy" ["thing"] (spCopy K 6) := c_law_copy W 6
  have C_law_same : Cal P w K mg base 8 "_law_same" ["found", "due"] (spSame K 8) := c_law_same W 8
  have C_law_text_of : Cal P w K mg base 1 "_law_text_of" ["log"] (spLText K) := c_law_text_of W
  have C_law_bent : Cal P w K mg base 4 "_law_bent" ["state", "text"] (spBentT K) := c_law_bent W
  have C_law_read : Cal P w K mg base 3 "_law_read" ["raw", "text"] (spLRead K) := c_law_read W
  have Clog_text : CalR P w K mg base 8 "log_text" ["machine", "log"] (spAsk K (yText K)) := clog_text W
  obtain ⟨fdT, FT⟩ := W.c.def_ 58 rfl
  have bT : Binds K fdT ["ask"] [] := FT.bindsN fun _ _ _ _ _ _ us hl => match us, hl with | [_], _ => rfl
  refine okC F hc sc_law (fun vs H Q E h => ?_) (fun A outer s H vs Q E hr h => ?_)
  · obtain ⟨a0, ns, rfl, _⟩ := h
    rfl
  obtain ⟨a0, ns, rfl, hS0, hn, hT, k⟩ := h
  refine ⟨_, PSs.nox (pss_cons (ps_set (i := 1) sc_law.nd rfl (.inl rfl) (pe_c C_law_start (hr.mono (by decide)) (pa_cons (pv 0) pa_nil)))
    (pss_cons (ps_for PassesOwn.never rfl (pi_range1 (by rfl) W.n_range (pa_cons pe_int pa_nil)) (pg_name (i := 2) sc_law.nd rfl (.inl rfl))
    (pss_cons (ps_set (i := 3) sc_law.nd rfl (.inl rfl) (pe_c C_law_draw_machine (hr.mono (by decide)) (pa_cons (pv 1) (pa_cons pe_int (pa_cons pe_int (pa_cons pe_int (pa_cons pe_int pa_nil)))))))
    (pss_cons (ps_set (i := 4) sc_law.nd rfl (.inr rfl) (pe_c C_law_machine_of (hr.mono (by decide)) (pa_cons (pv 3) pa_nil)))
    (pss_cons (ps_set (i := 5) sc_law.nd rfl (.inl rfl) (pe_c C_law_any_log (hr.mono (by decide)) (pa_cons (pv 1) (pa_cons (pv 3) (pa_cons (pe_c C_law_draw_walk (hr.mono (by decide)) (pa_cons (pv 1) (pa_cons (pv 3) (pa_cons pe_int pa_nil)))) pa_nil)))))
    (pss_cons (ps_set (i := 6) sc_law.nd rfl (.inl rfl) (pe_c C_law_text_of (hr.mono (by decide)) (pa_cons (pv 5) pa_nil)))
    (pss_cons (ps_if (pt_not (pt_val (pe_c C_law_same (hr.mono (by decide)) (pa_cons (pe_r Clog_text (hr.mono (by decide)) pass1 (pa_cons (pv 4) (pa_cons (pe_c C_law_loose (hr.mono (by decide)) (pa_cons (pv 1) (pa_cons (pv 5) pa_nil))) pa_nil))) (pa_cons (pv 6) pa_nil)))))
    (pss_one (ps_ret pe_bl))
    pss_nil)
    (pss_cons (ps_set (i := 7) sc_law.nd rfl (.inl rfl) (pe_lst (pa_cons (pv 6) (pa_cons pe_str (pa_cons pe_str (pa_cons (pe_slice sl_str (pv 6) po_none (po_some (pe_un un_neg pe_int))) (pa_cons (pe_op op_add_str (pv 6) (pv 6)) (pa_cons pe_non (pa_cons pe_int (pa_cons (pe_lst (pa_cons (pv 6) pa_nil)) (pa_cons pe_bl pa_nil)))))))))))
    (pss_cons (ps_for PassesOwn.never rfl (pi_range1 (by rfl) W.n_range (pa_cons pe_int pa_nil)) (pg_name (i := 8) sc_law.nd rfl (.inl rfl))
    (pss_one (ps_expr (pe_bm PySem.F.plainAttrs_list PySem.F.slot_list_append PySem.F.type_list_append mt_append (pv 7) (pa_cons (pe_c C_law_bent (hr.mono (by decide)) (pa_cons (pv 1) (pa_cons (pe_ifExp (pt_cmpR op_lt (pv 8) pe_int (nomark _)) (pv 6) (pe_op op_add_str (pe_c C_law_bent (hr.mono (by decide)) (pa_cons (pv 1) (pa_cons (pv 6) pa_nil))) pe_str)) pa_nil))) pa_nil)))))
    (pss_cons (ps_for PassesOwn.never rfl (pi_list (pv 7)) (pg_name (i := 9) sc_law.nd rfl (.inr rfl))
    (pss_cons (ps_asg (pe_c C_law_read (hr.mono (by decide)) (pa_cons (pv 3) (pa_cons (pv 9) pa_nil))) (pg_tup rfl (pgs_cons (pg_name (i := 10) sc_law.nd rfl (.inl rfl)) (pgs_cons (pg_name (i := 11) sc_law.nd rfl (.inl rfl)) pgs_nil))))
    (pss_cons (ps_set (i := 12) sc_law.nd rfl (.inl rfl) (pe_toldA W FT bT TB rfl hr (LamX.lamS_by (sc := defScope s_law) (by decide +kernel)) rfl rfl (fun _ _ _ _ _ => rfl) rfl rfl (.inr (.inr rfl)) (.inr (.inr rfl)) rfl))
    (pss_cons (ps_if (pt_not (pt_val (pe_c C_law_same (hr.mono (by decide)) (pa_cons (pv 12) (pa_cons (pe_ifExp (pt_cmpR op_isN (pv 11) pe_non (nomark _)) (pe_tup (pa_cons pe_str (pa_cons (pv 10) pa_nil))) (pe_tup (pa_cons pe_str (pa_cons pe_str (pa_cons (pv 11) pa_nil))))) pa_nil)))))
    (pss_one (ps_ret pe_bl))
    pss_nil)
    (pss_one (ps_if (PW.pt (pw_and (pt_cmpR op_isN (pv 11) pe_non (nomark _)) (pw_and1 (pt_not (pt_val (pe_c C_law_same (hr.mono (by decide)) (pa_cons (pe_r Clog_text (hr.mono (by decide)) pass1 (pa_cons (pv 4) (pa_cons (pv 10) pa_nil))) (pa_cons (pv 9) pa_nil))))))))
    (pss_one (ps_ret pe_bl))
    pss_nil))))))
    (pss_cons (ps_for PassesOwn.never rfl (pi_range1 (by rfl) W.n_range (pa_cons pe_int pa_nil)) (pg_name (i := 8) sc_law.nd rfl (.inl rfl))
    (pss_cons (ps_set (i := 13) sc_law.nd rfl (.inr rfl) (pe_c C_law_bent_log (hr.mono (by decide)) (pa_cons (pv 1) (pa_cons (pv 3) (pa_cons (pv 5) pa_nil)))))
    (pss_cons (ps_set (i := 14) sc_law.nd rfl (.inl rfl) (pe_c C_law_copy (hr.mono (by decide)) (pa_cons (pv 13) pa_nil)))
    (pss_one (ps_if (PW.pt (pw_and (pt_not (pt_val (pe_c C_law_is_log (hr.mono (by decide)) (pa_cons (pv 3) (pa_cons (pv 13) pa_nil))))) (pw_and1 (pt_not (pt_val (pe_c C_law_same (hr.mono (by decide)) (pa_cons (pe_toldC W FT bT TB rfl hr (LamX.lamS_by (sc := defScope s_law) (by decide +kernel)) rfl rfl (fun _ _ _ _ _ => rfl) rfl rfl (.inr (.inr rfl)) (.inr (.inr rfl)) rfl) (pa_cons (pe_tup (pa_cons pe_str (pa_cons pe_str (pa_cons (pv 14) pa_nil)))) pa_nil))))))))
    (pss_one (ps_ret pe_bl))
    pss_nil)))))
    (pss_one (ps_for PassesOwn.never rfl (pi_tup (pe_tup (pa_cons pe_non (pa_cons (pv 6) (pa_cons pe_int (pa_cons (pv 3) pa_nil)))))) (pg_name (i := 15) sc_law.nd rfl (.inr rfl))
    (pss_one (ps_for PassesOwn.never rfl (pi_tup (pe_tup (pa_cons (pe_glob (v := .ref (He.ga K "log_text")) (by rfl) W.g_log_text rfl) (pa_cons (pe_glob (v := .ref (He.ga K "read_log")) (by rfl) W.g_read_log rfl) pa_nil)))) (pg_name (i := 16) sc_law.nd rfl (.inr rfl))
    (pss_one (ps_if (pt_not (pt_val (pe_c C_law_same (hr.mono (by decide)) (pa_cons (pe_toldB W FT bT TB rfl hr (LamX.lamS_by (sc := defScope s_law) (by decide +kernel)) rfl rfl (fun _ _ _ _ _ => rfl) rfl rfl (.inr (.inr rfl)) (.inr (.inr rfl))) (pa_cons (pe_tup (pa_cons pe_str (pa_cons pe_str (pa_cons (pv 15) pa_nil)))) pa_nil)))))
    (pss_one (ps_ret pe_bl))
    pss_nil))))))))))))))))
    (pss_one (ps_ret pe_bl)))), ?_⟩
  refine ⟨_, rfl, a0, ns, rfl, hS0, hn, fun a c H1 S1 e1 fa fc => ?_⟩
  have T1 : LamX.Tabs (lawT tb) H1 := fun p hp => by
    rw [List.mem_singleton.mp hp]
    exact LamX.TabS.nil (e1 _ _ hT)
  refine ⟨3, rfl, by decide, by decide, ?_⟩
  refine for_range (n := 3) (fun i σ H' => StAt H' a c (i * 100000000) ∧ LamX.Tabs (lawT tb) H' ∧ ∃ o2 o3 o4 o5 o6 o7 o8 o9 o10 o11 o12 o13 o14 o15 o16, σ = [some (.ref a0), some (.ref a), o2, o3, o4, o5, o6, o7, o8, o9, o10, o11, o12, o13, o14, o15, o16])
    ⟨S1, T1, _, _, _, _, _, _, _, _, _, _, _, _, _, _, _, rfl⟩ ?_ ?_
  rotate_left
  · rintro σ H2 ⟨S2, T2, o2, o3, o4, o5, o6, o7, o8, o9, o10, o11, o12, o13, o14, o15, o16, rfl⟩
    exact k H2
  rintro i σ H2 hi ⟨S2, T2, o2, o3, o4, o5, o6, o7, o8, o9, o10, o11, o12, o13, o14, o15, o16, rfl⟩
  refine ⟨_, rfl, a, c, _, rfl, S2, by omega, fun R r H3 S3 B3 fR hR ok sm => ?_⟩
  have T3 := tabs_nol (NoL.bar S2 B3) T2
  refine ⟨_, rfl, fun b => b = a ∨ b = c, R, r, rfl, hR.mono hs_ex, ok, sm, fun z hz => ?_, fun m H4 e4 hm => ?_⟩
  · obtain ⟨⟨o, z1⟩, ⟨u, z2⟩⟩ := S3.ne
    rcases hz with rfl | rfl
    · rw [z1]; exact fun w => nomatch w
    · rw [z2]; exact fun w => nomatch w
  have S4 := S3.mono e4
  have T4 := T3.ext e4
  have hR4 := hR.mono (hs_of e4)
  refine ⟨_, rfl, _, rfl, _, rfl, _, rfl, a, c, R, _, r, rfl, S4, by omega, hR4, ok, fun W0 ws H5 S5 B5 fW hW wl wx ww => ?_⟩
  have T5 := tabs_nol (NoL.bar S4 B5) T4
  obtain ⟨Wa, Wc⟩ := S4.fresh fW
  refine ⟨a, c, R, W0, _, r, ws, rfl, S5, by omega, hR4.mono B5.hs, ok, sm, SqL.of (hs_at Wa Wc hW), by omega, wx, ww, fun L l H6 S6 B6 fL hL lok hg => ?_⟩
  have T6 := tabs_nol (NoL.bar S5 B6) T5
  have Q4 : Ex (hs a c H4) (hs a c H6) := B5.hs.trans B6.hs
  have hR6 := raw_t (hs_ht (a := a) (c := c)) (hR4.mono Q4)
  have hm6 := mac_t (hs_ht (a := a) (c := c)) ((show MacAt K (hs a c H4) m r from hm).mono Q4)
  have hL6 := den_t (hs_ht (a := a) (c := c)) hL
  have tsm := text_small ok sm lok hg
  have tok := txt_ok ok hg (by omega)
  have hgl := good_log hg
  obtain ⟨lo5, los⟩ := logT_ok lok sm.m
  -- the text
  refine ⟨_, rfl, .ref L, l, rfl, hL.mono hs_ex.kp, tok, fun H7 e7 => ?_⟩
  have S7 := S6.mono e7
  have T7 := T6.ext e7
  have hL7 := hL.mono (hs_of (a := a) (c := c) e7).kp
  have E7 := ht_of (a := a) (c := c) e7
  have tx := text_len l
  generalize hX : textOf l = X at tx ⊢
  refine ⟨_, rfl, _, rfl, _, rfl, a, c, _, .ref L, logT l, rfl, S7, by show _ + 17 ^ 5 < _; omega, hL7, lo5, fun v' e H8 S8 B8 lse dn => ?_⟩
  have lok5 := lse_log (r := r) (n := 0) lse
  have tk := thing_lse lse lo5 los
  have Q8 := ht_bar (a := a) (c := c) B8
  have T8 := tabs_nol (NoL.bar S7 B8) T7
  have dn8 : Den K true H8 v' e := dn.mono hid_ex.kp
  refine ⟨.ref m, v', rfl, .inl ⟨m, r, e, rfl, (hm6.mono (E7.trans Q8)).mono ht_ex, ok, dn8, tk.2, fun _ => ⟨l, lse, tok, fun H9 e9 => ?_⟩, fun z => by rw [lok5, hgl] at z; cases z⟩⟩
  rw [hX]
  refine ⟨_, rfl, .str X, .str X, .str X, .str X, rfl, .str X, .str X, trivial, fun H10 e10 => ⟨_, rfl, ?_⟩⟩
  rw [decide_eq_true rfl]
  refine iteF ?_
  have x10 := e9.trans e10
  have S10 := S8.mono x10
  have T10 := T8.ext x10
  have E10 := (E7.trans Q8).trans (ht_of (a := a) (c := c) x10)
  have hR10 := hR6.mono E10
  have hm10 := hm6.mono E10
  have hL10 := hL6.mono E10.kp
  have Xl : X.length ≤ 600 := by omega
  have Xz : X.length ≤ sizeLine := by rw [sizeLine_eq]; omega
  dsimp only [gName, tNext]
  -- the things
  refine p_key (F := fun σ' H' => ∃ (Sm q : Addr) (G0 : Hp), σ' = [some (.ref a0), some (.ref a), some (.int (0 + (i : Nat))), some (.ref R), some (.ref m), some (.ref L), some (.str X), some (.ref Sm), o8, o9, o10, o11, o12, o13, o14, o15, o16] ∧ Ex H10 G0 ∧ G0 q = some (.lst [.str X]) ∧ G0 Sm = none ∧ Ex G0 H' ∧ H' Sm = some (.lst (things X q))) (fun Nx key => ?_) ?_
  · refine ⟨_, rfl, _, rfl, _, rfl, _, rfl, X, rfl, Xz, _, rfl, _, rfl, _, _, rfl, rfl, by rw [sizeLine_eq]; omega, _, rfl, by show 1 ≤ sizeLine; rw [sizeLine_eq]; omega, fun q hq => ?_⟩
    have eq' := (Ex.refl H10).new (o := .lst [.str X]) hq
    refine ⟨by show 9 ≤ sizeLine; rw [sizeLine_eq]; omega, fun Sm hSm => key _ _ ⟨Sm, q, _, rfl, eq', upd_same, hSm, (Ex.refl _).new hSm, upd_same⟩⟩
  rintro _ H11 ⟨Sm, q, G0, rfl, eG, hq0, nSm, e11, hSm⟩
  have SG := S10.mono eG
  have TG := T10.ext eG
  have S11 := SG.mono e11
  obtain ⟨ma, mc⟩ := SG.fresh nSm
  have qS : q ≠ Sm := ne_of_none hq0 nSm
  have len0 : (things X q).length = 9 := rfl
  -- the bent texts
  refine p_key (F := fun σ' H' => ∃ (us : List Str) (o8 o9 o10 o11 o12 o13 o14 o15 o16 : Option V), σ' = [some (.ref a0), some (.ref a), some (.int (0 + (i : Nat))), some (.ref R), some (.ref m), some (.ref L), some (.str X), some (.ref Sm), o8, o9, o10, o11, o12, o13, o14, o15, o16] ∧ StAt H' a c (i * 100000000 + 3000000) ∧ Bar a c G0 H' ∧ H' Sm = some (.lst (things X q ++ strsV us)) ∧ us.length ≤ 14 ∧ ∀ u ∈ us, u.length ≤ 10000) (fun Nx key => ?_) ?_
  · refine ⟨14, rfl, by decide, by decide, ?_⟩
    refine for_range (n := 14) (fun j σ H' => ∃ (us : List Str) (o8 o9 o10 o11 o12 o13 o14 o15 o16 : Option V), σ = [some (.ref a0), some (.ref a), some (.int (0 + (i : Nat))), some (.ref R), some (.ref m), some (.ref L), some (.str X), some (.ref Sm), o8, o9, o10, o11, o12, o13, o14, o15, o16] ∧ StAt H' a c (i * 100000000 + 2000000 + j * 20) ∧ Bar a c G0 H' ∧ H' Sm = some (.lst (things X q ++ strsV us)) ∧ us.length = j ∧ ∀ u ∈ us, u.length ≤ 10000)
      ⟨[], _, _, _, _, _, _, _, _, _, rfl, S11.le (by show _ + 17 ^ 5 ≤ _; omega), fun b o _ _ z => e11 b o z, by rw [hSm]; simp [strsV], rfl, fun u hu => by cases hu⟩ ?_ ?_
    · rintro j σ H12 hj ⟨us, o8, o9, o10, o11, o12, o13, o14, o15, o16, rfl, S12, B12, hS12, ul, hus⟩
      refine ⟨_, rfl, .inl ⟨rfl, _, SqL.of hS12⟩, _, rfl, _, rfl, _, _, rfl, rfl, _, rfl, ?_⟩
      refine ite2 (fun _ => ?_) (fun _ => ?_)
      · refine ⟨_, rfl, a, c, _, X, rfl, S12, by omega, by omega, fun y H13 yl S13 B13 => ?_⟩
        refine ⟨Sm, _, _, rfl, rfl, B13 _ _ ma mc hS12, by rw [List.length_append, strs_len, len0, sizeLine_eq]; omega, ?_⟩
        refine ⟨us ++ [y], _, _, _, _, _, _, _, _, _, rfl, (S13.le (by omega)).put ma mc, fun b o h1 h2 z => ?_, ?_, by rw [List.length_append, ul]; rfl, fun u hu => ?_⟩
        · rw [upd_ne (ne_of_none z nSm)]
          exact B13 _ _ h1 h2 (B12 _ _ h1 h2 z)
        · rw [upd_same, List.append_assoc, ← strs_app]
          rfl
        · rcases List.mem_append.mp hu with hu | hu
          · exact hus u hu
          · rw [List.mem_singleton.mp hu]; omega
      · have l1 : ("\n" : Str).length = 1 := by decide +kernel
        have la : ∀ (a b : Str), (a ++ b).length = a.length + b.length := fun a b => by rw [TL.len_tl, TL.tl_append, List.length_append, TL.len_tl, TL.len_tl]
        refine ⟨_, rfl, _, rfl, a, c, _, X, rfl, S12, by omega, by omega, fun y0 H13 yl S13 B13 => ?_⟩
        refine ⟨_, _, rfl, rfl, by rw [l1, sizeLine_eq]; omega, ?_⟩
        refine ⟨a, c, _, _, rfl, S13, by omega, by rw [la, l1]; omega, fun y H14 yl2 S14 B14 => ?_⟩
        rw [la, l1] at yl2
        have B1214 := Bar.trans B13 B14
        refine ⟨Sm, _, _, rfl, rfl, B1214 _ _ ma mc hS12, by rw [List.length_append, strs_len, len0, sizeLine_eq]; omega, ?_⟩
        refine ⟨us ++ [y], _, _, _, _, _, _, _, _, _, rfl, (S14.le (by omega)).put ma mc, fun b o h1 h2 z => ?_, ?_, by rw [List.length_append, ul]; rfl, fun u hu => ?_⟩
        · rw [upd_ne (ne_of_none z nSm)]
          exact B1214 _ _ h1 h2 (B12 _ _ h1 h2 z)
        · rw [upd_same, List.append_assoc, ← strs_app]
          rfl
        · rcases List.mem_append.mp hu with hu | hu
          · exact hus u hu
          · rw [List.mem_singleton.mp hu]; omega
    · rintro σ H12 ⟨us, o8, o9, o10, o11, o12, o13, o14, o15, o16, rfl, S12, B12, hS12, ul, hus⟩
      exact key _ _ ⟨us, _, _, _, _, _, _, _, _, _, rfl, S12.le (by omega), B12, hS12, by omega, hus⟩
  rintro _ H12 ⟨us, o8, o9, o10, o11, o12, o13, o14, o15, o16, rfl, S12, B12, hS12, ul, hus⟩
  have T12 := tabs_nol (NoL.bar SG B12) TG
  have E12 := E10.trans ((ht_of (a := a) (c := c) eG).trans (ht_bar B12))
  have hR12 := hR6.mono E12
  have hm12 := hm6.mono E12
  have hL12 := hL6.mono E12.kp
  have hS12' := hS12
  have hSt := ht_at (a := a) (c := c) ma mc hS12 nt_lst
  obtain ⟨qa, qc⟩ : q ≠ a ∧ q ≠ c := by
    obtain ⟨ns', cur, cnt, mix, z1, z2, _⟩ := SG
    refine ⟨fun z => ?_, fun z => ?_⟩
    · rw [z, z1] at hq0
      cases hq0
    · rw [z, z2] at hq0
      have := congrArg (fun o : Option HO => match o with | some (.lst xs) => xs | _ => []) hq0
      cases ns' <;> cases this
  have hq12 := ht_at (a := a) (c := c) qa qc (B12 _ _ qa qc hq0) nt_lst
  have thv := fun {v : V} (hv : v ∈ things X q ++ strsV us) => things_ok (K := K) (G := ht a c H12) hq12 (by omega) hus hv
  have tl : (things X q ++ strsV us).length ≤ 100 := by rw [List.length_append, strs_len, len0]; omega
  generalize things X q ++ strsV us = ts at hS12' hSt thv tl
  generalize hNN : i * 100000000 + 3000000 = N12 at S12
  -- each thing is read
  refine p_key (F := fun σ' H' => ∃ (o8 o9 o10 o11 o12 o13 o14 o15 o16 : Option V), σ' = [some (.ref a0), some (.ref a), some (.int (0 + (i : Nat))), some (.ref R), some (.ref m), some (.ref L), some (.str X), some (.ref Sm), o8, o9, o10, o11, o12, o13, o14, o15, o16] ∧ StAt H' a c N12 ∧ LamX.Tabs (lawT tb) H' ∧ Ex (ht a c H12) (ht a c H')) (fun Nx key => ?_) ?_
  · refine ⟨_, rfl, Sm, rfl, ⟨_, SqL.of hS12'⟩, ?_⟩
    refine for_it (walk_list (xs := ts)) (fun j σ H' => ∃ (o8 o9 o10 o11 o12 o13 o14 o15 o16 : Option V), σ = [some (.ref a0), some (.ref a), some (.int (0 + (i : Nat))), some (.ref R), some (.ref m), some (.ref L), some (.str X), some (.ref Sm), o8, o9, o10, o11, o12, o13, o14, o15, o16] ∧ StAt H' a c N12 ∧ LamX.Tabs (lawT tb) H' ∧ Ex (ht a c H12) (ht a c H'))
      ⟨_, _, _, _, _, _, _, _, _, rfl, S12, T12, Ex.refl _⟩ (fun j σ H' _ h => ?_) ?_ (fun σ H' h => key _ _ h)
    · obtain ⟨_, _, _, _, _, _, _, _, _, _, _, _, e⟩ := h
      exact SqL.of (ht_ex _ _ (e _ _ hSt))
    rintro j y σ H13' H13 hj ⟨o8, o9, o10, o11, o12, o13, o14, o15, o16, rfl, S13, T13, E13⟩ ⟨rfl, hy⟩
    have ty := (thv (List.mem_of_getElem? hy)).mono E13
    have hR13 := (hR12.mono E13).mono ht_ex
    -- the law reads
    dsimp only [gName, tNext]
    refine p_asg (fun v H' => ∃ t, v = .ref t ∧ Ex H13 H' ∧
        ((∃ n : Nat, H' t = some (.tup [.non, .int (n : Nat)]) ∧ ((∃ x : Str, y = .str x ∧ x.length ≤ 10000 ∧ readP r x = .inl n) ∨ (n = 0 ∧ ∃ d, Den K true (ht a c H13) y d ∧ isS d = false))) ∨
         (∃ (x : Str) (l2 : List LRow) (p : Addr), y = .str x ∧ x.length ≤ 10000 ∧ readP r x = .inr l2 ∧ H' t = some (.tup [.ref p, .non]) ∧ Den K true H' (.ref p) (logT l2)))) (fun Q' key => ?_) ?_
    · refine ⟨_, rfl, _, rfl, R, r, y, rfl, hR13, ok, ?_⟩
      rcases ty with ⟨x, rfl, hx⟩ | ⟨d, dd, hd⟩
      · exact .inl ⟨x, rfl, hx, fun n hn t H' e ht => key _ _ ⟨t, rfl, e, .inl ⟨n, ht, .inl ⟨x, rfl, hx, hn⟩⟩⟩, fun l2 hl2 p t H' e dp ht => key _ _ ⟨t, rfl, e, .inr ⟨x, l2, p, rfl, hx, hl2, ht, dp⟩⟩⟩
      · exact .inr ⟨d, dd.mono ht_ex.kp, hd, fun t H' e ht => key _ _ ⟨t, rfl, e, .inl ⟨0, ht, .inr ⟨rfl, d, dd, hd⟩⟩⟩⟩
    rintro _ H14 ⟨t, rfl, e14, hres⟩
    have S14 := S13.mono e14
    have T14 := T13.ext e14
    have E14 := E13.trans (ht_of (a := a) (c := c) e14)
    rcases hres with ⟨n, hyt, hbad⟩ | ⟨x, l2, p, rfl, hx, hl2, hyt, dp⟩
    · refine ⟨t, _, rfl, SqT.of hyt, rfl, _, _, rfl, _, _, rfl, rfl, ?_⟩
      refine ⟨T14, fun H15 eN T15 => ?_⟩
      have S15 := S14.ext eN
      have E1415 : Ex (ht a c H14) (ht a c H15) := ht_ext eN
      have E15 := E14.trans E1415
      have hbad15 : (∃ x : Str, y = .str x ∧ x.length ≤ 10000 ∧ readP r x = .inl n) ∨ (n = 0 ∧ ∃ d, Den K true H15 y d ∧ isS d = false) := hbad.imp id fun ⟨z, d, z1, z2⟩ => ⟨z, d, (z1.mono ((ht_of (a := a) (c := c) e14).trans E1415).kp).mono ht_ex.kp, z2⟩
      refine ⟨_, rfl, _, rfl, .ref m, y, rfl, .inl ⟨m, r, rfl, (hm12.mono E15).mono ht_ex, ok, ?_⟩⟩
      refine bad_or hbad15 fun H16 e16 dd hdd => .inl ⟨rfl, dd, _, rfl, upd_same, fun p hp => ?_⟩
      have x17 := ((Ex.refl H16).new (o := .xd [("line", .int (n : Nat))]) hdd).new (o := .tup [.str "bad", .str "text", .int (n : Nat)]) hp
      have y17 : upd (upd H16 dd (.xd [("line", .int (n : Nat))])) p (.tup [.str "bad", .str "text", .int (n : Nat)]) p = some (.tup [.str "bad", .str "text", .int (n : Nat)]) := upd_same
      generalize upd (upd H16 dd (.xd [("line", .int (n : Nat))])) p (.tup [.str "bad", .str "text", .int (n : Nat)]) = H17 at x17 y17 ⊢
      refine ⟨_, rfl, _, rfl, rfl, _, rfl, iteF ⟨_, rfl, by show 3 ≤ sizeLine; rw [sizeLine_eq]; omega, fun q2 hq2 => ?_⟩⟩
      have x18 : Ex H17 (upd H17 q2 (.tup [.str "bad", .str "text", .int (n : Nat)])) := (Ex.refl H17).new hq2
      have y18 : upd H17 q2 (.tup [.str "bad", .str "text", .int (n : Nat)]) q2 = some (.tup [.str "bad", .str "text", .int (n : Nat)]) := upd_same
      generalize upd H17 q2 (.tup [.str "bad", .str "text", .int (n : Nat)]) = H18 at x18 y18 ⊢
      refine ⟨.ref p, .ref q2, .tup [.str "bad", .str "text", .int (n : Nat)], .tup [.str "bad", .str "text", .int (n : Nat)], rfl, .tup (SqT.of (x18 _ _ y17)) (.cons (.str _) (.cons (.str _) (.cons (.int _) .nil))), .tup (SqT.of y18) (.cons (.str _) (.cons (.str _) (.cons (.int _) .nil))), ⟨by show 3 ≤ 1000000; decide, fun z hz => ?_⟩, fun H19 e19 => ⟨_, rfl, ?_⟩⟩
      · rcases List.mem_cons.mp hz with rfl | hz
        · trivial
        rcases List.mem_cons.mp hz with rfl | hz
        · trivial
        · rw [List.mem_singleton.mp hz]
          trivial
      rw [decide_eq_true rfl]
      refine iteF ?_
      have x19 := e16.trans (x17.trans (x18.trans e19))
      refine ⟨_, rfl, rfl, _, rfl, iteF (iteF ?_)⟩
      exact ⟨_, _, _, _, _, _, _, _, _, rfl, S15.mono x19, T15.ext x19, E15.trans (ht_of x19)⟩
    · obtain ⟨rl1, rl2, rl3, rl4, rl5, rl6⟩ := read_ok ok hl2 hx
      refine ⟨t, _, rfl, SqT.of hyt, rfl, _, _, rfl, _, _, rfl, rfl, ?_⟩
      refine ⟨T14, fun H15 eN T15 => ?_⟩
      have S15 := S14.ext eN
      have E1415 : Ex (ht a c H14) (ht a c H15) := ht_ext eN
      have E15 := E14.trans E1415
      have dp15 := den_t (fun b o n z => eN b o z n) dp
      refine ⟨_, rfl, _, rfl, .ref m, .str x, rfl, .inl ⟨m, r, rfl, (hm12.mono E15).mono ht_ex, ok, .inl ⟨x, rfl, hx, fun i2 hi2 => ?_, fun l3 hl3 p3 H16 e16 dp3 => ?_⟩⟩⟩
      · rw [hl2] at hi2
        cases hi2
      rw [hl2] at hl3
      cases hl3
      refine ⟨by show 2 ≤ sizeLine; rw [sizeLine_eq]; omega, fun t2 ht2 => ⟨_, rfl, ?_⟩⟩
      have x17 : Ex H16 (upd H16 t2 (.tup [.str "told", .ref p3])) := (Ex.refl H16).new ht2
      have y17 : upd H16 t2 (.tup [.str "told", .ref p3]) t2 = some (.tup [.str "told", .ref p3]) := upd_same
      generalize upd H16 t2 (.tup [.str "told", .ref p3]) = H17 at x17 y17 ⊢
      refine ⟨_, rfl, _, rfl, rfl, _, rfl, iteT ⟨_, rfl, by show 2 ≤ sizeLine; rw [sizeLine_eq]; omega, fun q2 hq2 => ?_⟩⟩
      have x18 : Ex H17 (upd H17 q2 (.tup [.str "told", .ref p])) := (Ex.refl H17).new hq2
      have y18 : upd H17 q2 (.tup [.str "told", .ref p]) q2 = some (.tup [.str "told", .ref p]) := upd_same
      generalize upd H17 q2 (.tup [.str "told", .ref p]) = H18 at x18 y18 ⊢
      have x1518 := e16.trans (x17.trans x18)
      refine ⟨.ref t2, .ref q2, .tup [.str "told", logT l2], .tup [.str "told", logT l2], rfl, Den.weak (.tup (SqT.of (x18 _ _ y17)) (.cons (.str _) (.cons (dp3.mono (x17.trans x18).kp) .nil))), .tup (SqT.of y18) (.cons (.str _) (.cons (dp15.mono x1518.kp) .nil)), ⟨by show 2 ≤ 1000000; decide, fun z hz => ?_⟩, fun H19 e19 => ⟨_, rfl, ?_⟩⟩
      · rcases List.mem_cons.mp hz with rfl | hz
        · trivial
        · rw [List.mem_singleton.mp hz]
          exact rl6 1
      rw [decide_eq_true rfl]
      refine iteF ?_
      have x19 := x1518.trans e19
      have E19 := E15.trans (ht_of (a := a) (c := c) x19)
      refine ⟨_, rfl, rfl, _, rfl, iteT ?_⟩
      refine ⟨_, rfl, _, rfl, .ref m, .ref p, rfl, .inl ⟨m, r, logT l2, rfl, (hm12.mono E19).mono ht_ex, ok, dp15.mono x19.kp, fun _ => ⟨rl4, rl5⟩, fun _ => ⟨l2, lse_self, rl2, fun H20 e20 => ?_⟩, fun z => by rw [rl1] at z; cases z⟩⟩
      rw [rl3]
      refine ⟨_, rfl, .str x, .str x, .str x, .str x, rfl, .str x, .str x, trivial, fun H21 e21 => ⟨_, rfl, ?_⟩⟩
      rw [decide_eq_true rfl]
      have x21 := x19.trans (e20.trans e21)
      exact iteF ⟨_, _, _, _, _, _, _, _, _, rfl, S15.mono x21, T15.ext x21, E15.trans (ht_of x21)⟩
  rintro _ H13 ⟨o8, o9, o10, o11, o12, o13, o14, o15, o16, rfl, S13, T13, E13⟩
  -- the bent logs
  refine p_key (F := fun σ' H' => ∃ (o8 o9 o10 o11 o12 o13 o14 o15 o16 : Option V), σ' = [some (.ref a0), some (.ref a), some (.int (0 + (i : Nat))), some (.ref R), some (.ref m), some (.ref L), some (.str X), some (.ref Sm), o8, o9, o10, o11, o12, o13, o14, o15, o16] ∧ StAt H' a c (i * 100000000 + 20000000) ∧ LamX.Tabs (lawT tb) H' ∧ Ex (ht a c H12) (ht a c H')) (fun Nx key => ?_) ?_
  · refine ⟨4, rfl, by decide, by decide, ?_⟩
    refine for_range (n := 4) (fun j σ H' => ∃ (o8 o9 o10 o11 o12 o13 o14 o15 o16 : Option V), σ = [some (.ref a0), some (.ref a), some (.int (0 + (i : Nat))), some (.ref R), some (.ref m), some (.ref L), some (.str X), some (.ref Sm), o8, o9, o10, o11, o12, o13, o14, o15, o16] ∧ StAt H' a c (N12 + j * 2000000) ∧ LamX.Tabs (lawT tb) H' ∧ Ex (ht a c H12) (ht a c H'))
      ⟨_, _, _, _, _, _, _, _, _, rfl, S13.le (by omega), T13, E13⟩ ?_ ?_
    rotate_left
    · rintro σ H14 ⟨o8, o9, o10, o11, o12, o13, o14, o15, o16, rfl, S14, T14, E14⟩
      exact key _ _ ⟨_, _, _, _, _, _, _, _, _, rfl, S14.le (by omega), T14, E14⟩
    rintro j σ H14 hj ⟨o8, o9, o10, o11, o12, o13, o14, o15, o16, rfl, S14, T14, E14⟩
    refine ⟨_, rfl, _, rfl, _, rfl, a, c, R, L, _, r, l, rfl, S14, by omega, (hR12.mono E14).mono ht_hs, ok, sm, (hL12.mono E14.kp).mono ht_hs.kp, lok, fun v d H15 S15 B15 dd okT => ?_⟩
    have T15 := tabs_nol (NoL.bar S14 B15) T14
    have E15 := E14.trans (ht_bar B15)
    have dv15 := den_t (hs_ht (a := a) (c := c)) dd
    refine ⟨_, rfl, v, d, rfl, dv15.mono ht_ex.kp, okT.1, fun kv H16 e16 dk => ?_⟩
    have S16 := S15.mono e16
    have T16 := T15.ext e16
    have E16 := E15.trans (ht_of (a := a) (c := c) e16)
    have dv16 := dv15.mono (ht_of (a := a) (c := c) e16).kp
    have toS : Ex (nw H15 H16) (hs a c H16) := hid_sub fun b z => by
      obtain ⟨⟨o, z1⟩, ⟨u, z2⟩⟩ := S15.ne
      rcases z with rfl | rfl
      · rw [z1]; exact fun w => nomatch w
      · rw [z2]; exact fun w => nomatch w
    have dk16 : Den K true (ht a c H16) kv d := den_t (hs_ht (a := a) (c := c)) (dk.mono toS.kp)
    refine ⟨_, rfl, _, rfl, R, v, r, d, rfl, (hR12.mono E16).mono ht_ex, ok, dv16.mono ht_ex.kp, okT.2, fun H17 e17 => ⟨_, rfl, ?_⟩⟩
    have S17 := S16.mono e17
    have T17 := T16.ext e17
    have E17 := E16.trans (ht_of (a := a) (c := c) e17)
    have dv17 := dv16.mono (ht_of (a := a) (c := c) e17).kp
    have dk17 := dk16.mono (ht_of (a := a) (c := c) e17).kp
    cases hb : isLogT r d with
    | true => exact iteF (iteF ⟨_, _, _, _, _, _, _, _, _, rfl, S17.le (by omega), T17, E17⟩)
    | false =>
    refine iteT ?_
    refine ⟨T17, fun H18 eN T18 => ?_⟩
    have S18 := S17.ext eN
    have E1718 : Ex (ht a c H17) (ht a c H18) := ht_ext eN
    have E18 := E17.trans E1718
    have dv18 := dv17.mono E1718.kp
    have dk18 := dk17.mono E1718.kp
    refine ⟨_, rfl, _, rfl, .ref m, v, rfl, .inl ⟨m, r, d, rfl, (hm12.mono E18).mono ht_ex, ok, dv18.mono ht_ex.kp, okT.2, (fun z => by rw [hb] at z; cases z), fun _ H19 e19 dd hdd => .inr (.inl ⟨rfl, dd, v, rfl, upd_same, fun p hp => ?_⟩)⟩⟩
    have x20 := ((Ex.refl H19).new (o := .xd [("log", v)]) hdd).new (o := .tup [.str "bad", .str "log", v]) hp
    have y20 : upd (upd H19 dd (.xd [("log", v)])) p (.tup [.str "bad", .str "log", v]) p = some (.tup [.str "bad", .str "log", v]) := upd_same
    generalize upd (upd H19 dd (.xd [("log", v)])) p (.tup [.str "bad", .str "log", v]) = H20 at x20 y20 ⊢
    refine ⟨_, rfl, by show 3 ≤ sizeLine; rw [sizeLine_eq]; omega, fun q2 hq2 => ?_⟩
    have x21 : Ex H20 (upd H20 q2 (.tup [.str "bad", .str "log", kv])) := (Ex.refl H20).new hq2
    have y21 : upd H20 q2 (.tup [.str "bad", .str "log", kv]) q2 = some (.tup [.str "bad", .str "log", kv]) := upd_same
    generalize upd H20 q2 (.tup [.str "bad", .str "log", kv]) = H21 at x21 y21 ⊢
    have x1821 := e19.trans (x20.trans x21)
    have dv21 := (dv18.mono (ht_of (a := a) (c := c) x1821).kp).mono ht_ex.kp
    have dk21 := (dk18.mono (ht_of (a := a) (c := c) x1821).kp).mono ht_ex.kp
    refine ⟨.ref p, .ref q2, .tup [.str "bad", .str "log", d], .tup [.str "bad", .str "log", d], rfl, Den.weak (.tup (SqT.of (x21 _ _ y20)) (.cons (.str _) (.cons (.str _) (.cons dv21 .nil)))), .tup (SqT.of y21) (.cons (.str _) (.cons (.str _) (.cons dk21 .nil))), ⟨by show 3 ≤ 1000000; decide, fun z hz => ?_⟩, fun H22 e22 => ⟨_, rfl, ?_⟩⟩
    · rcases List.mem_cons.mp hz with rfl | hz
      · trivial
      rcases List.mem_cons.mp hz with rfl | hz
      · trivial
      · rw [List.mem_singleton.mp hz]
        exact okc_okd okT.1
    rw [decide_eq_true rfl]
    have x22 := x1821.trans e22
    exact iteF ⟨_, _, _, _, _, _, _, _, _, rfl, (S18.mono x22).le (by omega), T18.ext x22, E18.trans (ht_of x22)⟩
  rintro _ H14 ⟨o8, o9, o10, o11, o12, o13, o14, o15, o16, rfl, S14, T14, E14⟩
  -- the odd machines
  have hm14 := hm12.mono E14
  refine ⟨_, rfl, _, rfl, by show 4 ≤ sizeLine; rw [sizeLine_eq]; omega, fun t1 ht1 => ⟨t1, rfl, ⟨_, SqT.of upd_same⟩, ?_⟩⟩
  have x8 : Ex H14 (upd H14 t1 (.tup [.non, .str X, .int 5, .ref R])) := (Ex.refl H14).new ht1
  have y8 : upd H14 t1 (.tup [.non, .str X, .int 5, .ref R]) t1 = some (.tup [.non, .str X, .int 5, .ref R]) := upd_same
  obtain ⟨ta, tc⟩ := S14.fresh ht1
  have S15 := S14.mono x8
  have T15 := T14.ext x8
  have E15 := E14.trans (ht_of (a := a) (c := c) x8)
  generalize upd H14 t1 (.tup [.non, .str X, .int 5, .ref R]) = H15 at x8 y8 S15 T15 E15 ⊢
  have y8 := ht_at ta tc y8 nt_tup
  have hR15 := hR12.mono E15
  have odds : ∀ x ∈ [V.non, .str X, .int 5, .ref R], ∃ d, Okd 6 d ∧ Den K true (ht a c H15) x d := fun x hx => by
    rcases List.mem_cons.mp hx with rfl | hx
    · exact ⟨.non, trivial, .non⟩
    rcases List.mem_cons.mp hx with rfl | hx
    · exact ⟨.str X, trivial, .str _⟩
    rcases List.mem_cons.mp hx with rfl | hx
    · exact ⟨.int 5, trivial, .int _⟩
    · rw [List.mem_singleton.mp hx]
      exact ⟨rawT r, okd_mono (okd_mono (okc_okd (raw_okc ok sm))), raw_den hR15⟩
  generalize hMM : i * 100000000 + 20000000 = MM at S15
  refine for_it (walk_tup (xs := [.non, .str X, .int 5, .ref R])) (fun j σ H' => StAt H' a c MM ∧ LamX.Tabs (lawT tb) H' ∧ Ex (ht a c H15) (ht a c H') ∧ ∃ (o8 o9 o10 o11 o12 o13 o14 o15 o16 : Option V), σ = [some (.ref a0), some (.ref a), some (.int (0 + (i : Nat))), some (.ref R), some (.ref m), some (.ref L), some (.str X), some (.ref Sm), o8, o9, o10, o11, o12, o13, o14, o15, o16])
    ⟨S15, T15, Ex.refl _, _, _, _, _, _, _, _, _, _, rfl⟩ (fun j σ H' _ h => SqT.of (ht_ex _ _ (h.2.2.1 _ _ y8))) ?_ ?_
  rotate_left
  · rintro σ H9 ⟨S9, T9, E9, o8, o9, o10, o11, o12, o13, o14, o15, o16, rfl⟩
    exact ⟨S9.le (by omega), T9, _, _, _, _, _, _, _, _, _, _, _, _, _, _, _, rfl⟩
  rintro j x σ H9 H9' hj ⟨S9, T9, E9, o8, o9, o10, o11, o12, o13, o14, o15, o16, rfl⟩ ⟨rfl, hx⟩
  obtain ⟨d, okd, dx⟩ := odds x (List.mem_of_getElem? hx)
  refine ⟨by show 2 ≤ sizeLine; rw [sizeLine_eq]; omega, fun t2 ht2 => ⟨t2, rfl, ⟨_, SqT.of upd_same⟩, ?_⟩⟩
  have x10 : Ex H9' (upd H9' t2 (.tup [.ref (He.ga K "log_text"), .ref (He.ga K "read_log")])) := (Ex.refl H9').new ht2
  have y10 : upd H9' t2 (.tup [.ref (He.ga K "log_text"), .ref (He.ga K "read_log")]) t2 = some (.tup [.ref (He.ga K "log_text"), .ref (He.ga K "read_log")]) := upd_same
  obtain ⟨ta2, tc2⟩ := S9.fresh ht2
  have S10 := S9.mono x10
  have T10 := T9.ext x10
  have E10' := E9.trans (ht_of (a := a) (c := c) x10)
  generalize upd H9' t2 (.tup [.ref (He.ga K "log_text"), .ref (He.ga K "read_log")]) = H10' at x10 y10 S10 T10 E10' ⊢
  have y10 := ht_at ta2 tc2 y10 nt_tup
  refine for_it (walk_tup (xs := [.ref (He.ga K "log_text"), .ref (He.ga K "read_log")])) (fun j2 σ H' => StAt H' a c MM ∧ LamX.Tabs (lawT tb) H' ∧ Ex (ht a c H10') (ht a c H') ∧ ∃ (o8 o9 o10 o11 o12 o13 o14 o16 : Option V), σ = [some (.ref a0), some (.ref a), some (.int (0 + (i : Nat))), some (.ref R), some (.ref m), some (.ref L), some (.str X), some (.ref Sm), o8, o9, o10, o11, o12, o13, o14, some x, o16])
    ⟨S10, T10, Ex.refl _, _, _, _, _, _, _, _, _, rfl⟩ (fun j2 σ H' _ h => SqT.of (ht_ex _ _ (h.2.2.1 _ _ y10))) ?_ ?_
  rotate_left
  · rintro σ H11 ⟨S11, T11, E11, o8, o9, o10, o11, o12, o13, o14, o16, rfl⟩
    exact ⟨S11, T11, E10'.trans E11, _, _, _, _, _, _, _, _, _, rfl⟩
  rintro j2 y σ H11 H11' hj2 ⟨S11, T11, E11, o8, o9, o10, o11, o12, o13, o14, o16, rfl⟩ ⟨rfl, hy⟩
  have dx11 := dx.mono (E10'.trans E11).kp
  have hAsk : ∃ fy sp, y = .ref fy ∧ Asks K fy sp ∧ ∀ (H : Hp) (Q : VK) (E : XK), NotM K H x → Err K "BadMachine" "machine" x H E → sp [x, .non] H Q E := by
    rcases List.mem_cons.mp (List.mem_of_getElem? hy) with rfl | h
    · exact ⟨_, _, rfl, .inl ⟨rfl, rfl⟩, fun H Q E n e => ⟨_, _, rfl, .inr ⟨n, e⟩⟩⟩
    · rw [List.mem_singleton.mp h]
      exact ⟨_, _, rfl, .inr ⟨rfl, rfl⟩, fun H Q E n e => ⟨_, _, rfl, .inr ⟨n, e⟩⟩⟩
  obtain ⟨fy, sp, rfl, hY, hsp⟩ := hAsk
  refine ⟨T11, fun H12' eN T12' => ?_⟩
  have S12' := S11.ext eN
  have E12' : Ex (ht a c H11') (ht a c H12') := ht_ext eN
  have dx12 := dx11.mono E12'.kp
  refine ⟨fy, _, rfl, hY, _, rfl, hsp _ _ _ (den_not (dx12.mono ht_ex.kp)) fun dd hdd => .inr (.inr ⟨rfl, dd, _, rfl, upd_same, fun p hp => ?_⟩)⟩
  have x13 : Ex H12' (upd (upd H12' dd (.xd [("machine", x)])) p (.tup [.str "bad", .str "machine", x])) := ((Ex.refl H12').new hdd).new hp
  have y13 : upd (upd H12' dd (.xd [("machine", x)])) p (.tup [.str "bad", .str "machine", x]) p = some (.tup [.str "bad", .str "machine", x]) := upd_same
  generalize upd (upd H12' dd (.xd [("machine", x)])) p (.tup [.str "bad", .str "machine", x]) = H13' at x13 y13 ⊢
  refine ⟨_, rfl, by show 3 ≤ sizeLine; rw [sizeLine_eq]; omega, fun q2 hq2 => ?_⟩
  have x14 : Ex H13' (upd H13' q2 (.tup [.str "bad", .str "machine", x])) := (Ex.refl H13').new hq2
  have y14 : upd H13' q2 (.tup [.str "bad", .str "machine", x]) q2 = some (.tup [.str "bad", .str "machine", x]) := upd_same
  generalize upd H13' q2 (.tup [.str "bad", .str "machine", x]) = H14' at x14 y14 ⊢
  have dx14 := (dx12.mono (ht_of (x13.trans x14)).kp).mono ht_ex.kp
  refine ⟨.ref p, .ref q2, .tup [.str "bad", .str "machine", d], .tup [.str "bad", .str "machine", d], rfl, Den.weak (.tup (SqT.of (x14 _ _ y13)) (.cons (.str _) (.cons (.str _) (.cons dx14 .nil)))), .tup (SqT.of y14) (.cons (.str _) (.cons (.str _) (.cons dx14 .nil))), ⟨by show 3 ≤ 1000000; decide, fun z hz => ?_⟩, fun H15' e15 => ⟨_, rfl, ?_⟩⟩
  · rcases List.mem_cons.mp hz with rfl | hz
    · trivial
    rcases List.mem_cons.mp hz with rfl | hz
    · trivial
    · rw [List.mem_singleton.mp hz]
      exact okd
  rw [decide_eq_true rfl]
  refine iteF ?_
  have x15 := x13.trans (x14.trans e15)
  exact ⟨S12'.mono x15, T12'.ext x15, (E11.trans E12').trans (ht_of x15), _, _, _, _, _, _, _, _, rfl⟩
end
end K77

set_option Elab.async false
set_option linter.all false
set_option maxRecDepth 100000
set_option maxHeartbeats 400000
namespace K77
open PySem PySem.Spec PyProof.Rows L2
/-! ### the head, joined -/
def exT (K : PySem.W.Frag) : Bool := exK K && XW.noTab K
abbrev hk : PySem.W.Hook := XH.hookR ats fa fn exT
def obN (s : PySem.W.SharedT) : Bool × He.AlD := XH.obsR ats fa fn exT (HandSHeadRun.getT s)
theorem obN_eq (s : PySem.W.SharedT) : obN s = hk.obs s.abs := by
  unfold obN
  exact XH.obsR_eq (HandSHeadRun.getT_eq s)
theorem join {α β γ δ : Type} {o : Option α} {f : α → β} {g : α → γ} {a b1 b2 : α → Bool} {c : α → δ} {x : β} {y : γ} {z : δ} (hs : o.map (fun s => (f s, g s)) = some (x, y)) (ha : o.map a = some true) (h1 : o.map b1 = some true) (h2 : o.map b2 = some true) (hc : o.map c = some z) :
    o.map (fun s => (f s, g s, (a s, ((b1 s && b2 s), c s)))) = some (x, y, (true, (true, z))) := by
  cases o with
  | none => cases hs
  | some s =>
    have e1 : a s = true := Option.some.inj ha
    have e2 : b1 s = true := Option.some.inj h1
    have e3 : b2 s = true := Option.some.inj h2
    have e4 : c s = z := Option.some.inj hc
    have e5 : (f s, g s) = (x, y) := Option.some.inj hs
    have e6 : f s = x := congrArg Prod.fst e5
    have e7 : g s = y := congrArg Prod.snd e5
    show some (f s, g s, (a s, ((b1 s && b2 s), c s))) = _
    rw [e1, e2, e3, e4, e6, e7]
    rfl
theorem runB2 (w : World) (os : OsState) : (HandSHeadRun.endF (HandSHeadRun.stepQ (HandSHeadRun.denQ HandSHeadRun.tabQ) RS.prog w) 20000 RS.prog w os).map (fun s => fn.all fun d => d.ok (He.frG (HandSHeadRun.getT s) ats)) = some true := by
  have h0 := runD0 w os
  have h1 := runD1 w os
  have h2 := runD2 w os
  cases e : HandSHeadRun.endF (HandSHeadRun.stepQ (HandSHeadRun.denQ HandSHeadRun.tabQ) RS.prog w) 20000 RS.prog w os with
  | none =>
    rw [e] at h0
    cases h0
  | some s =>
    rw [e] at h0 h1 h2
    have e0 : (fn0.all fun d => d.ok (He.frG (HandSHeadRun.getT s) ats)) = true := Option.some.inj h0
    have e1 : (fn1.all fun d => d.ok (He.frG (HandSHeadRun.getT s) ats)) = true := Option.some.inj h1
    have e2 : (fn2.all fun d => d.ok (He.frG (HandSHeadRun.getT s) ats)) = true := Option.some.inj h2
    show some ((fn0 ++ (fn1 ++ (fn2))).all fun d => d.ok (He.frG (HandSHeadRun.getT s) ats)) = some true
    rw [List.all_append, List.all_append]
    exact congrArg some (by rw [e0, e1, e2]; rfl)
theorem run (w : World) : HandSHeadRun.RunEq RS qv hk obN 20000 names w := fun os => join (runS w os) (runA w os) (runB1 w os) (runB2 w os) (runC w os)
theorem facts {P : Program} {w : World} {K : PySem.W.Frag} {h : Heap} {mg : Str → Option Value} {f : Addr} (X : K.In h) (G : h.Ns mainGlobals mg) (hfa : mg ("law" : Str) = some (.ref f)) (c : He.SaysD fa fn K) (b : exT K = true) (own : XW.OwnCode h f) :
    ∃ (fd : FuncData) (c0 tb : Addr), h.get? tb = some { cls := .none, data := .fields #[] } ∧ K.lookup tb = none ∧ PySem.W.CodeHd h c0 tb ∧ (∀ (s : Shared) (v : Value), BindsTo s fd ⟨[v], []⟩ [("script", v)]) ∧ ∀ base : Heap, K.In base → base.Ns mainGlobals mg → LamX.TabB base mg c0 tb → FnOk P w K mg base CX0 11 f fd ["script"] (spLaw K tb) := by
  obtain ⟨b1, b2⟩ := He.ba b
  have W : Wld K mg := ⟨⟨h, X, G⟩, c, b1⟩
  obtain ⟨fd, F⟩ := W.c.def_ 60 rfl
  have e := hfa.symm.trans W.g_law
  cases e
  obtain ⟨o, fd', c0, tb, h1, h2, h3, h4, h5⟩ := own
  obtain ⟨oc, od, dV, kV, doc, pm, an, cdv, ct, osl, e2, lk, _⟩ := F.ex
  have h6 := X _ _ lk
  have h6 := Option.some.inj (h1.symm.trans h6)
  have ed : o.data = .func fd := by rw [h6]
  rw [h2] at ed
  have ed : fd' = fd := by
    injection ed
  subst ed
  have q := FunD.bindsA (ps := ["script"]) F fun _ _ _ _ _ _ us hl => match us, hl with | [_], _ => rfl
  exact ⟨fd', c0, tb, h5, XW.noTab_ok b2 X h5, h4, fun s v => q s [v] rfl, fun base _ _ TB => ok_law W F h3 TB⟩
end K77
open PySem PySem.W PySem.Calls PyProof.Rows
set_option maxRecDepth 100000
set_option maxHeartbeats 0
theorem PySem.Challenge.cw_steadynets_k77_whole_log_texts_holds : PySem.Challenge.rw_steadynets_k77_whole_log_texts.Holds := by
  w_on; o_law
  refine HandSHeadRun.head_any (r := OpenLaw.row PySem.Challenge.rw_steadynets_k77_whole_log_texts) (q := view (OpenLaw.row PySem.Challenge.rw_steadynets_k77_whole_log_texts).prog [82]) (H := K77.hk) (ob := K77.obN) (M := 20000) (loose := K77.names) (d := HandSHeadRun.topDef (OpenLaw.row PySem.Challenge.rw_steadynets_k77_whole_log_texts).prog 82) (kwd := []) K77.obN_eq
    (by kernel_rfl) (fun s => by kernel_rfl) K77.run (by kernel_rfl) (by kernel_rfl) (by kernel_rfl) (by rfl) (by first | assumption | decide +kernel) (by decide +kernel) ⟨rfl, rfl, rfl, rfl, rfl, by decide +kernel⟩ ?hw ?hc
  case hw => w_witness2
  case hc =>
    refine XW.walk_tab (l := PySem.Challenge.rw_steadynets_k77_whole_log_texts) (n := 63) (k := 11) (x := "script") (CX := fun _ => L2.CX0) rfl (by decide) (by kernel_rfl) ⟨rfl, by decide, by decide⟩ (by kernel_rfl) ?F (fun _ _ _ _ _ z => z)
    intro w mg fa h Y G hmg0 own
    obtain ⟨K, KX, c, b⟩ := Y
    have hmg : mg ("law" : PySem.Str) = some (.ref fa) := by
      have e : (HandSHeadRun.topDef (OpenLaw.row PySem.Challenge.rw_steadynets_k77_whole_log_texts).prog 82).name = ("law" : PySem.Str) := by kernel_rfl
      rw [← e]
      exact hmg0
    obtain ⟨fd, c0, tb, q1, q2, q3, q4, q5⟩ := K77.facts (P := (PySem.Challenge.rw_steadynets_k77_whole_log_texts).prog) (w := w) KX G hmg c b own
    refine ⟨K, KX, fd, [(c0, tb)], K77.spLaw K tb, fun p hp => ?_, fun p hp => ?_, fun p hp => ?_, q4, fun H a ns hl _ hT hS => ⟨a, ns, rfl, hS, hl, hT _ List.mem_cons_self, fun _ => rfl⟩, fun base h1 h2 h3 => q5 base h1 h2 (h3 _ List.mem_cons_self)⟩
    · rw [List.mem_singleton.mp hp]; exact q1
    · rw [List.mem_singleton.mp hp]; exact q2
    · rw [List.mem_singleton.mp hp]; exact q3
