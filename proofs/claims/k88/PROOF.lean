import PyProof.Rows.All
import Wide.All
import OpenK.AllK
import Wide.FinOn
import KE.KStateDown
import KE.RegKSuper
import KE.KExcSuper
import HandS.ExcSuper
import HandS.ForExc
import HandS.More
import HandS.Defaults
import HandS.ExcInit
import HandS.ExcIs
import HandS.Head0
import HandS.Head1
import HandS.Head2
import HandS.HeadEnd
import HandS.HeadHook1
import HandS.HeadHook2
import HandS.HeadHook3
import HandS.HeadHook4
import KE.KExcIs
import HandS.Lambda
import HandS.CallLocal
import HandS.ForMost
import HandS.TupAny
import HandS.IsInst
import HandS.Deep
import HandS.Conv
import PyProof.StrOps2
import HandS.RaiseMore
import HandS.Rev
import HandS.EndTab
import PySem.Challenge.RW_setbook_k88_values_written
import HandS.Codes
set_option Elab.async false
set_option linter.all false
set_option maxRecDepth 100000
set_option maxHeartbeats 0
namespace Sb
open L2 PyProof.Rows PySem.Spec PySem He
/-- the class at C is an own one over ValueError, made as such ones are -/
def xcB (K : PySem.W.Frag) (C : Addr) : Bool := match K.lookup C with
  | some ⟨.type "type", _, .cls cd, sl⟩ => (match cd.mro, sl.toList with
    | .ref C' :: bm, [_, _, _, _, some (.builtin n), _] => decide (C' = C) && (decide (n = "ValueError.__new__") && (!cd.hasDel && (cd.hasDict && PySem.HandSPX.refsVE bm)))
    | _, _ => false)
  | _ => false
theorem xcB_ok {K : PySem.W.Frag} {C : Addr} (h : xcB K C = true) :
    ∃ nm q N bs bm sn sub ab col dd k0 k1 k2 k3 k5, K.lookup C = some (excClassObj nm q C N bs bm true sn sub ab col dd k0 k1 k2 k3 k5 "ValueError.__new__") ∧ PySem.HandSPX.refsVE bm = true := by
  unfold xcB at h
  split at h
  · rename_i dd cd sl lk
    split at h
    · rename_i C' bm k0 k1 k2 k3 n k5 em es
      obtain ⟨h1, h⟩ := ba h
      obtain ⟨h2, h⟩ := ba h
      obtain ⟨h3, h⟩ := ba h
      obtain ⟨h4, h5⟩ := ba h
      have e1 := of_decide_eq_true h1
      have e2 := of_decide_eq_true h2
      obtain ⟨nm, bs, mro, ns, qn, hd, sn, sub, ab, col, del⟩ := cd
      dsimp only at em h3 h4
      have e3 : del = false := by
        cases del with
        | false => rfl
        | true => cases h3
      subst e1 e2 e3 h4 em
      have e4 : sl = #[k0, k1, k2, k3, some (.builtin "ValueError.__new__"), k5] := by
        obtain ⟨l⟩ := sl
        dsimp only at es
        rw [es]
      subst e4
      exact ⟨nm, qn, ns, bs, bm, sn, sub, ab, col, dd, k0, k1, k2, k3, k5, lk, h5⟩
    · cases h
  · cases h
def dO (a b : Option Bool) : Bool := decide (a = b)
/-- what is asked of every own error class: making, raising, catching, isinstance -/
def xclB (K : PySem.W.Frag) (C : Addr) : Bool :=
  xcB K C && (eqO (PySem.W.findIn K (.ref C) "__setattr__") (some (some (.builtin "object.__setattr__"))) && (dO (PySem.W.subIn K (.ref C) (.type "BaseException")) (some true) && (decide (PySem.W.typeIn K (.ref C) = some (.type "type")) && (PySem.W.keepIn K (.ref C) &&
  (eqO (PySem.W.findIn K (.ref C) "__getattribute__") (some (some (.builtin "BaseException.__getattribute__"))) && (eqO (PySem.W.findIn K (.ref C) "__getattr__") (some none) && (PySem.W.hasDictIn K C && (eqO (PySem.W.findIn K (.ref C) "__class__") (some (some (.builtin "object.__class__"))) &&
  (eqO (PySem.W.specialIn K (.builtin "object.__class__") "__get__") (some (some (.builtin "getset_descriptor.__get__"))) && (dO (PySem.W.takesIn K (.builtin "object.__class__")) (some true) && dO (PySem.W.mroIn K C (.type "object")) (some true)))))))))))
structure XCl (K : PySem.W.Frag) (C : Addr) : Prop where
  o : OexC K C
  e : ExcC K C
theorem xclB_ok {K : PySem.W.Frag} {C : Addr} (h : xclB K C = true) : XCl K C := by
  obtain ⟨a1, h⟩ := ba h
  obtain ⟨a2, h⟩ := ba h
  obtain ⟨a3, h⟩ := ba h
  obtain ⟨a4, h⟩ := ba h
  obtain ⟨a5, h⟩ := ba h
  obtain ⟨a6, h⟩ := ba h
  obtain ⟨a7, h⟩ := ba h
  obtain ⟨a8, h⟩ := ba h
  obtain ⟨a9, h⟩ := ba h
  obtain ⟨b1, h⟩ := ba h
  obtain ⟨b2, b3⟩ := ba h
  exact ⟨⟨xcB_ok a1, eqO_ok a2, of_decide_eq_true a3, of_decide_eq_true a4, a5⟩, ⟨eqO_ok a6, eqO_ok a7, of_decide_eq_true a3, a8, eqO_ok a9, eqO_ok b1, of_decide_eq_true b2, of_decide_eq_true b3⟩⟩
/-- the closure's and the code's facts of the __init__ at f -/
def initB (K : PySem.W.Frag) (C f : Addr) (x fld file : Str) : Bool := match K.lookup f with
  | some ⟨_, _, .func fd, _⟩ => (match fd.closure, fd.code with
    | [(n, cc)], .ref cda => decide (n = "__class__") && ((match K.lookup cc with
        | some ⟨_, _, .cell (some (.ref C')), _⟩ => decide (C' = C)
        | _ => false) && ((match K.lookup cda with
        | some ⟨_, _, .fields vs, _⟩ => (match (vs[2]? : Option Value) with
          | some (.str y _) => decide (y = file)
          | _ => false)
        | _ => false) && (PySem.W.codeIn K fd.code (x ++ ".__init__") && dflB K fd.defaults [.non])))
    | _, _ => false)
  | _ => false
def fldB (K : PySem.W.Frag) (C : Addr) (x fld file : Str) : Bool :=
  xclB K C && (eqO (PySem.W.findIn K (.ref C) "__init__") (some (some (.ref (ma K C "__init__")))) && (decide (PySem.W.typeIn K (.ref (ma K C "__init__")) = some (.type "function")) && (initB K C (ma K C "__init__") x fld file &&
  (eqO (PySem.W.ks_superIn K C C "__init__") (some (some (.builtin "ValueError.__init__"))) && (dO (PySem.W.subIn K (.ref C) (.type "ValueError")) (some true) && (eqO (PySem.W.findIn K (.ref C) fld) (some none) &&
  (eqO (PySem.W.nsIn K cStatics "thirdparty.any") (some none) && dO (PySem.W.mroIn K C (.ref C)) (some true))))))))
/-- the __init__ at f of the class at C: its function object -/
abbrev MFn : Type := Option (Str × Str × Arguments × FuncBody × Scope × Addr × Addr)
def mfn (K : PySem.W.Frag) (f : Addr) : MFn := match K.lookup f with
  | some ⟨_, _, .func fd, _⟩ => some (fd.name, fd.qualname, fd.params, fd.body, fd.scope, fd.globals, fd.builtins)
  | _ => none
/-- an error class with a field: its name, the field, the class statement -/
structure XD where
  x : Str
  fld : Str
  st : Stmt
def XD.val (d : XD) : MFn := some ("__init__", d.x ++ ".__init__", defArgs d.st, .stmts (defBody d.st), defScope d.st, mainGlobals, builtinsNs)
structure Fld (K : PySem.W.Frag) (C : Addr) (x fld file : Str) (params : Arguments) (body : List Stmt) (scope : Scope) : Prop where
  c : XCl K C
  init : ∃ (f cc cda : Addr) (oc dV kV doc pm ct : Value) (od an : Option Addr) (osl : Array (Option Value)), PySem.W.findIn K (.ref C) "__init__" = some (some (.ref f)) ∧ PySem.W.typeIn K (.ref f) = some (.type "function") ∧
    K.lookup f = some ⟨oc, od, .func (PySem.W.ksFn "__init__" (x ++ ".__init__") params body scope dV kV doc pm an (.ref cda) ct cc), osl⟩ ∧ PySem.W.codeIn K (.ref cda) (x ++ ".__init__") = true ∧ DflV K dV [.non] ∧
    (∃ a b s, K.lookup cc = some ⟨a, b, .cell (some (.ref C)), s⟩) ∧ ∃ a b vs s t, K.lookup cda = some ⟨a, b, .fields vs, s⟩ ∧ vs[2]? = some (.str file t)
  sup : PySem.W.ks_superIn K C C "__init__" = some (some (.builtin "ValueError.__init__"))
  ve : PySem.W.subIn K (.ref C) (.type "ValueError") = some true
  no : PySem.W.findIn K (.ref C) fld = some none
  tp : PySem.W.nsIn K cStatics "thirdparty.any" = some none
  self : PySem.W.mroIn K C (.ref C) = some true
theorem fldB_ok {K : PySem.W.Frag} {d : XD} {C : Addr} {file : Str} (h : fldB K C d.x d.fld file = true) (e : mfn K (ma K C "__init__") = d.val) : Fld K C d.x d.fld file (defArgs d.st) (defBody d.st) (defScope d.st) := by
  obtain ⟨a1, h⟩ := ba h
  obtain ⟨a2, h⟩ := ba h
  obtain ⟨a3, h⟩ := ba h
  obtain ⟨a4, h⟩ := ba h
  obtain ⟨a5, h⟩ := ba h
  obtain ⟨a6, h⟩ := ba h
  obtain ⟨a7, h⟩ := ba h
  obtain ⟨a8, a9⟩ := ba h
  refine ⟨xclB_ok a1, ?_, eqO_ok a5, of_decide_eq_true a6, eqO_ok a7, eqO_ok a8, of_decide_eq_true a9⟩
  unfold initB at a4
  split at a4
  · rename_i oc od fd osl lk
    unfold mfn at e
    rw [lk] at e
    split at a4
    · rename_i n cc cda ecl eco
      obtain ⟨n1, n2, n3, n4, n5, n6, n7, n8, n9, m1, m2, m3, m4, m5, m6⟩ := fd
      dsimp only at ecl eco
      obtain ⟨b1, a4⟩ := ba a4
      obtain ⟨b2, a4⟩ := ba a4
      obtain ⟨b3, a4⟩ := ba a4
      obtain ⟨b4, b5⟩ := ba a4
      have e2 : (some (n1, n2, n3, n4, n5, n6, m6) : MFn) = d.val := e
      unfold XD.val at e2
      simp only [Option.some.injEq, Prod.mk.injEq] at e2
      obtain ⟨q1, q2, q3, q4, q5, q6, q7⟩ := e2
      have en := of_decide_eq_true b1
      subst q1 q2 q3 q4 q5 q6 q7 ecl eco en
      refine ⟨_, cc, cda, oc, _, _, _, _, _, od, _, osl, eqO_ok a2, of_decide_eq_true a3, lk, b4, dflB_ok b5, ?_, ?_⟩
      · split at b2
        · rename_i a b C' s lc
          have e3 := of_decide_eq_true b2
          subst e3
          exact ⟨_, _, _, lc⟩
        · cases b2
      · split at b3
        · rename_i a b vs s lc
          split at b3
          · rename_i y t ev
            have e4 := of_decide_eq_true b3
            subst e4
            exact ⟨_, _, vs, _, t, lc, ev⟩
          · cases b3
        · cases b3
    · cases a4
  · cases a4
end Sb
namespace Sb
open L2 PyProof.Rows PySem.Calls PySem.Spec PySem He
def eA (fld : Str) (p1 p2 p3 p4 : Pos) : Arguments := { posonlyargs := [], args := [{ arg := "self", annotation := none, pos := p1 }, { arg := "text", annotation := none, pos := p2 }, { arg := fld, annotation := none, pos := p3 }], vararg := none, kwonlyargs := [], kw_defaults := [], kwarg := none, defaults := [.Constant .none 0 p4] }
def eB (fld : Str) (q1 q2 q3 q4 q5 q6 q7 q8 q9 q10 : Pos) : List Stmt := [.Expr (.Call (.Attribute (.Call (.Name "super" q1) [] [] q2) "__init__" q3) [.Name "text" q4] [] q5) q6, .Assign [.Attribute (.Name "self" q7) fld q8] (.Name fld q9) q10]
def eS (fld : Str) : Scope := { kind := .function, names := [("self", .local), ("text", .local), (fld, .local), ("__class__", .free), ("super", .globalImplicit)], isGenerator := false, isCoroutine := false, more := [] }
/-- the field's name is none of the others -/
structure EN (fld : Str) : Prop where
  a : (fld == ("self" : Str)) = false
  b : (fld == ("text" : Str)) = false
  c : (fld == ("__class__" : Str)) = false
  d : (fld == ("super" : Str)) = false
  e : (fld == ("__debug__" : Str)) = false
theorem lk_cons {α : Type} {k n : Str} {v : α} {r : List (Str × α)} (h : (n == k) = false) : List.lookup n ((k, v) :: r) = List.lookup n r := by
  simp only [List.lookup, h]
theorem lk_hit {α : Type} {n : Str} {v : α} {r : List (Str × α)} : List.lookup n ((n, v) :: r) = some v := by
  simp [List.lookup]
theorem sy {a b : Str} (h : (a == b) = false) : (b == a) = false := by
  have h1 : a ≠ b := by simpa using h
  simpa using fun z : b = a => h1 z.symm
section
variable {fld : Str} (N : EN fld)
include N
theorem EN.super : (eS fld).names.lookup ("super" : Str) = some .globalImplicit := by
  show List.lookup ("super" : Str) [(("self" : Str), NameKind.local), ("text", .local), (fld, .local), ("__class__", .free), ("super", .globalImplicit)] = _
  rw [lk_cons (by decide), lk_cons (by decide), lk_cons (sy N.d), lk_cons (by decide), lk_hit]
theorem EN.cls : (eS fld).names.lookup ("__class__" : Str) = some .free := by
  show List.lookup ("__class__" : Str) [(("self" : Str), NameKind.local), ("text", .local), (fld, .local), ("__class__", .free), ("super", .globalImplicit)] = _
  rw [lk_cons (by decide), lk_cons (by decide), lk_cons (sy N.c), lk_hit]
omit N in
theorem EN.self : (eS fld).names.lookup ("self" : Str) = some .local := lk_hit
theorem EN.text : (eS fld).names.lookup ("text" : Str) = some .local := by
  show List.lookup ("text" : Str) [(("self" : Str), NameKind.local), ("text", .local), (fld, .local), ("__class__", .free), ("super", .globalImplicit)] = _
  rw [lk_cons (by decide), lk_hit]
theorem EN.fl : (eS fld).names.lookup fld = some .local := by
  show List.lookup fld [(("self" : Str), NameKind.local), ("text", .local), (fld, .local), ("__class__", .free), ("super", .globalImplicit)] = _
  rw [lk_cons N.a, lk_cons N.b, lk_hit]
theorem EN.nocell : ∀ y ∈ (eS fld).names, y.2 ≠ .cell := by
  intro y hy
  have h : y ∈ [(("self" : Str), NameKind.local), ("text", .local), (fld, .local), ("__class__", .free), ("super", .globalImplicit)] := hy
  simp only [List.mem_cons, List.not_mem_nil, or_false] at h
  rcases h with h | h | h | h | h <;> (rw [h]; intro z; cases z)
def eb (fld : Str) (a b c : Value) : List (Str × Value) := [("self", a), ("text", b), (fld, c)]
theorem EN.bself {a b c : Value} : (eb fld a b c).reverse.lookup ("self" : Str) = some a := by
  show List.lookup ("self" : Str) [(fld, c), (("text" : Str), b), ("self", a)] = _
  rw [lk_cons (sy N.a), lk_cons (by decide), lk_hit]
theorem EN.btext {a b c : Value} : (eb fld a b c).reverse.lookup ("text" : Str) = some b := by
  show List.lookup ("text" : Str) [(fld, c), (("text" : Str), b), ("self", a)] = _
  rw [lk_cons (sy N.b), lk_hit]
theorem EN.bfl {a b c : Value} : (eb fld a b c).reverse.lookup fld = some c := by
  show List.lookup fld [(fld, c), (("text" : Str), b), ("self", a)] = _
  rw [lk_hit]
theorem EN.bloc {a b c : Value} : ∀ y ∈ eb fld a b c, (eS fld).names.lookup y.1 = some .local := by
  intro y hy
  have h : y ∈ [(("self" : Str), a), ("text", b), (fld, c)] := hy
  simp only [List.mem_cons, List.not_mem_nil, or_false] at h
  rcases h with h | h | h <;> rw [h]
  · exact EN.self
  · exact N.text
  · exact N.fl
end
/-- what is known ahead of the call -/
structure Grd (K : PySem.W.Frag) (mg : Str → Option Value) (h : Heap) : Prop where
  kin : K.In h
  lim : h.NoLimit
  glob : h.Ns mainGlobals mg
  blt : ∃ mb, h.Ns builtinsNs mb ∧ ∀ x : Str, x ≠ "__name__" → mb x = bootBuiltins x
theorem Grd.keeps {K : PySem.W.Frag} {mg : Str → Option Value} {h h' : Heap} (g : Grd K mg h) (k : ∀ b o, h.get? b = some o → h'.get? b = some o) : Grd K mg h' :=
  ⟨g.kin.keeps k, g.lim.keeps k, g.glob.keeps k, let ⟨mb, h1, h2⟩ := g.blt; ⟨mb, h1.keeps k, h2⟩⟩
/-- ValueError.__init__ bound to an exception being made, called -/
theorem call_mw {prog : Program} {w : World} {A : Around} {E : Value → Shared → Prop} {h : Heap} {g : Array GenState} {d : Drawn} {t : Nat} {os : OsState} {nm q : Str} {C N : Addr} {bs bm : List Value} {hdct : Bool} {sn : List Str} {sub : List Value} {ab : Bool} {col : Option Bool} {dd : Option Addr} {k0 k1 k2 k3 k5 : Option Value}
    {u e t0 : Addr} {rest : List Value} {Q : Value → Shared → Prop}
    (hC : h.get? C = some (excClassObj nm q C N bs bm hdct sn sub ab col dd k0 k1 k2 k3 k5 "ValueError.__new__")) (he : h.get? e = some (PySem.HandSPX.excO C t0)) (hu : h.get? u = some (PySem.W.kxs_mw "ValueError.__init__" e)) (hz : rest.length ≤ sizeLine)
    (fin : ∀ h' t1, (∀ b o, b ≠ e → h.get? b = some o → h'.get? b = some o) → h'.get? e = some (PySem.HandSPX.excO C t1) → Q .none ⟨h', g, d, t, os⟩) :
    wpAny (model prog w) A (call (.ref u) rest) Q E ⟨h, g, d, t, os⟩ := by
  have FB := F.excBase_ValueError
  refine wpAny_call (codeAny_of_tree ?_)
  show wpAny _ A.in1 (callAny (.ref u) ⟨rest, []⟩) _ _ _
  unfold callAny
  refine wpAny_bind (wpAny_load hu ?_)
  dsimp only [PySem.W.kxs_mw]
  refine PySem.W.KFB.if_so (by decide) (wpAny_bind (PySem.ESX.check_bound FB hC he rfl (wpAny_bind (wpAny_pure (wpAny_pure ⟨Code.quiet_builtin _ (by decide +kernel), codeAny_builtin FB.initEntry ?_⟩)))))
  rw [Around.under_plainId FB.init.plain _]
  wp_walk
  exact fin _ h.objs.size (fun b o hb ho => (Heap.get?_update_other _ _ (Ne.symm hb)).trans (Heap.get?_push_of_some _ ho)) ((Heap.get?_update_self _ (Heap.get?_push_of_some _ he) rfl).trans rfl)
/-- what __init__ leaves of a fresh exception at e -/
structure Made1 (h h' : Heap) (e C dx t1 : Addr) (fld : Str) (v : Value) : Prop where
  keep : ∀ b o, b ≠ e → h.get? b = some o → h'.get? b = some o
  obj : h'.get? e = some { cls := .ref C, dict := some dx, data := .fields #[.ref t1, .none, .none, .none, .bool false, .none] }
  big : h.objs.size ≤ dx
  ne : dx ≠ e
  ns : h'.Ns1 dx (fun y => if y = fld then some v else none)
theorem mro_self {K : PySem.W.Frag} {C : Addr} (h : PySem.W.mroIn K C (.ref C) = some true) : ∃ cd, PySem.W.clsIn K C = some cd := by
  unfold PySem.W.mroIn at h
  cases e : PySem.W.clsIn K C with
  | none =>
    rw [e] at h
    cases h
  | some cd => exact ⟨cd, rfl⟩
theorem own_init {prog : Program} {w : World} {A : Around} {R : Result → Shared → Prop} {s : Shared} {K : PySem.W.Frag} {mg : Str → Option Value} {C f cc cda e t0 : Addr} {x fld file : Str} {p1 p2 p3 p4 q1 q2 q3 q4 q5 q6 q7 q8 q9 q10 : Pos} {v1 v2 : Value}
    {oc dV kV doc pm ct : Value} {od an : Option Addr} {osl : Array (Option Value)} (N : EN fld) (T : Fld K C x fld file (eA fld p1 p2 p3 p4) (eB fld q1 q2 q3 q4 q5 q6 q7 q8 q9 q10) (eS fld))
    (lf : K.lookup f = some ⟨oc, od, .func (PySem.W.ksFn "__init__" (x ++ ".__init__") (eA fld p1 p2 p3 p4) (eB fld q1 q2 q3 q4 q5 q6 q7 q8 q9 q10) (eS fld) dV kV doc pm an (.ref cda) ct cc), osl⟩) (hcd : PySem.W.codeIn K (.ref cda) (x ++ ".__init__") = true)
    (lc : ∃ a b s, K.lookup cc = some ⟨a, b, .cell (some (.ref C)), s⟩) (lcd : ∃ a b vs s t, K.lookup cda = some ⟨a, b, .fields vs, s⟩ ∧ vs[2]? = some (.str file t))
    (hbd : BindsTo s (PySem.W.ksFn "__init__" (x ++ ".__init__") (eA fld p1 p2 p3 p4) (eB fld q1 q2 q3 q4 q5 q6 q7 q8 q9 q10) (eS fld) dV kV doc pm an (.ref cda) ct cc) ⟨[.ref e, v1, v2], []⟩ (eb fld (.ref e) v1 v2))
    (hev : ∀ env : Env, ∃ pl : Sem Bool, eval (.Call (.Attribute (.Call (.Name "super" q1) [] [] q2) "__init__" q3) [.Name "text" q4] [] q5) env = (do
      let ov ← attributeBase (.Call (.Name "super" q1) [] [] q2) "__init__" env (eval (.Call (.Name "super" q1) [] [] q2) env)
      standAt q3.atName
      let (f, first) ← holding [ov] (getMethod ov "__init__" pl)
      callWith q5 f first (backTo q5 (starEach [.Name "text" q4] env)) []))
    (G : Grd K mg s.heap) (hs : mg "super" = none) (hx : s.heap.get? e = some (PySem.HandSPX.excO C t0)) (hne : K.lookup e = none) (hroom : A.depth < recursionLimit) (hfile : ((prog.main.file : Str) == file) = true) (htop : (prog.main.scope.names.lookup ("super" : Str)).isSome = false)
    (fin : ∀ h' tk dx t1, Made1 s.heap h' e C dx t1 fld v2 → R (.ok (.ret .none)) { s with heap := h', toks := tk }) :
    codeAny (model prog w) A (.call (.ref f) ⟨[.ref e, v1, v2], []⟩) R s := by
  obtain ⟨nm, q, Nn, bs, bm, sn, sub, ab, col, dd, k0, k1, k2, k3, k5, hC, hbm⟩ := T.c.o.cls
  obtain ⟨ca, cb, cs, lc⟩ := lc
  obtain ⟨da, db, dvs, ds, dt, lcd, hv2⟩ := lcd
  obtain ⟨cd0, hcd0⟩ := mro_self T.self
  refine PySem.ks_codeAny_call_defAt (binds := eb fld (.ref e) v1 v2) hroom (G.kin _ _ lf) rfl G.lim (PySem.W.codeRec_of G.kin hcd) rfl hbd N.nocell N.bloc (fun h1 hns k1 => ?_) rfl rfl rfl
  have G1 : Grd K mg h1 := G.keeps k1
  have hx1 := k1 _ _ hx
  have hC1 := G1.kin _ _ hC
  have hL : s.heap.objs.size ≠ e := Nat.ne_of_gt (Heap.lt_size hx)
  have u1 : (callEnv (PySem.W.ksFn "__init__" (x ++ ".__init__") (eA fld p1 p2 p3 p4) (eB fld q1 q2 q3 q4 q5 q6 q7 q8 q9 q10) (eS fld) dV kV doc pm an (.ref cda) ct cc) s.heap.objs.size f) = PySem.W.ksEnv (x ++ ".__init__") (eS fld) s.heap.objs.size f (.ref cda) cc := rfl
  rw [u1]
  have n1 : (PySem.W.ksEnv (x ++ ".__init__") (eS fld) s.heap.objs.size f (.ref cda) cc).kindOf "super" = some .globalImplicit := N.super
  have n2 : (PySem.W.ksEnv (x ++ ".__init__") (eS fld) s.heap.objs.size f (.ref cda) cc).kindOf "__class__" = some .free := N.cls
  have n3 : (PySem.W.ksEnv (x ++ ".__init__") (eS fld) s.heap.objs.size f (.ref cda) cc).kindOf "self" = some .local := EN.self
  have n4 : (PySem.W.ksEnv (x ++ ".__init__") (eS fld) s.heap.objs.size f (.ref cda) cc).kindOf "text" = some .local := N.text
  have n5 : (PySem.W.ksEnv (x ++ ".__init__") (eS fld) s.heap.objs.size f (.ref cda) cc).kindOf fld = some .local := N.fl
  have n6 : (PySem.W.ksEnv (x ++ ".__init__") (eS fld) s.heap.objs.size f (.ref cda) cc).scope.kind = .function := rfl
  have n7 : (PySem.W.ksEnv (x ++ ".__init__") (eS fld) s.heap.objs.size f (.ref cda) cc).func = some f := rfl
  have n8 : (PySem.W.ksEnv (x ++ ".__init__") (eS fld) s.heap.objs.size f (.ref cda) cc).code = .ref cda := rfl
  have n9 : (PySem.W.ksEnv (x ++ ".__init__") (eS fld) s.heap.objs.size f (.ref cda) cc).locals = s.heap.objs.size := rfl
  have m1 : (PySem.W.ksEnv (x ++ ".__init__") (eS fld) s.heap.objs.size f (.ref cda) cc).globals = mainGlobals := rfl
  have m2 : (PySem.W.ksEnv (x ++ ".__init__") (eS fld) s.heap.objs.size f (.ref cda) cc).builtins = builtinsNs := rfl
  have m3 : (PySem.W.ksEnv (x ++ ".__init__") (eS fld) s.heap.objs.size f (.ref cda) cc).cells.lookup ("__class__" : Str) = some cc := rfl
  generalize PySem.W.ksEnv (x ++ ".__init__") (eS fld) s.heap.objs.size f (.ref cda) cc = env at n1 n2 n3 n4 n5 n6 n7 n8 n9 m1 m2 m3
  rw [← n9] at hns hL
  -- super().__init__(text)
  unfold eB
  obtain ⟨pl, hpl⟩ := hev env
  refine PySem.ks_wpAt_execs_cons (PySem.ks_wpAt_Expr_any (PySem.ks_wpAt_MethodCall (pl := pl) ?_ hpl) (by simp [interactive, n6]))
  refine PySem.ks_wpAt_super_base n1 n2 (by decide) n7 (G1.kin _ _ lf) rfl rfl n8 (G1.kin _ _ lcd) rfl hv2 hfile htop ?_
  obtain ⟨mb, hb1, hb2⟩ := G1.blt
  refine PySem.W.ks_loadName_global n6 n1 (loadGlobal_builtin (by rw [m1]; exact G1.glob) hs (by rw [m2]; exact hb1) ((hb2 _ (by decide)).trans (by decide +kernel)) ⟨rfl, ?_⟩)
  refine wpAny_loadName_free n6 n2 m3 ⟨_, G1.kin _ _ lc, rfl⟩ ?_
  refine wpAny_loadName_local n6 n3 hns N.bself ?_
  refine PySem.ks_wpAny_isType_cls (G1.kin _ _ hC) rfl ⟨rfl, ?_⟩
  refine PySem.ks_wpAny_call_super (G1.kin _ _ hC) rfl hx1 rfl (fun c z => by cases z) (PySem.W.looks_mroIn G1.kin T.self) (fun h2 hso k2 => ?_)
  have G2 : Grd K mg h2 := G1.keeps k2
  have hx2 := k2 _ _ hx1
  have hI : PySem.W.InstAt h2 e (PySem.HandSPX.excO C t0) C none := ⟨hx2, rfl, rfl, trivial⟩
  have hsup := T.sup
  unfold PySem.W.ks_superIn at hsup
  rw [hcd0] at hsup
  refine PySem.W.kxs_getMethod PySem.W.kxs_ValueError hso (PySem.W.looks_opaque G2.kin T.tp) (l₀ := cd0.mro) (fun A Q E s k q => wpAny_bind ((PySem.W.looks_clsIn G2.kin hcd0) A _ E s k (wpAny_pure q))) rfl G2.kin hsup (hI.type.andThen (PySem.W.looks_subIn G2.kin T.ve)) (PySem.W.ks_ne G2.kin hI hcd0) (by decide) ?_
  have k3 : ∀ b o, h2.get? b = some o → (h2.push (PySem.W.kxs_mw "ValueError.__init__" e)).get? b = some o := fun b o z => Heap.get?_push_of_some _ z
  have G3 : Grd K mg (h2.push (PySem.W.kxs_mw "ValueError.__init__" e)) := G2.keeps k3
  have hns3 := (hns.keeps k2).keeps k3
  refine PySem.W.kxs_callWith (i := "ValueError.__init__") (x := e) rfl (evalArgs_plain (spliced_cons ?_))
  refine wpAny_Name (wpAny_loadName_local n6 n4 hns3 N.btext (spliced_nil ⟨Heap.get?_push_size _ rfl, ?_⟩)) (by decide)
  refine call_mw (G3.kin _ _ hC) (k3 _ _ hx2) (Heap.get?_push_size _ rfl) (by show 1 ≤ sizeLine; decide) (fun h4 t4 k4 hx4 => ?_)
  have G4 : K.In h4 := fun b o z => k4 b o (fun y => by rw [y, hne] at z; cases z) (G3.kin b o z)
  have hns4 : h4.Ns env.locals fun x => List.lookup x (eb fld (Value.ref e) v1 v2).reverse := by
    obtain ⟨o, es, ep, z, r⟩ := hns3
    exact ⟨o, es, ep, k4 _ _ hL z, r⟩
  have hcl : PySem.W.clsIn K C = some { name := nm, bases := bs, mro := .ref C :: bm, ns := Nn, qualname := q, hasDict := true, slotNames := sn, subclasses := sub, abstract := ab, collection := col, hasDel := false } := by
    unfold PySem.W.clsIn
    rw [hC] <;> rfl
  -- self.f = f
  refine PySem.ks_wpAt_execs_cons (wpAt_of_wpAny (plainObj_wpAny_Assign_Attribute ?_))
  refine wpAny_Name (wpAny_loadName_local n6 n5 hns4 N.bfl ?_) N.e
  refine wpAny_Name (wpAny_loadName_local n6 n3 hns4 N.bself ?_) (by decide)
  refine PySem.W.set_plain G4 (ox := PySem.HandSPX.excO C t4) (od := none) ⟨hx4, rfl, rfl, trivial⟩ T.c.o.sa ?_
  refine PySem.HandSPX.exc_osa G4 hx4 hcl (show PySem.HandSPX.refsVE (.ref C :: bm) = true from hbm) rfl T.no (fun h5 tk5 dx k5 dn dne hx5 hn5 => ?_)
  refine wpAt_of_wpAny (wpAny_execs_nil ?_)
  refine fin h5 tk5 dx t4 ⟨fun b o hb z => k5 b o hb (k4 b o hb (k3 b o (k2 b o (k1 b o z)))), hx5, ?_, dne, hn5⟩
  have a1 : s.heap.objs.size ≤ env.locals := Nat.le_of_eq n9.symm
  have a2 : env.locals < h4.objs.size := by
    obtain ⟨o, es, ep, z, r⟩ := hns4
    exact Heap.lt_size z
  exact Nat.le_trans a1 (Nat.le_trans (Nat.le_of_lt a2) dn)
/-- an own error class with a field, as a row's text has it -/
structure Own (K : PySem.W.Frag) (C : Addr) (x fld file : Str) : Prop where
  n : EN fld
  t : ∃ p1 p2 p3 p4 q1 q2 q3 q4 q5 q6 q7 q8 q9 q10 : Pos, Fld K C x fld file (eA fld p1 p2 p3 p4) (eB fld q1 q2 q3 q4 q5 q6 q7 q8 q9 q10) (eS fld) ∧
    (∀ (T : Addr) (kV doc pm ct : Value) (an : Option Addr) (cda cc e : Addr) (v1 v2 dn : Value), ∃ k, bindArgs (PySem.W.ksFn "__init__" (x ++ ".__init__") (eA fld p1 p2 p3 p4) (eB fld q1 q2 q3 q4 q5 q6 q7 q8 q9 q10) (eS fld) (.ref T) kV doc pm an (.ref cda) ct cc) ⟨[.ref e, v1, v2], []⟩ = seqItems? (.ref T) >>= k ∧ k (some #[dn]) = pure (eb fld (.ref e) v1 v2)) ∧
    ∀ env : Env, ∃ pl : Sem Bool, eval (.Call (.Attribute (.Call (.Name "super" q1) [] [] q2) "__init__" q3) [.Name "text" q4] [] q5) env = (do
      let ov ← attributeBase (.Call (.Name "super" q1) [] [] q2) "__init__" env (eval (.Call (.Name "super" q1) [] [] q2) env)
      standAt q3.atName
      let (f, first) ← holding [ov] (getMethod ov "__init__" pl)
      callWith q5 f first (backTo q5 (starEach [.Name "text" q4] env)) [])
theorem Own.c {K : PySem.W.Frag} {C : Addr} {x fld file : Str} (T : Own K C x fld file) : XCl K C := by
  obtain ⟨_, _, _, _, _, _, _, _, _, _, _, _, _, _, h, _⟩ := T.t
  exact h.c
/-- a made error -/
structure Made2 (h h' : Heap) (e C d : Addr) (fld : Str) (v : Value) : Prop where
  keep : ∀ b o, h.get? b = some o → h'.get? b = some o
  big : h.objs.size ≤ e
  obj : ∃ oe vs, h'.get? e = some oe ∧ oe.cls = .ref C ∧ oe.dict = some d ∧ oe.data = .fields vs ∧ vs[1]? = some .none
  dbig : h.objs.size ≤ d
  ne : d ≠ e
  ns : h'.Ns1 d (fun y => if y = fld then some v else none)
theorem two_size (v u : Value) : [v, u].length ≤ sizeLine := by
  rw [sizeLine_eq]
  exact (by decide : 2 ≤ 16777216)
theorem own_made {prog : Program} {w : World} {A : Around} {R : Result → Shared → Prop} {s : Shared} {K : PySem.W.Frag} {mg : Str → Option Value} {C : Addr} {x fld file : Str} {v1 v2 : Value} (T : Own K C x fld file)
    (G : Grd K mg s.heap) (hs : mg "super" = none) (hroom : A.depth + 1 < recursionLimit) (hfile : ((prog.main.file : Str) == file) = true) (htop : (prog.main.scope.names.lookup ("super" : Str)).isSome = false)
    (fin : ∀ h' tk e d, Made2 s.heap h' e C d fld v2 → R (.ok (.ret (.ref e))) { s with heap := h', toks := tk }) :
    codeAny (model prog w) A (.call (.ref C) ⟨[v1, v2], []⟩) R s := by
  obtain ⟨p1, p2, p3, p4, q1, q2, q3, q4, q5, q6, q7, q8, q9, q10, TF, hbd, hev⟩ := T.t
  obtain ⟨nm, q, N, bs, bm, sn, sub, ab, col, dd, k0, k1, k2, k3, k5, hC, hbm⟩ := TF.c.o.cls
  obtain ⟨f, cc, cda, oc, dV, kV, doc, pm, ct, od, an, osl, hI, tI, lf, hcd, hdf, lc, lcd⟩ := TF.init
  obtain ⟨hp, g, dr, tk, os⟩ := s
  have k : ∀ b o, hp.get? b = some o → ((hp.push (PySem.W.kdv_tup [v1, v2])).push (PySem.HandSPX.excO C hp.objs.size)).get? b = some o := fun b o z => Heap.get?_push_of_some _ (Heap.get?_push_of_some _ z)
  have here : ((hp.push (PySem.W.kdv_tup [v1, v2])).push (PySem.HandSPX.excO C hp.objs.size)).get? (hp.objs.size + 1) = some (PySem.HandSPX.excO C hp.objs.size) := by heap_get
  have gone : K.lookup (hp.objs.size + 1) = none := by
    cases z : K.lookup (hp.objs.size + 1) with
    | none => rfl
    | some o => exact absurd (Nat.lt_of_succ_lt (Heap.lt_size (show hp.get? (hp.objs.size + 1) = some o from G.kin _ _ z))) (Nat.lt_irrefl _)
  have hb : BindsTo ⟨(hp.push (PySem.W.kdv_tup [v1, v2])).push (PySem.HandSPX.excO C hp.objs.size), g, dr, tk, os⟩ (PySem.W.ksFn "__init__" (x ++ ".__init__") (eA fld p1 p2 p3 p4) (eB fld q1 q2 q3 q4 q5 q6 q7 q8 q9 q10) (eS fld) dV kV doc pm an (.ref cda) ct cc) ⟨[.ref (hp.objs.size + 1), v1, v2], []⟩ (eb fld (.ref (hp.objs.size + 1)) v1 v2) := by
    rcases hdf with ⟨z, _⟩ | ⟨_, T1, o, its, m, rfl, lT, oT, rT⟩
    · cases z
    · cases rT with
      | cons r1 r2 =>
        cases r2
        obtain ⟨kk, e1, e2⟩ := hbd T1 kV doc pm ct an cda cc (hp.objs.size + 1) v1 v2 _
        refine BindsTo.of_looks fun M => ?_
        rw [e1]
        exact looks_items (G.keeps k).kin lT oT (.of_pure e2)
  refine PySem.HandSPX.call_own F.excBase_ValueError (fun Y => PySem.HandSPX.refsVE_contains Y bm hbm) (G.kin _ _ hC) (PySem.W.looks_findIn G.kin hI) (fun self => PySem.W.bind_fn G.kin self tI) (two_size v1 v2) ?_
  refine own_init (s := ⟨(hp.push (PySem.W.kdv_tup [v1, v2])).push (PySem.HandSPX.excO C hp.objs.size), g, dr, tk, os⟩) T.n TF lf hcd lc lcd hb hev (G.keeps k) hs here gone ?_ hfile htop fun h' tk' dx t1 M => ?_
  · have z : (A.under (.builtin "type.__call__" ⟨.ref C :: [v1, v2], []⟩)).depth = A.depth + 1 := make_depth
    omega
  · have old : ∀ b o, hp.get? b = some o → h'.get? b = some o := fun b o z => M.keep b o (Nat.ne_of_lt (Nat.lt_succ_of_lt (Heap.lt_size z))) (k b o z)
    have big : hp.objs.size ≤ dx := by
      have z : ((hp.push (PySem.W.kdv_tup [v1, v2])).push (PySem.HandSPX.excO C hp.objs.size)).objs.size ≤ dx := M.big
      rw [Heap.size_push, Heap.size_push] at z
      omega
    exact ⟨rfl, fin h' tk' (hp.objs.size + 1) dx ⟨old, Nat.le_succ _, ⟨_, _, M.obj, rfl, rfl, rfl, rfl⟩, big, M.ne, M.ns⟩⟩
theorem relO_one {fld : Str} {v : V} {u : Value} (r : RelV v u) (g : Str) : RelO (List.lookup g [(fld, v)]) (if g = fld then some u else none) := by
  by_cases h : g = fld
  · rw [if_pos h, h, lk_hit]
    exact r
  · rw [if_neg h, lk_cons (by simpa using h)]
    trivial
section
variable {X : Cx} {C : Addr} {x fld file : Str}
theorem Inv.grd {pins : List (Addr × Obj)} {σ : L2.St} {H : Hp} {s : Shared} (I : L2.Inv X pins σ H s) : Grd X.K X.mg s.heap :=
  ⟨I.kIn, I.nolimit, I.mod.glob.keeps I.bk, let ⟨mb, h1, h2⟩ := I.mod.blt; ⟨mb, h1.keeps I.bk, h2⟩⟩
/-- X(a, b) -/
def tMkF (C : Addr) (fld : Str) (ta : TA) : L2.St → Hp → XK → Prop := fun σ H Q => ta σ H fun vs H1 => ∃ u v, vs = [u, v] ∧ ∀ d, H1 d = none → Q (.ref C) (some d) (upd H1 d (.xd [(fld, v)]))
theorem pmk_fld {a b : Expr} {ta : TA} {p pos : Pos} {k : Nat} (T : Own X.K C x fld file) (gC : X.mg x = some (.ref C)) (hs : X.mg "super" = none) (hfile : ((X.prog.main.file : Str) == file) = true) (htop : (X.prog.main.scope.names.lookup ("super" : Str)).isSome = false) (hr : Room k X.A) (ha : PA X [a, b] ta) (hg : Gl X x := by rfl)
    (hdb : (x == ("__debug__" : Str)) = false := by decide) (he : starEach [a, b] X.env = (false, eval a X.env) :: starEach [b] X.env := by rfl) (hpl : (backTo pos (starEach [b] X.env)).any (·.1) = false := by rfl) :
    PMk X (.Call (.Name x p) [a, b] [] pos) (tMkF C fld ta) := by
  intro pins s σ H Q I h
  refine wpAny_Call_Name_kw (ld_glob I hg gC ?_ hdb)
  refine PySem.W.callWith_K (h₀ := X.base) I.ok.mod.kin T.c.o.kC (thn (ha.run pos pins s σ H _ I h) fun us s1 hh => ?_) he hpl
  obtain ⟨vs, H1, I1, r1, u, v, ev, q1⟩ := hh
  subst ev
  refine ⟨I1.kIn, ?_⟩
  obtain ⟨u', v', rfl, ru, rv⟩ := vals2 r1
  show wpAny _ _ (call (.ref C) [u', v']) _ _ _
  have G := Inv.grd I1
  obtain ⟨hp, g, dr, tk, os⟩ := s1
  refine wpAny_call (own_made T G hs (by have := hr.dp; omega) hfile htop fun h' tk' e d M => ?_)
  show MkP X pins σ Q (.ref e) ⟨h', g, dr, tk', os⟩
  obtain ⟨oe, fv, hoe, hc, hd, hdat, h1⟩ := M.obj
  obtain ⟨G', g1, g2⟩ := restrict h' fun b => decide (b ≠ e)
  have gk : ∀ b, b ≠ e → G'.get? b = h'.get? b := fun b hb => g1 b (decide_eq_true hb)
  have ge : G'.get? e = none := g2 e (by simp)
  have old : ∀ b o, hp.get? b = some o → G'.get? b = some o := fun b o z => (gk b (Nat.ne_of_lt (Nat.lt_of_lt_of_le (Heap.lt_size z) M.big))).trans (M.keep b o z)
  have ob : ObjOk X.prog X.w (upd H1 d (.xd [(fld, v)])) G' d (.xd [(fld, v)]) := ⟨_, M.ns.at (fun o z => (gk d M.ne).trans z), fun f => relO_one rv f⟩
  have J : L2.Inv X pins σ (upd H1 d (.xd [(fld, v)])) ⟨G', g, dr, tk', os⟩ := I1.laid (t' := tk') old M.dbig ob
  refine ⟨e, oe, fv, ⟨G', g, dr, tk', os⟩, _, .ref C, some d, rfl, J, fun b o z => ?_, ge, hoe, ⟨hc, hd⟩, hdat, h1, ?_, rfl, I1.bare, raises_own T.c.o.exC T.c.o.tyC, q1 d (I1.hok.fresh M.dbig)⟩
  · by_cases hb : b = e
    · have z' : G'.get? b = some o := z
      rw [hb, ge] at z'
      cases z'
    · exact (gk b hb).symm.trans z
  · rw [upd_ne (Ne.symm M.ne)]
    exact I1.hok.fresh M.big
/-- raise X(a, b) -/
theorem ps_raiseF {a b : Expr} {ta : TA} {W : WX} {p pos pos2 : Pos} {k : Nat} (hc : X.calm = true) (tk : Takes X W) (T : Own X.K C x fld file) (gC : X.mg x = some (.ref C)) (hs : X.mg "super" = none) (hfile : ((X.prog.main.file : Str) == file) = true) (htop : (X.prog.main.scope.names.lookup ("super" : Str)).isSome = false) (hr : Room k X.A) (ha : PA X [a, b] ta)
    (hg : Gl X x := by rfl) (hdb : (x == ("__debug__" : Str)) = false := by decide) (he : starEach [a, b] X.env = (false, eval a X.env) :: starEach [b] X.env := by rfl) (hpl : (backTo pos (starEach [b] X.env)).any (·.1) = false := by rfl) :
    PS X (.Raise (some (.Call (.Name x p) [a, b] [] pos)) none pos2) (fun _ σ H => tMkF C fld ta σ H fun cls d H' => W cls d σ H') := ps_raise hc tk (pmk_fld T gC hs hfile htop hr ha hg hdb he hpl)
end
end Sb
namespace Sb
open L2 PyProof.Rows PySem.Calls PySem.Spec PySem He
/-- a caught error that goes on as a value: its class, its own dict -/
def ExV (cls : Value) (d : Option Addr) (a : Addr) : HO := .ext fun h => ∃ (oe : Obj) (vs : Array Value), h.get? a = some oe ∧ Zc cls d oe ∧ oe.data = .fields vs
theorem exV_at {P : Program} {w : World} {H : Hp} {h : Heap} {a : Addr} {cls : Value} {d : Option Addr} (ok : HOk P w H h) (e : H a = some (ExV cls d a)) : ∃ (oe : Obj) (vs : Array Value), h.get? a = some oe ∧ Zc cls d oe ∧ oe.data = .fields vs := by
  have z : ObjOk P w H h a (ExV cls d a) := ok a _ e
  exact z.1
section
variable {X : Cx} {pins : List (Addr × Obj)} {σ : L2.St} {H : Hp} {s : Shared}
/-- an untracked record that is new since the entry is tracked from now on -/
theorem Inv.adopt {a : Addr} {oe : Obj} {vs : Array Value} {cls : Value} {d : Option Addr} (I : L2.Inv X ((a, oe) :: pins) σ H s) (z : Zc cls d oe) (hd : oe.data = .fields vs) (new : X.s_0.heap.get? a = none) (apart : ∀ p ∈ X.pn ++ pins, p.1 ≠ a) :
    L2.Inv X pins σ (upd H a (ExV cls d a)) s := by
  obtain ⟨ho, na, nl, nf, nc⟩ := I.pin (a, oe) (List.mem_append_right _ List.mem_cons_self)
  have ho : s.heap.get? a = some oe := ho
  have na : H a = none := na
  have off : ∀ {b : Addr} {u : HO}, H b = some u → b ≠ a := fun {b u} q => ne_of_none q na
  have old : ∀ {b : Addr} {o : Obj}, X.s_0.heap.get? b = some o → b ≠ a := fun {b o} q y => by
    rw [y, new] at q
    cases q
  have same : ∀ {b : Addr}, b ≠ a → upd H a (ExV cls d a) b = H b := fun q => upd_ne q
  have cell : ∀ x c, X.env.cells.lookup x = some c → c ≠ a := fun x c q y => by
    obtain ⟨v, o, h1, h2⟩ := I.cell x c q
    rw [y, ho] at h1
    cases h1
    rw [hd] at h2
    cases h2
  have b0 := I.base
  constructor
  case ok => exact I.ok
  case os => exact I.os
  case bare => exact I.bare
  case loc => exact I.loc
  case cell => exact I.cell
  case len => exact I.len
  case free =>
    rw [same (Ne.symm nl)]
    exact I.free
  case freeC =>
    intro x c q
    rw [same (cell x c q)]
    exact I.freeC x c q
  case pin =>
    intro p hp
    have hp' : p ∈ X.pn ++ (a, oe) :: pins := by
      rcases List.mem_append.mp hp with y | y
      · exact List.mem_append_left _ y
      · exact List.mem_append_right _ (List.mem_cons_of_mem _ y)
    obtain ⟨e1, e2, e3⟩ := I.pin p hp'
    exact ⟨e1, (same (apart p hp)).trans e2, e3⟩
  case base =>
    constructor
    case keep => exact b0.keep
    case slot => exact b0.slot
    case there => exact b0.there
    case free =>
      intro b o q n hx
      rw [same (old q)]
      exact b0.free b o q n hx
    case tups =>
      intro b xs q
      have y := b0.tups b xs q
      rw [same (off y)]
      exact y
    case frzs =>
      intro b o u q
      have y := b0.frzs b o u q
      rw [same (off y)]
      exact y
    case tbls =>
      intro b ps q
      obtain ⟨m, y⟩ := b0.tbls b ps q
      exact ⟨m, (same (off y)).trans y⟩
  case hok =>
    intro b u q
    by_cases hb : b = a
    · subst hb
      rw [upd_same] at q
      cases q
      exact ⟨⟨oe, vs, ho, z, hd⟩, ⟨oe, ho⟩, fun h1 h2 ⟨o, v, e1, e2⟩ k => ⟨o, v, k o e1, e2⟩⟩
    · rw [same hb] at q
      exact (I.hok b u q).stay (fun c v _ r => r) (fun c r => (same (off r)).trans r) fun c xs r => (same (off r)).trans r
end
/-- what the clause wishes of an error of the body: the suite runs with it in slot i; behind it the error stands as a value -/
def wVal (K : PySem.W.Frag) (c : Value) (i : Nat) (ts : Addr → TS) (D : Ends) : WX := fun cls d σ H =>
  PySem.W.exmOne K cls c = some true ∧ ∀ a, H a = none → ts a { nx := fun σ' H' => D.nx (σ'.set i none) (upd H' a (ExV cls d a)), rt := fun _ _ => False } (σ.set i (some (.ref a))) H
section
variable {X : Cx} {x n : Str} {c : Value} {i : Nat} {body suite : List Stmt} {st : Stmt} {np pos pos' : Pos} {tb : WX → TS} {ts : Addr → TS}
theorem ps_try_val (hs : X.stack = X.env :: X.outer) (hf : X.env.frame = some X.env.locals) (hex : X.ex = []) (hN : X.N.Nodup) (hi : X.N[i]? = some n) (hl : X.env.kindOf n = some .local) (hc : Names X x c)
    (hb : ∀ (W : WX) (pn : List (Addr × Obj)) (xe : Value → Shared → Prop), Takes (X.tr pn xe) W → PassesOwn (model X.prog X.w) X.A X.env xe → PSs (X.tr pn xe) body (tb W))
    (hsu : ∀ (a : Addr) (oe : Obj) (cls : Value) (d : Option Addr) (pn : List (Addr × Obj)), Zc cls d oe → PSs (X.suite a ((a, oe) :: pn)) (st :: suite) (ts a)) :
    PS X (.Try body [.ExceptHandler (some (.Name x np)) (some n) (st :: suite) pos'] [] [] pos) (fun D σ H => tb (wVal X.K c i ts D) D σ H) := by
  constructor
  intro pins s σ H D I h
  have ok := I.ok
  have frames : X.A.frames = some (X.env :: X.outer) := by
    rw [← hs]
    exact ok.frames
  let xe' : Value → Shared → Prop := fun e s₁ => wpAny (model X.prog X.w) X.A (noteFrame e X.env) (fun _ s₂ => wpAny (model X.prog X.w) X.A (setFlight e none)
    (fun _ s₃ => wpAny (model X.prog X.w) X.A (handleBy e X.env [.ExceptHandler (some (.Name x np)) (some n) (st :: suite) pos']) (SP X pins D) X.xe s₃) X.xe s₂) X.xe s₁
  have caught : Takes (X.tr (X.pn ++ pins) xe') (wVal X.K c i ts D) := by
    rintro u s' ⟨a, B, sI, pins', σ', H', cls, d, rfl, J', nb, up, sky, na, eos, ag, yes, run⟩
    have J : L2.Inv X pins σ' H' sI := J'.ofTry ok
    rw [show (X.tr (X.pn ++ pins) xe').stack = X.env :: X.outer from hs] at sky
    refine Sky.land Zc.steady frames hf sky fun h3 fl3 up3 => ?_
    have J3 : L2.Inv X pins σ' H' { s' with heap := h3 } := J.landed nb fl3.1 (up.trans up3) eos ag
    obtain ⟨o3, v3, g3, z3, d3⟩ := fl3.there
    have off : a ∉ frs (X.env :: X.outer) := fun hm => by
      obtain ⟨_, o, q, r⟩ := fl3.2.2.1.mem hm
      rw [g3] at q
      cases q
      exact r _ d3
    have nL : a ≠ X.env.locals := fun q => off (List.mem_filterMap.mpr ⟨X.env, List.mem_cons_self, by rw [hf, q]⟩)
    have nF : a ∉ X.fs := fun hm => by
      obtain ⟨e, q, r⟩ := List.mem_filterMap.mp hm
      exact off (List.mem_filterMap.mpr ⟨e, List.mem_cons_of_mem _ q, r⟩)
    have gone : sI.heap.get? a = none := by
      cases q : sI.heap.get? a with
      | none => rfl
      | some o =>
        have y := nb a o q (by rw [hs]; exact off)
        rw [fl3.2.1] at y
        cases y
    have new : X.s_0.heap.get? a = none := by
      cases q : X.s_0.heap.get? a with
      | none => rfl
      | some o =>
        obtain ⟨o', y⟩ := J.base.there a o q (by rw [hex]; exact List.not_mem_nil)
        rw [gone] at y
        cases y
    have apart : ∀ p ∈ X.pn ++ pins, p.1 ≠ a := fun p hp y => by
      have q := (J.pin p hp).1
      rw [y, gone] at q
      cases q
    have S3 := J3.suite g3 d3 na nL nF
    have known : PySem.W.Looks (model X.prog X.w) h3 (typeOf (.ref a)) cls := fun A Q E s k q => wpAny_typeOf_ref (k _ _ g3) (by rw [z3.1]; exact q)
    have test := PySem.W.exm_one (M := model X.prog X.w) J3.kIn known yes
    refine wpAny_handleBy_cons (codeAny_handlers_test ?_) (by intro q; cases q)
    have named : ∀ {Q : Value → Shared → Prop} {E : Value → Shared → Prop}, Q c { s' with heap := h3 } → wpAny (model X.prog X.w) (X.A.mark (some (.ref a))) (eval (.Name x np) X.env) Q E { s' with heap := h3 } := by
      intro Q E q
      obtain ⟨hg, hdb, hm | ⟨hm, hv, hn⟩⟩ := hc
      · exact ld_glob (X := X.suite a ((a, o3) :: (X.pn ++ pins))) S3 hg hm q hdb
      · exact ld_blt (X := X.suite a ((a, o3) :: (X.pn ++ pins))) S3 hg hm hv q hn hdb
    refine named (test.here (codeAny_handlers_suite_as (PySem.HandSPX.lands_againZ fl3 fun h4 fl4 up4 => ?_)))
    have J4 : L2.Inv X pins σ' H' { s' with heap := h4 } := J.landed nb fl4.1 ((up.trans up3).trans up4) eos ag
    obtain ⟨o4, v4, g4, z4, d4⟩ := fl4.there
    have S4 := J4.suite g4 d4 na nL nF
    refine store_ok (X := X.suite a ((a, o4) :: (X.pn ++ pins))) (v := .ref a) S4 hN hi (.inl hl) rfl (fun s5 S5 => ?_) (.inr hl)
    refine wpAny_mono ((hsu a o4 cls d (X.pn ++ pins) z4).run [] s5 _ H' _ S5 (run a na)) (fun f s6 q => ?_) fun _ _ y => False.elim y
    cases f with
    | ret u =>
      obtain ⟨_, _, _, _, _, q⟩ := q
      exact q.elim
    | brk =>
      obtain ⟨_, _, _, q⟩ := q
      exact q.elim
    | cont =>
      obtain ⟨_, _, _, q⟩ := q
      exact q.elim
    | next =>
      obtain ⟨σ6, H6, S6, q6⟩ := q
      have J6 : L2.Inv X ((a, o4) :: pins) σ6 H6 s6 := ⟨ok, S6.os, S6.bare, S6.base, S6.loc, S6.cell, S6.free, S6.freeC, fun p hp => S6.pin p (by
        rcases List.mem_append.mp hp with y | y
        · exact List.mem_append_left _ (List.mem_cons_of_mem _ (List.mem_append_left _ y))
        · rcases List.mem_cons.mp y with y | y
          · exact List.mem_append_left _ (by rw [y]; exact List.mem_cons_self)
          · exact List.mem_append_left _ (List.mem_cons_of_mem _ (List.mem_append_right _ y))), S6.hok, S6.len⟩
      exact gone_ok J6 hN hi hl fun s7 J7 => ⟨_, _, Inv.adopt J7 z4 d4 new apart, q6⟩
  refine wpAny_Try_except (wpAny_mono ((hb (wVal X.K c i ts D) (X.pn ++ pins) xe' caught PassesOwn.looking).run [] s σ H D (I.toTry _) h) (fun f s1 q => ?_) fun e s1 y => y)
  cases f with
  | next =>
    obtain ⟨σ', H', J', q⟩ := q
    exact wpAny_execs_nil ⟨σ', H', J'.ofTry ok, q⟩
  | brk =>
    obtain ⟨σ', H', J', q⟩ := q
    exact ⟨σ', H', J'.ofTry ok, q⟩
  | cont =>
    obtain ⟨σ', H', J', q⟩ := q
    exact ⟨σ', H', J'.ofTry ok, q⟩
  | ret u =>
    obtain ⟨v, σ', H', J', r, q⟩ := q
    exact ⟨v, σ', H', J'.ofTry ok, r, q⟩
end
theorem cls_at {K : PySem.W.Frag} {D : Addr} (hd : PySem.W.hasDictIn K D = true) : ∃ c d cd sl, K.lookup D = some ⟨c, d, .cls cd, sl⟩ := by
  obtain ⟨cd, hc, _⟩ := PySem.W.any_some hd
  unfold PySem.W.clsIn at hc
  split at hc
  · rename_i c d cd' sl lk
    exact ⟨c, d, cd', sl, lk⟩
  · cases hc
/-- an error value, for isinstance -/
theorem kitV {K : PySem.W.Frag} {x D : Addr} (C : ExcC K D) : PySem.W.KitX K (.ref x) (.ref D) (fun h => ∃ ox od, PySem.W.InstAt h x ox D od) where
  ty := fun _ _ _ ⟨_, _, I⟩ => I.type
  it := fun _ _ X _ => by
    obtain ⟨c, d, cd, sl, lk⟩ := cls_at C.hd
    intro A Q E s k q
    simp only [isType, loadHead]
    exact wpAny_bind (wpAny_loadPart (k _ _ (X _ _ lk)) (wpAny_pure q))
  ne := fun h tp dd its n sl X htp => by
    obtain ⟨c, d, cd, sl2, lk⟩ := cls_at C.hd
    refine Bool.eq_false_iff.mpr fun q => ?_
    have e : D = tp := Value.ref.inj (beq_iff_eq.mp q)
    subst e
    have z := (X _ _ lk).symm.trans htp
    cases z
  ca := fun {prog w A E Q s} X ⟨ox, od, I⟩ q => by
    obtain ⟨cd, hc, _⟩ := PySem.W.any_some C.hd
    exact PySem.W.kx_classE X I C.hg C.hk C.hs (PySem.W.findObj_dataE (by rw [hc]; rfl) C.ha C.hn C.ht) C.hm q
section
variable {X : Cx} {pins : List (Addr × Obj)} {σ : L2.St} {H : Hp} {s : Shared}
theorem exV_inst {a D d : Addr} {fs : List (Str × V)} (I : L2.Inv X pins σ H s) (e : H a = some (ExV (.ref D) (some d) a)) (ed : H d = some (.xd fs)) :
    ∃ (ox od : Obj) (mA : Str → Option Value), PySem.W.InstAt s.heap a ox D (some od) ∧ (∀ name, PySem.W.lookIn name od = some (mA name)) ∧ ∀ f, RelO (fs.lookup f) (mA f) := by
  obtain ⟨oe, vs, h1, h2, h3⟩ := exV_at I.hok e
  have z : ObjOk X.prog X.w H s.heap d (.xd fs) := I.hok d _ ed
  obtain ⟨mA, hn, r⟩ := z
  obtain ⟨od, ho, hl⟩ := lookIn_ns hn
  exact ⟨oe, od, mA, ⟨h1, h2.1, by unfold PySem.W.notCls; rw [h3] <;> rfl, by rw [h2.2]; exact ho⟩, hl, r⟩
/-- isinstance(e, c), e an error value -/
def rIsV (K : PySem.W.Frag) : List V → Hp → VK → Prop := fun xs H Q => ∃ (a D d : Addr) (fs : List (Str × V)) (c : V) (cv : Value) (b : Bool), xs = [.ref a, c] ∧ H a = some (ExV (.ref D) (some d) a) ∧ H d = some (.xd fs) ∧ ExcC K D ∧
  (∀ u, RelV c u → u = cv) ∧ PySem.W.kitOne K (.ref D) cv = some b ∧ Q (.bl b) H
theorem call_isV : CallR X (.builtin "isinstance") (rIsV X.K) := by
  intro pins s σ H xs us Q I r h
  obtain ⟨a, D, d, fs, c, cv, b, rfl, ea, ed, C, hcv, e, q⟩ := h
  obtain ⟨u, v, rfl, ru, rv⟩ := vals2 r
  cases ru
  have z := hcv _ rv
  subst z
  obtain ⟨ox, od, _, J, _⟩ := exV_inst I ea ed
  exact PySem.W.kia_one (kitV C) I.kIn ⟨ox, some od, J⟩ e (fun z => nomatch z) fun tk => ⟨.bl b, H, I.kept (t' := tk) fun _ _ z => z, rfl, q⟩
/-- e.f, e an error value -/
def tExF (K : PySem.W.Frag) (f : Str) (te : TE) : TE := fun σ H Q => te σ H fun x H1 => ∃ (a D d : Addr) (fs : List (Str × V)) (v : V), x = .ref a ∧ H1 a = some (ExV (.ref D) (some d) a) ∧ H1 d = some (.xd fs) ∧ ExcC K D ∧ PySem.W.findIn K (.ref D) f = some none ∧ fs.lookup f = some v ∧ Q v H1
theorem pe_exF {f : Str} {e : Expr} {te : TE} {pos : Pos} (he : PE X e te) (hb : attributeBase e f X.env (eval e X.env) = eval e X.env := by rfl) : PE X (.Attribute e f pos) (tExF X.K f te) := by
  refine ⟨fun pins s σ H Q I h => ?_⟩
  refine attr_of hb (thn (he.run pins s σ H _ I h) fun u s1 hh => ?_)
  obtain ⟨x, H1, I1, rx, a, D, d, fs, v, ex, ea, ed, C, no, l, q⟩ := hh
  subst ex
  obtain rfl : u = Value.ref a := rx
  obtain ⟨ox, od, mA, J, hl, hr⟩ := exV_inst I1 ea ed
  have r := hr f
  rw [l] at r
  obtain ⟨w, hw, rw'⟩ := RelO.some_of r
  exact PySem.HandSPX.exc_get I1.kIn J C.hg C.hk C.hs (PySem.W.findObj_own C.hd no rfl (by rw [hl, hw])) (handed_of rw') ⟨v, H1, I1.tok _, rw', q⟩
end
end Sb
namespace Sb
open L2 PyProof.Rows PySem.Calls PySem.Spec PySem He LamX
/-- kept over some frames, then over more of them, the others being new -/
theorem Un.widen {fs fs' : List Addr} {H H1 H2 : Hp} {h h1 h2 : Heap} (a : Un fs [] H H1 h h1) (b : Un fs' [] H1 H2 h1 h2) (new : ∀ x ∈ fs', x ∉ fs → h.get? x = none) : Un fs [] H H2 h h2 := by
  have out : ∀ {c : Addr} {o : Obj}, h.get? c = some o → c ∉ fs → c ∉ fs' := fun {c o} q hc hm => by
    rw [new c hm hc] at q
    cases q
  constructor
  case keep =>
    intro c o q n hc hx
    exact b.keep c o (a.keep c o q n hc hx) (a.free c o q n hx) (out q hc) hx
  case slot =>
    intro c o q n hc hx
    obtain ⟨sl, e⟩ := a.slot c o q n hc hx
    obtain ⟨sl', e'⟩ := b.any e (a.free c o q n hx) hx
    exact ⟨sl', e'⟩
  case free =>
    intro c o q n hx
    obtain ⟨o', e⟩ := a.there c o q hx
    exact b.free c o' e (a.free c o q n hx) hx
  case there =>
    intro c o q hx
    obtain ⟨o', e⟩ := a.there c o q hx
    exact b.there c o' e hx
  case tups => exact fun c xs q => b.tups c xs (a.tups c xs q)
  case frzs => exact fun c o u q => b.frzs c o u (a.frzs c o u q)
  case tbls =>
    intro c ps q
    obtain ⟨m, e⟩ := a.tbls c ps q
    obtain ⟨m', e'⟩ := b.tbls c _ e
    exact ⟨m ++ m', by rw [e', Array.append_assoc]⟩
/-- a lambda of the body X, made: its object at f, its code object at c -/
structure LamH (X : Cx) (pins : List (Addr × Obj)) (σ : L2.St) (H : Hp) (s : Shared) (params : Arguments) (body : Expr) (scope : Scope) (f c : Addr) : Prop where
  inv : L2.Inv X pins σ H s
  names : LamS X.env.scope scope
  at_ : ∃ pm ctv, s.heap.get? f = some (PySem.W.kla_obj "<lambda>" (X.env.qual ++ "<lambda>") params body scope (cloFrom X.env.cells scope.names []) pm c ctv)
  un : H f = none
  fr : f ∉ frs X.stack
  code : H c = some (CodeO c (X.env.qual ++ "<lambda>"))
  bind : ∀ (q : Str) (cl : List (Str × Addr)) (pm cv ctv : Value), bindArgs (PySem.W.kla_fn "<lambda>" q params body scope cl pm cv ctv) ⟨[], []⟩ = pure []
section
variable {X : Cx} {pins : List (Addr × Obj)} {σ : L2.St} {H : Hp} {s : Shared} {params : Arguments} {body : Expr} {scope : Scope} {f c : Addr}
/-- the code object stays known -/
theorem codeO_un {fs ex : List Addr} {H H1 : Hp} {h h1 : Heap} {P : Program} {w : World} {c : Addr} {q : Str} (e : H1 c = some (CodeO c q)) (ok : HOk P w H1 h1) : ∃ (oc : Obj) (vs : Array Value) (t : Tok), h1.get? c = some oc ∧ oc.data = .fields vs ∧ vs[1]? = some (.str q t) := by
  have z : ObjOk P w H1 h1 c (CodeO c q) := ok c _ e
  exact z.1
/-- it is called, from whatever frames -/
theorem lam_run {k : Nat} {A : Around} {outer : List Env} {s1 : Shared} {HZ : Hp} {E : XK} {tb : TE} {Q : VK} (M : LamH X pins σ H s params body scope f c) (hr : Room (k + 1) A) (e0 : Env0 X.prog X.w X.K X.mg X.base A outer s1 HZ) (un : Un (frs X.stack) [] H HZ s.heap s1.heap)
    (hc : HZ c = some (CodeO c (X.env.qual ++ "<lambda>"))) (hbody : Room k (A.deeper (lamEnv X scope s1.heap.objs.size f c)) → PE (lamCx X A outer s1 HZ E scope f c) body tb) (ht : tb σ HZ Q) :
    codeAny (model X.prog X.w) A (.call (.ref f) ⟨[], []⟩) (CR (L2.CX X.prog X.w) outer X.prog X.w HZ s1 Q E) s1 := by
  obtain ⟨pm, ctv, hf⟩ := M.at_
  have there := un.keep f _ hf M.un M.fr (by simp)
  obtain ⟨oc, vs, t, h1, h2, h3⟩ := codeO_un (fs := []) (ex := []) (H := H) (h := s.heap) hc e0.hok
  have lim : s1.heap.NoLimit := e0.mod.nolimit.keeps fun b o e => (e0.bs b o e).1
  refine PySem.W.kla_callFunE hr.depth there rfl M.names.co M.names.gen rfl ⟨c, oc, vs, t, rfl, h1, h2, h3⟩ ?_
  rw [M.bind]
  refine wpAny_pure (wpAny_newFunctionEnv (fun y hy => (M.names.own y hy).2) (fun y hy => absurd hy (by simp)) (fun h' hns hsb => ⟨lim.fresh _ hsb, ?_⟩) M.names.kind)
  have kp : ∀ b o, s1.heap.get? b = some o → h'.get? b = some o := fun b o e => hsb.extBut b o (Nat.ne_of_lt (Heap.lt_size e)) (Heap.get?_push_of_some _ e)
  have J : L2.Inv (lamCx X A outer s1 HZ E scope f c) [] σ HZ { s1 with heap := h', toks := s1.toks + ([] : List (Str × Value)).length } := lam_start2 M.inv M.names e0 hr.hd un hns kp
  show codeAny _ _ (.expr body (lamEnv X scope s1.heap.objs.size f c)) _ _
  refine PySem.W.kla_codeExpr (wpAny_mono ((hbody (hr.deeper _)).run [] _ _ HZ Q J ht) (fun v s' hq => ?_) fun e s' hq => hq)
  obtain ⟨w, H', J', rv, q⟩ := hq
  exact ⟨w, H', J'.os, J'.bare, J'.base, J'.hok, rv, q⟩
end
/-- a context over the same text as X -/
abbrev like (X : Cx) (A : Around) (N : List Str) (s0 : Shared) (H0 : Hp) (env : Env) (outer stack : List Env) (ex : List Addr) (fn : Str → Bool) (calm : Bool) (pn : List (Addr × Obj)) (xe : Value → Shared → Prop) : Cx :=
  { prog := X.prog, w := X.w, K := X.K, mg := X.mg, base := X.base, A := A, N := N, s_0 := s0, H_0 := H0, env := env, outer := outer, stack := stack, ex := ex, fn := fn, calm := calm, pn := pn, xe := xe }
section
variable {X : Cx} {pins : List (Addr × Obj)} {σ : L2.St} {H : Hp} {s : Shared} {params : Arguments} {body : Expr} {scope : Scope} {f c : Addr} {A : Around} {N : List Str} {s0 : Shared} {H0 : Hp} {env : Env} {outer stack : List Env} {fn : Str → Bool} {calm : Bool} {pn : List (Addr × Obj)} {xe : Value → Shared → Prop}
/-- a(), a name that holds it -/
theorem pe_lam {k i : Nat} {a : Str} {W : WX} {tb : XK → TE} {p1 p2 : Pos} (M : LamH X pins σ H s params body scope f c) (tk : Takes (like X A N s0 H0 env outer stack [] fn calm pn xe) W) (hr : Room (k + 1) A)
    (U0 : Un (frs X.stack) [] H H0 s.heap s0.heap) (new : ∀ b ∈ frs outer, b ∉ frs X.stack → s.heap.get? b = none)
    (hbody : ∀ (E : XK) (sY : Shared) (HY : Hp), Un (frs X.stack) [] H HY s.heap sY.heap → Room k (A.deeper (lamEnv X scope sY.heap.objs.size f c)) → PE (lamCx X A stack sY HY E scope f c) body (tb E))
    (hN : N[i]? = some a) (hv : Vis env.scope a) (hd : (a == ("__debug__" : Str)) = false := by decide) (hcd : (a == ("__classdict__" : Str)) = false := by decide) :
    PE (like X A N s0 H0 env outer stack [] fn calm pn xe) (.Call (.Name a p1) [] [] p2)
      (fun σY HY Q => σY[i]? = some (some (.ref f)) ∧ HY c = some (CodeO c (X.env.qual ++ "<lambda>")) ∧ tb (fun cls d H' => W cls d σY H') σ HY Q) := by
  refine ⟨fun pinsY sY σY HY Q IY h => ?_⟩
  obtain ⟨hs, hc, ht⟩ := h
  refine wpAny_Call_Name_kw (thn ((pe_var (X := like X A N s0 H0 env outer stack [] fn calm pn xe) (pos := p1) (i := i) hN hv hd hcd).run pinsY sY σY HY (fun v H1 => v = .ref f ∧ H1 = HY) IY ⟨.ref f, hs, rfl, rfl⟩) fun u s1 ⟨v, H1, I1, r1, ev, eH⟩ => ?_)
  subst ev eH
  obtain rfl : u = Value.ref f := r1
  have un : Un (frs X.stack) [] H H1 s.heap s1.heap := Un.widen U0 I1.base new
  obtain ⟨pm, ctv, hf⟩ := M.at_
  have there := un.keep f _ hf M.un M.fr (by simp)
  have e0 : Env0 X.prog X.w X.K X.mg X.base A stack s1 H1 := I1.env0
  have rc : codeAny (model X.prog X.w) A (.call (.ref f) ⟨[], []⟩) (CR (L2.CX X.prog X.w) stack X.prog X.w H1 s1 Q (fun cls d H' => W cls d σY H')) s1 :=
    lam_run (X := X) (E := fun cls d H' => W cls d σY H') M hr e0 un hc (fun hr' => hbody _ s1 H1 un hr') ht
  refine PySem.W.callWith_F0 ⟨_, _, _, _, there⟩ (wpAny_call (codeAny_mono rc fun r s' hq => ?_))
  cases r with
  | error e => exact passAt tk σY pinsY H1 s1 e s' I1 hq
  | ok fl =>
    cases fl with
    | ret u => exact I1.after hq
    | next => exact False.elim hq
    | brk => exact False.elim hq
    | cont => exact False.elim hq
end
section
variable {X : Cx}
/-- x(lambda: body): the callee's body, given the lambda, keeps TT -/
theorem pe_give {T : List (Addr × Str)} {TT : L2.St → Hp → VK → Prop} {x a : Str} {g c P : Addr} {k : Nat} {pg : Arguments} {bg : List Stmt} {sg : Scope} {dV kV doc pm cdv ct oc : Value} {an od : Option Addr} {osl : Array (Option Value)} {Ng : List Str}
    {params : Arguments} {body : Expr} {scope : Scope} {p lpos pos : Pos} (hg : Gl X x) (hm : X.mg x = some (.ref g)) (hk : PySem.W.keepIn X.K (.ref g) = true)
    (lk : X.K.lookup g = some ⟨oc, od, .func (PySem.W.fnOf x x pg bg sg dV kV doc pm an cdv ct), osl⟩) (hcg : PySem.W.codeIn X.K cdv x = true) (hb : L2.Binds X.K (PySem.W.fnOf x x pg bg sg dV kV doc pm an cdv ct) [a] []) (Sg : FnScope Ng [a] sg)
    (TB : TabB X.base X.mg c P) (hcode : X.env.code = .ref c) (hmT : (P, X.env.qual ++ "<lambda>") ∈ T) (hu : ∀ p ∈ T, p.1 = P → p.2 = X.env.qual ++ "<lambda>") (hr : Room (k + 1) X.A) (L : LamS X.env.scope scope) (hdef : defaultsOf params X.env = ([], []))
    (hbind : ∀ (q : Str) (cl : List (Str × Addr)) (pm cv ctv : Value), bindArgs (PySem.W.kla_fn "<lambda>" q params body scope cl pm cv ctv) ⟨[], []⟩ = pure [])
    (hG : ∀ (pins : List (Addr × Obj)) (σ : L2.St) (H : Hp) (s : Shared) (Q : VK) (f c' : Addr), LamH X pins σ H s params body scope f c' → Tabs T H → Room k (X.A.deeper (envOfC x sg s.heap.objs.size g cdv)) → TT σ H Q →
      ∃ t, PSs (cxOf (L2.CX X.prog X.w) X.prog X.w X.K X.mg X.base Ng x sg g cdv X.A X.stack s H E0).nox bg t ∧ t { nx := fun _ H' => Q .non H', rt := Q } (L2.start Ng [.ref f]) H)
    (hdb : (x == ("__debug__" : Str)) = false := by decide) :
    PE X (.Call (.Name x p) [.Lambda params body scope lpos] [] pos) (fun σ H Q => Tabs T H ∧ ∀ H1, ExtN H H1 → Tabs T H1 → TT σ H1 Q) := by
  refine ⟨fun pins s σ H Q I h => ?_⟩
  obtain ⟨hT, h⟩ := h
  refine wpAny_Call_Name_kw (ld_glob I hg hm (PySem.W.callWith_K (h₀ := X.base) I.ok.mod.kin hk ?_ (by rfl) (by rfl)) hdb)
  show wpAny _ _ (spliced ((false, eval (.Lambda params body scope lpos) X.env) :: backTo pos (starEach [] X.env))) _ _ s
  refine spliced_cons (lam_make2 I TB hcode hmT hu hT hdef (L.has I.ok) fun f c' pm' ctv H1 s' I1 eN T1 hf hfn hfr hco => spliced_nil ⟨I1.kIn, ?_⟩)
  have M : LamH X pins σ H1 s' params body scope f c' := ⟨I1, L, ⟨pm', ctv, hf⟩, hfn, hfr, hco, hbind⟩
  refine wpAny_call (codeAny_mono (run_ofS (CX := L2.CX X.prog X.w) (E := E0) (Q := Q) (N := Ng) (ps := [a]) (us := [.ref f]) (vs := [.ref f]) lk hcg Sg hr I1.env0 (hb s' [.ref f] I1.kIn rfl) (.cons rfl .nil) rfl fun hr' => ?_) fun r s2 hq => ?_)
  · obtain ⟨t, h1, h2⟩ := hG pins σ H1 s' Q f c' M T1 hr' (h H1 eN T1)
    exact ⟨t, h1.nox, h2⟩
  · cases r with
    | error e =>
      obtain ⟨_, _, _, _, _, _, _, _, _, _, _, _, z⟩ := (show L2.CX X.prog X.w X.stack H1 s' E0 e s2 from hq)
      exact z.elim
    | ok fl =>
      cases fl with
      | ret u => exact I1.after hq
      | next => exact False.elim hq
      | brk => exact False.elim hq
      | cont => exact False.elim hq
end
end Sb
namespace Ev
open L2 PyProof.Rows PySem.Calls PySem.Spec PySem
abbrev D := PyData
/-- what a slot holds: nothing, a value that others may hold too, a list of its own -/
inductive Sl
  | no
  | sh (d : D)
  | ow (d : D)
def Sl.d : Sl → D
  | .no => .none
  | .sh d => d
  | .ow d => d
abbrev En := List Sl
structure Xn where
  cls : Str
  fld : Option (Str × D)
/-- built-in functions of values -/
inductive Bf
  | abs | len | all | any | int | str | min | list | tuple | sum | bool | max | gcd | sorted
  deriving DecidableEq
def Bf.name : Bf → Str
  | .abs => "abs" | .len => "len" | .all => "all" | .any => "any" | .int => "int" | .str => "str" | .min => "min" | .list => "list" | .tuple => "tuple"
  | .sum => "sum" | .bool => "bool" | .max => "max" | .gcd => "gcd" | .sorted => "sorted"
/-- the types that isinstance asks for -/
inductive Ty
  | str | int | bool | list | tuple | dict
  deriving DecidableEq
def Ty.name : Ty → Str
  | .str => "str" | .int => "int" | .bool => "bool" | .list => "list" | .tuple => "tuple" | .dict => "dict"
inductive Tg
  | nm (p : Pos) (i : Nat) (x : Str)
  | tup2 (k : Nat) (p : Pos) (a b : Tg)
mutual
inductive Ex
  | var (p : Pos) (i : Nat) (x : Str)
  | non (k : Nat) (p : Pos)
  | bl (b : Bool) (k : Nat) (p : Pos)
  | int (i : Int) (k : Nat) (p : Pos)
  | str (s : Str) (k : Nat) (p : Pos)
  | gc (p : Pos) (x : Str) (g : Nat)
  | bin (op : Operator) (p : Pos) (a b : Ex)
  | cmp (op : CmpOp) (p : Pos) (a b : Ex)
  | cmp2 (o1 o2 : CmpOp) (p : Pos) (a b c : Ex)
  | isN (neg : Bool) (p : Pos) (k : Nat) (q : Pos) (a : Ex)
  | emp (neg : Bool) (p px pl : Pos) (i : Nat) (x : Str)
  | and (p : Pos) (es : Exs)
  | or (p : Pos) (es : Exs)
  | not (p : Pos) (a : Ex)
  | ife (p : Pos) (c a b : Ex)
  | call (p pn : Pos) (x : Str) (f : Nat) (es : Exs)
  | callK (p pn : Pos) (x : Str) (f : Nat) (k : Str) (pk : Pos) (e : Ex)
  | bi (p pn : Pos) (b : Bf) (es : Exs)
  | isi (p pn : Pos) (a : Ex) (pt : Pos) (T : Ty)
  | isi2 (p pn : Pos) (a : Ex) (k : Nat) (pt p1 p2 : Pos) (T1 T2 : Ty)
  | sub (p : Pos) (a b : Ex)
  | slL (p q : Pos) (a lo : Ex)
  | slH (p q : Pos) (a hi : Ex)
  | slB (p q : Pos) (a lo hi : Ex)
  | tup (k : Nat) (p : Pos) (es : Exs)
  | lst (p : Pos) (es : Exs)
  | join (p pa : Pos) (a b : Ex)
  | pop (p pa px : Pos) (i : Nat) (x : Str)
  | reprEq (p p1 p2 q1 q2 : Pos) (a b : Ex)
  | bad (p : Pos) (f : Expr) (es : List Expr) (ks : List Keyword)
  | usub (p : Pos) (a : Ex)
  | subv (p px : Pos) (i : Nat) (x : Str) (e : Ex)
  | dk (p : Pos) (a : Ex) (kk : Nat) (pk : Pos) (key : Str)
  | dkEmp (neg : Bool) (p ps pl : Pos) (a : Ex) (kk : Nat) (pk : Pos) (key : Str)
  | dkPop0 (p pa ps : Pos) (a : Ex) (kk : Nat) (pk : Pos) (key : Str) (k0 : Nat) (p0 : Pos)
  | dNew (p : Pos) (k0 : Str × Nat × Pos) (px : Pos) (i : Nat) (x : Str) (ks : List (Str × Nat × Pos)) (es : Exs)
  | lNew (p : Pos)
  | cTup (p pn : Pos) (a : Ex)
  | word (p pn : Pos) (x : Str) (sc : Scope) (lp bp bpn : Pos) (bx : Str) (f : Nat) (es : Exs)
  | lc (p : Pos) (sc : Scope) (own : List (Str × Nat)) (tg : Tg) (it : It') (ifs : Exs) (elt : Ex)
inductive Exs
  | nil
  | cons (a : Ex) (b : Exs)
inductive It'
  | val (e : Ex)
  | rng (p pn : Pos) (e : Ex)
  | enumRev (p pn pm pr : Pos) (e : Ex)
end
inductive St'
  | asg (p px : Pos) (i : Nat) (x : Str) (e : Ex)
  | par (p p1 p2 pa pb : Pos) (k1 k2 : Nat) (i j : Nat) (x y : Str) (a b : Ex)
  | aug (p px : Pos) (i : Nat) (x : Str) (op : Operator) (e : Ex)
  | ret (p : Pos) (e : Ex)
  | retV (p px : Pos) (i : Nat) (x : Str)
  | exp (p : Pos) (e : Ex)
  | app (p pc pa px : Pos) (i : Nat) (x : Str) (e : Ex)
  | ext (p pc pa px : Pos) (i : Nat) (x : Str) (e : Ex)
  | raise (p pc pn : Pos) (c : Nat) (x : Str) (es : Exs)
  | ife (p : Pos) (c : Ex) (a b : List St')
  | whl (p : Pos) (c : Ex) (a : List St')
  | fr (p : Pos) (tg : Tg) (it : It') (a : List St')
  | dkSet (p ps : Pos) (a : Ex) (kk : Nat) (pk : Pos) (key : Str) (e : Ex)
  | cApp (p pc pa : Pos) (a e : Ex)
  | brk (p : Pos)
  | cont (p : Pos)
def noArgs : Arguments := { posonlyargs := [], args := [], vararg := none, kwonlyargs := [], kw_defaults := [], kwarg := none, defaults := [] }
def kEx (k : Str × Nat × Pos) : Option Expr := some (.Constant (.str k.1) k.2.1 k.2.2)
def unT : Tg → Expr
  | .nm p _ x => .Name x p
  | .tup2 k p a b => .Tuple [unT a, unT b] k p
mutual
def un : Ex → Expr
  | .var p _ x => .Name x p
  | .non k p => .Constant .none k p
  | .bl b k p => .Constant (.bool b) k p
  | .int i k p => .Constant (.int i) k p
  | .str s k p => .Constant (.str s) k p
  | .gc p x _ => .Name x p
  | .bin op p a b => .BinOp (un a) op (un b) p
  | .cmp op p a b => .Compare (un a) [op] [un b] p
  | .cmp2 o1 o2 p a b c => .Compare (un a) [o1, o2] [un b, un c] p
  | .isN neg p k q a => .Compare (un a) [if neg then .IsNot else .Is] [.Constant .none k q] p
  | .emp neg p px pl _ x => .Compare (.Name x px) [if neg then .NotEq else .Eq] [.List [] pl] p
  | .and p es => .BoolOp .And (uns es) p
  | .or p es => .BoolOp .Or (uns es) p
  | .not p a => .UnaryOp .Not (un a) p
  | .ife p c a b => .IfExp (un c) (un a) (un b) p
  | .call p pn x _ es => .Call (.Name x pn) (uns es) [] p
  | .callK p pn x _ k pk e => .Call (.Name x pn) [] [⟨some k, un e, pk⟩] p
  | .bi p pn b es => .Call (.Name b.name pn) (uns es) [] p
  | .isi p pn a pt T => .Call (.Name "isinstance" pn) [un a, .Name T.name pt] [] p
  | .isi2 p pn a k pt p1 p2 T1 T2 => .Call (.Name "isinstance" pn) [un a, .Tuple [.Name T1.name p1, .Name T2.name p2] k pt] [] p
  | .sub p a b => .Subscript (un a) (un b) p
  | .slL p q a lo => .Subscript (un a) (.Slice (some (un lo)) none none q) p
  | .slH p q a hi => .Subscript (un a) (.Slice none (some (un hi)) none q) p
  | .slB p q a lo hi => .Subscript (un a) (.Slice (some (un lo)) (some (un hi)) none q) p
  | .tup k p es => .Tuple (uns es) k p
  | .lst p es => .List (uns es) p
  | .join p pa a b => .Call (.Attribute (un a) "join" pa) [un b] [] p
  | .pop p pa px _ x => .Call (.Attribute (.Name x px) "pop" pa) [] [] p
  | .reprEq p p1 p2 q1 q2 a b => .Compare (.Call (.Name "repr" q1) [un a] [] p1) [.Eq] [.Call (.Name "repr" q2) [un b] [] p2] p
  | .bad p f es ks => .Call f es ks p
  | .usub p a => .UnaryOp .USub (un a) p
  | .subv p px _ x e => .Subscript (.Name x px) (un e) p
  | .dk p a kk pk key => .Subscript (un a) (.Constant (.str key) kk pk) p
  | .dkEmp neg p ps pl a kk pk key => .Compare (.Subscript (un a) (.Constant (.str key) kk pk) ps) [if neg then .NotEq else .Eq] [.List [] pl] p
  | .dkPop0 p pa ps a kk pk key k0 p0 => .Call (.Attribute (.Subscript (un a) (.Constant (.str key) kk pk) ps) "pop" pa) [.Constant (.int 0) k0 p0] [] p
  | .dNew p k0 px _ x ks es => .Dict (kEx k0 :: ks.map kEx) (.Name x px :: uns es) p
  | .lNew p => .List [] p
  | .word p pn x sc lp bp bpn bx _ es => .Call (.Name x pn) [.Lambda noArgs (.Call (.Name bx bpn) (uns es) [] bp) sc lp] [] p
  | .cTup p pn a => .Call (.Name "tuple" pn) [un a] [] p
  | .lc p sc _ tg it ifs elt => .ListComp (un elt) [⟨unT tg, unI it, uns ifs, 0⟩] sc p
def uns : Exs → List Expr
  | .nil => []
  | .cons a b => un a :: uns b
def unI : It' → Expr
  | .val e => un e
  | .rng p pn e => .Call (.Name "range" pn) [un e] [] p
  | .enumRev p pn pm pr e => .Call (.Name "enumerate" pn) [.Call (.Name "reversed" pr) [un e] [] pm] [] p
end
def Exs.len : Exs → Nat
  | .nil => 0
  | .cons _ b => b.len + 1
mutual
def unS : St' → Stmt
  | .asg p px _ x e => .Assign [.Name x px] (un e) p
  | .par p p1 p2 pa pb k1 k2 _ _ x y a b => .Assign [.Tuple [.Name x pa, .Name y pb] k1 p1] (.Tuple [un a, un b] k2 p2) p
  | .aug p px _ x op e => .AugAssign (.Name x px) op (un e) p
  | .ret p e => .Return (some (un e)) p
  | .retV p px _ x => .Return (some (.Name x px)) p
  | .exp p e => .Expr (un e) p
  | .app p pc pa px _ x e => .Expr (.Call (.Attribute (.Name x px) "append" pa) [un e] [] pc) p
  | .ext p pc pa px _ x e => .Expr (.Call (.Attribute (.Name x px) "extend" pa) [un e] [] pc) p
  | .raise p pc pn _ x es => .Raise (some (.Call (.Name x pn) (uns es) [] pc)) none p
  | .ife p c a b => .If (un c) (unSs a) (unSs b) p
  | .whl p c a => .While (un c) (unSs a) [] p
  | .fr p tg it a => .For (unT tg) (unI it) (unSs a) [] p
  | .dkSet p ps a kk pk key e => .Assign [.Subscript (un a) (.Constant (.str key) kk pk) ps] (un e) p
  | .cApp p pc pa a e => .Expr (.Call (.Attribute (un a) "append" pa) [un e] [] pc) p
  | .brk p => .Break p
  | .cont p => .Continue p
def unSs : List St' → List Stmt
  | [] => []
  | a :: b => unS a :: unSs b
end
end Ev
namespace Ev
open L2 PyProof.Rows PySem.Calls PySem.Spec PySem
/-- a reference that is only handed on -/
def RF (a : Addr) : D := .dict [(.list [.int (a : Nat)], .none)]
/-- a list that nobody may change -/
def FZ (ds : List D) : D := .dict [(.none, .list ds)]
def got {α : Type} (o : Option α) (k : α → Prop) : Prop := ∃ a, o = some a ∧ k a
theorem got_some {α : Type} {a : α} {k : α → Prop} : got (some a) k ↔ k a := ⟨fun ⟨b, e, q⟩ => by cases e; exact q, fun q => ⟨a, rfl, q⟩⟩
/-- what repr shows in room -/
def shows (d : D) : Bool := d.showable && !d.hasDict && decide (d.depth ≤ 64) && decide (d.shown.length ≤ sizeLine)
def toB : D → Option Bool
  | .bool b => some b
  | _ => none
def toI : D → Option Int
  | .int b => some b
  | _ => none
def toBs : List D → Option (List Bool)
  | [] => some []
  | .bool b :: r => (toBs r).map (b :: ·)
  | _ :: _ => none
def toIs : List D → Option (List Int)
  | [] => some []
  | .int b :: r => (toIs r).map (b :: ·)
  | _ :: _ => none
def toSs : List D → Option (List Str)
  | [] => some []
  | .str b :: r => (toSs r).map (b :: ·)
  | _ :: _ => none
instance (i j : Int) : Decidable (CMul i j) := inferInstanceAs (Decidable (_ ∨ _))
instance (i j : Int) : Decidable (CDiv i j) := inferInstanceAs (Decidable (_ ∧ _))
instance (i j : Int) : Decidable (CPow i j) := inferInstanceAs (Decidable (_ ∧ _))
def repS (n : Nat) (x : Str) : Str := ⟨(List.replicate n x.cps).foldl (· ++ ·) #[]⟩
def binD : Operator → D → D → Option D
  | .Add, .int i, .int j => some (.int (i + j))
  | .Add, .str x, .str y => if x.length + y.length ≤ sizeLine then some (.str (x ++ y)) else none
  | .Add, .list x, .list y => if x.length + y.length ≤ sizeLine then some (.list (x ++ y)) else none
  | .Add, .tuple x, .tuple y => if x.length + y.length ≤ sizeLine then some (.tuple (x ++ y)) else none
  | .Sub, .int i, .int j => some (.int (i - j))
  | .Mult, .int i, .int j => if CMul i j then some (.int (i * j)) else none
  | .Mult, .str x, .int j => if 2 ≤ j ∧ j ≤ 1000 ∧ 1 ≤ x.length ∧ x.length ≤ 1000 ∧ (repS j.toNat x).length ≤ sizeLine then some (.str (repS j.toNat x)) else none
  | .FloorDiv, .int i, .int j => if CDiv i j then some (.int (i / j)) else none
  | .Mod, .int i, .int j => if 0 < j then some (.int (i % j)) else none
  | .Pow, .int i, .int j => if CPow i j then some (.int (i ^ j.toNat)) else none
  | _, _, _ => none
def eqD (x y : D) : Option Bool := if SeqAt.shaped x = true ∧ SeqAt.shaped y = true then some (PyData.eqv x y) else none
def inD : D → D → Option Bool
  | .str ⟨⟨[c]⟩⟩, .str z => some (decide (c ∈ z.cps.toList))
  | x, .list ds => if SeqAt.shaped x = true ∧ SeqAt.shaped (.list ds) = true then some (ds.any fun z => PyData.eqv z x) else none
  | _, _ => none
def cmpD : CmpOp → D → D → Option D
  | .Eq, x, y => (eqD x y).map .bool
  | .NotEq, x, y => (eqD x y).map fun b => .bool (!b)
  | .Lt, .int i, .int j => some (.bool (decide (i < j)))
  | .LtE, .int i, .int j => some (.bool (decide (i ≤ j)))
  | .Gt, .int i, .int j => some (.bool (decide (j < i)))
  | .GtE, .int i, .int j => some (.bool (decide (j ≤ i)))
  | .In, x, y => (inD x y).map .bool
  | .NotIn, x, y => (inD x y).map fun b => .bool (!b)
  | _, _, _ => none
def isD : Ty → D → Option Bool
  | _, .dict _ => none
  | .str, .str _ => some true
  | .int, .int _ => some true
  | .int, .bool _ => some true
  | .bool, .bool _ => some true
  | .list, .list _ => some true
  | .tuple, .tuple _ => some true
  | _, _ => some false
def noneD : D → Option Bool
  | .none => some true
  | .dict _ => none
  | _ => some false
def lenD : D → Option Nat
  | .list xs => some xs.length
  | .tuple xs => some xs.length
  | .str z => if z.length ≤ sizeLine then some z.length else none
  | .dict [(.none, .list xs)] => some xs.length
  | _ => none
/-- the answer, and whether it is a new list -/
def bifD : Bf → List D → Option (Bool × D)
  | .abs, [.int i] => some (false, .int (if i < 0 then -i else i))
  | .len, [x] => (lenD x).map fun (n : Nat) => (false, PyData.int (Int.ofNat n))
  | .all, [.list bs] => (toBs bs).map fun bs => (false, .bool (bs.all id))
  | .any, [.list bs] => (toBs bs).map fun bs => (false, .bool (bs.any id))
  | .int, [.int i] => some (false, .int i)
  | .int, [.bool k] => some (false, .int (if k then 1 else 0))
  | .int, [.str a] => if a.length ≤ 640 then (PySem.intText? a).map fun n => (false, .int n) else none
  | .str, [.int i] => if i.natAbs.log2 < 1920 then some (false, .str (toString i)) else none
  | .str, [.str a] => some (false, .str a)
  | .min, [.int i, .int j] => some (false, .int (if j < i then j else i))
  | .max, [.int i, .int j] => some (false, .int (if j > i then j else i))
  | .list, [.list xs] => some (true, .list xs)
  | .list, [.tuple xs] => some (true, .list xs)
  | .tuple, [.list xs] => some (false, .tuple xs)
  | .tuple, [.tuple xs] => some (false, .tuple xs)
  | .sum, [.list xs] => (toIs xs).map fun ns => (false, .int ns.sum)
  | .bool, [.int i] => some (false, .bool (i != 0))
  | .bool, [.bool k] => some (false, .bool k)
  | _, _ => none
def cutD {α : Type} (xs : List α) (lo hi : Option Int) : List α := (xs.drop (HT.sIx xs.length 0 lo)).take (HT.sIx xs.length xs.length hi - HT.sIx xs.length 0 lo)
def slD : D → Option Int → Option Int → Option D
  | .list xs, lo, hi => some (.list (cutD xs lo hi))
  | .tuple xs, lo, hi => some (.tuple (cutD xs lo hi))
  | .str z, lo, hi => if z.length ≤ sizeLine then some (.str (cutS z lo hi)) else none
  | _, _, _ => none
def subD : D → D → Option D
  | .list xs, .int i => atI xs i
  | .tuple xs, .int i => atI xs i
  | .str z, .int i => if z.length ≤ sizeLine then (atI z.cps.toList i).map fun c => .str ⟨#[c]⟩ else none
  | _, _ => none
def joinD : D → D → Option D
  | .str a, .list xs => (toSs xs).bind fun ys => if (ys.map (·.length)).sum + ys.length * a.length ≤ 16777216 then some (.str (Txt.join a ys)) else none
  | _, _ => none
/-- the items that a walk gives -/
def itemsD : D → Option (List D)
  | .list xs => some xs
  | .tuple xs => some xs
  | .str z => some (z.cps.toList.map fun c => .str ⟨#[c]⟩)
  | .dict [(.none, .list xs)] => some xs
  | _ => none
def enumD : Nat → List D → List D
  | _, [] => []
  | n, d :: ds => .tuple [.int (n : Nat), d] :: enumD (n + 1) ds
/-- the word of a refusal -/
def wF : List (Str × Str × Str) := [("Used", "used", "name"), ("TooMany", "many", "most"), ("NoText", "text", "line"), ("Full", "full", "region")]
def wP : List (Str × Str) := [("NoName", "name"), ("Twice", "twice"), ("NoSet", "set"), ("NoDeed", "deed"), ("NoAmount", "amount"), ("NoNumber", "number"), ("NoPast", "past"), ("NoRegion", "region"), ("NoLaw", "law"), ("NoRule", "rule"), ("NoBook", "book"), ("NoState", "state")]
def wordD (x : Xn) : Option D := match wF.lookup x.cls with
  | some w => match x.fld with
    | some (f, v) => if f = w.2 then some (.tuple [.str w.1, v]) else none
    | none => none
  | none => (wP.lookup x.cls).map .str
/-- what a field holds: a value that others may hold, too, or a list of its own, at a place -/
inductive Fv
  | sh (d : D)
  | ow (g : Addr) (d : D)
/-- things that are changed in place wherever they are held: lists, dicts with written keys -/
inductive Cell
  | lst (ds : List D)
  | dct (fs : List (Str × Fv))
def Cell.fs : Cell → List (Str × Fv)
  | .lst _ => []
  | .dct fs => fs
abbrev Om := Addr → Option Cell
def updO (ω : Om) (a : Addr) (c : Cell) : Om := fun b => if b = a then some c else ω b
def RFo (x : D) (k : Addr → Prop) : Prop := ∃ a, x = RF a ∧ k a
/-- the cell that a value stands for -/
def lstC (ω : Om) (x : D) (k : Addr → List D → Prop) : Prop := ∃ a ds, x = RF a ∧ ω a = some (.lst ds) ∧ k a ds
def dctC (ω : Om) (x : D) (k : Addr → List (Str × Fv) → Prop) : Prop := ∃ a fs, x = RF a ∧ ω a = some (.dct fs) ∧ k a fs
def setA (fs : List (Str × Fv)) (key : Str) (v : Fv) : List (Str × Fv) := fs.map fun kv => if kv.1 = key then (kv.1, v) else kv
def setF : List (Str × Fv) → Str → Fv → List (Str × Fv)
  | [], _, _ => []
  | (k, f) :: r, key, v => if key = k then (k, v) :: r else (k, f) :: setF r key v
def shF : List (Str × Nat × Pos) → List D → List (Str × Fv)
  | k :: ks, d :: ds => (k.1, .sh d) :: shF ks ds
  | _, _ => []
/-- the level below: the module's constants, the defs by number; what lies about -/
structure Lv where
  K : PySem.W.Frag
  gv : Nat → Option D
  ca : Str → Option Addr
  tb : List (Addr × Str)
  cl : Nat → List D → Om → (Sl → Om → Prop) → (Xn → Om → Prop) → Prop
  cm : ∀ {f : Nat} {ds : List D} {ω : Om} {Q Q' : Sl → Om → Prop} {E E' : Xn → Om → Prop}, (∀ x ω, Q x ω → Q' x ω) → (∀ x ω, E x ω → E' x ω) → cl f ds ω Q E → cl f ds ω Q' E'
abbrev KQ := Sl → En → Om → Prop
abbrev KX := Xn → Om → Prop
/-- what is wanted behind a statement -/
structure Fl where
  nx : En → Om → Prop
  rt : Sl → Om → Prop
  bk : En → Om → Prop
  ct : En → Om → Prop
  ex : KX
section
variable (L : Lv)
def look (ρ : En) (i : Nat) (k : Sl → Prop) : Prop := ∃ x, ρ[i]? = some x ∧ k x
/-- a slot read: who reads it shares it -/
def rdV (ρ : En) (i : Nat) (k : D → En → Prop) : Prop := match ρ[i]? with
  | some (.sh d) => k d ρ
  | some (.ow d) => k d (ρ.set i (.sh d))
  | _ => False
/-- a slot looked at -/
def pkV (ρ : En) (i : Nat) (k : D → Prop) : Prop := match ρ[i]? with
  | some (.sh d) => k d
  | some (.ow d) => k d
  | _ => False
/-- a list of one's own, changed -/
def upV (ρ : En) (i : Nat) (k : List D → (List D → En) → Prop) : Prop := match ρ[i]? with
  | some (.ow (.list xs)) => k xs fun ys => ρ.set i (.ow (.list ys))
  | _ => False
def bindT : Tg → D → En → (En → Prop) → Prop
  | .nm _ i _, d, ρ, k => k (ρ.set i (.sh d))
  | .tup2 _ _ a b, d, ρ, k => ∃ x y, d = .tuple [x, y] ∧ bindT a x ρ fun ρ' => bindT b y ρ' k
def lcGo (bd : D → En → Om → (Option D → En → Om → Prop) → Prop) : List D → List D → En → Om → (List D → En → Om → Prop) → Prop
  | [], acc, ρ, ω, Q => Q acc ρ ω
  | d :: ds, acc, ρ, ω, Q => bd d ρ ω fun o ρ ω => match o with
    | some x => acc.length < sizeLine ∧ lcGo bd ds (acc ++ [x]) ρ ω Q
    | none => lcGo bd ds acc ρ ω Q
def wipeE (ρ : En) : List Nat → En
  | [] => ρ
  | v :: vs => (wipeE ρ vs).set v .no
def forGo (bd : D → En → Om → Fl → Prop) : List D → En → Om → Fl → Prop
  | [], ρ, ω, F => F.nx ρ ω
  | d :: ds, ρ, ω, F => bd d ρ ω { F with nx := fun ρ ω => forGo bd ds ρ ω F, ct := fun ρ ω => forGo bd ds ρ ω F, bk := F.nx }
def whGo (tst : En → Om → (Bool → En → Om → Prop) → KX → Prop) (bd : En → Om → Fl → Prop) : Nat → En → Om → Fl → Prop
  | 0, _, _, _ => False
  | n + 1, ρ, ω, F => tst ρ ω (fun b ρ ω => if b = true then bd ρ ω { F with nx := fun ρ ω => whGo tst bd n ρ ω F, ct := fun ρ ω => whGo tst bd n ρ ω F, bk := F.nx } else F.nx ρ ω) F.ex
mutual
def ev : Ex → En → Om → KQ → KX → Prop
  | .var _ i _, ρ, ω, Q, _ => rdV ρ i fun d ρ' => Q (.sh d) ρ' ω
  | .non _ _, ρ, ω, Q, _ => Q (.sh .none) ρ ω
  | .bl b _ _, ρ, ω, Q, _ => Q (.sh (.bool b)) ρ ω
  | .int i _ _, ρ, ω, Q, _ => Q (.sh (.int i)) ρ ω
  | .str s _ _, ρ, ω, Q, _ => Q (.sh (.str s)) ρ ω
  | .gc _ _ g, ρ, ω, Q, _ => got (L.gv g) fun d => Q (.sh d) ρ ω
  | .bin op _ a b, ρ, ω, Q, E => ev a ρ ω (fun x ρ ω => ev b ρ ω (fun y ρ ω => got (binD op x.d y.d) fun d => Q (.sh d) ρ ω) E) E
  | .cmp op _ a b, ρ, ω, Q, E => ev a ρ ω (fun x ρ ω => ev b ρ ω (fun y ρ ω => got (cmpD op x.d y.d) fun d => Q (.sh d) ρ ω) E) E
  | .cmp2 o1 o2 _ a b c, ρ, ω, Q, E => ev a ρ ω (fun x ρ ω => ev b ρ ω (fun y ρ ω => got ((cmpD o1 x.d y.d).bind toB) fun k =>
      if k = true then ev c ρ ω (fun z ρ ω => got (cmpD o2 y.d z.d) fun d => Q (.sh d) ρ ω) E else Q (.sh (.bool false)) ρ ω) E) E
  | .isN neg _ _ _ a, ρ, ω, Q, E => ev a ρ ω (fun x ρ ω => got (noneD x.d) fun b => Q (.sh (.bool (b != neg))) ρ ω) E
  | .emp neg _ _ _ i _, ρ, ω, Q, _ => pkV ρ i fun d => ∃ xs, d = .list xs ∧ Q (.sh (.bool (xs.isEmpty != neg))) ρ ω
  | .and _ es, ρ, ω, Q, E => evAnd es ρ ω Q E
  | .or _ es, ρ, ω, Q, E => evOr es ρ ω Q E
  | .not _ a, ρ, ω, Q, E => ev a ρ ω (fun x ρ ω => got (toB x.d) fun b => Q (.sh (.bool (!b))) ρ ω) E
  | .ife _ c a b, ρ, ω, Q, E => ev c ρ ω (fun x ρ ω => got (toB x.d) fun k => if k = true then ev a ρ ω Q E else ev b ρ ω Q E) E
  | .call _ _ _ f es, ρ, ω, Q, E => evs es ρ ω (fun ds ρ ω => L.cl f ds ω (fun x ω => Q x ρ ω) E) E
  | .callK _ _ _ f _ _ e, ρ, ω, Q, E => ev e ρ ω (fun x ρ ω => L.cl f [x.d] ω (fun x ω => Q x ρ ω) E) E
  | .bi _ _ b es, ρ, ω, Q, E => evs es ρ ω (fun ds ρ ω => got (bifD b ds) fun r => Q (if r.1 = true then .ow r.2 else .sh r.2) ρ ω) E
  | .isi _ _ a _ T, ρ, ω, Q, E => ev a ρ ω (fun x ρ ω => got (isD T x.d) fun b => Q (.sh (.bool b)) ρ ω) E
  | .isi2 _ _ a _ _ _ _ T1 T2, ρ, ω, Q, E => ev a ρ ω (fun x ρ ω => got (isD T1 x.d) fun b => got (isD T2 x.d) fun c => Q (.sh (.bool (b || c))) ρ ω) E
  | .sub _ a b, ρ, ω, Q, E => ev a ρ ω (fun x ρ ω => ev b ρ ω (fun y ρ ω => got (subD x.d y.d) fun d => Q (.sh d) ρ ω) E) E
  | .slL _ _ a lo, ρ, ω, Q, E => ev a ρ ω (fun x ρ ω => ev lo ρ ω (fun y ρ ω => got (toI y.d) fun i => got (slD x.d (some i) none) fun d => Q (.sh d) ρ ω) E) E
  | .slH _ _ a hi, ρ, ω, Q, E => ev a ρ ω (fun x ρ ω => ev hi ρ ω (fun y ρ ω => got (toI y.d) fun i => got (slD x.d none (some i)) fun d => Q (.sh d) ρ ω) E) E
  | .slB _ _ a lo hi, ρ, ω, Q, E => ev a ρ ω (fun x ρ ω => ev lo ρ ω (fun y ρ ω => got (toI y.d) fun i => ev hi ρ ω (fun z ρ ω => got (toI z.d) fun j =>
      got (slD x.d (some i) (some j)) fun d => Q (.sh d) ρ ω) E) E) E
  | .tup _ _ es, ρ, ω, Q, E => evs es ρ ω (fun ds ρ ω => ds.length ≤ sizeLine ∧ Q (.sh (.tuple ds)) ρ ω) E
  | .lst _ es, ρ, ω, Q, E => evs es ρ ω (fun ds ρ ω => ds.length ≤ sizeLine ∧ Q (.ow (.list ds)) ρ ω) E
  | .join _ _ a b, ρ, ω, Q, E => ev a ρ ω (fun x ρ ω => ev b ρ ω (fun y ρ ω => got (joinD x.d y.d) fun d => Q (.sh d) ρ ω) E) E
  | .pop _ _ _ i _, ρ, ω, Q, _ => upV ρ i fun xs k => got xs.getLast? fun d => Q (.sh d) (k xs.dropLast) ω
  | .reprEq _ _ _ _ _ a b, ρ, ω, Q, E => ev a ρ ω (fun x ρ ω => shows x.d = true ∧ ev b ρ ω (fun y ρ ω => x.d = y.d ∧ Q (.sh (.bool true)) ρ ω) E) E
  | .bad _ _ _ _, _, _, _, _ => False
  | .usub _ a, ρ, ω, Q, E => ev a ρ ω (fun x ρ ω => got (toI x.d) fun i => Q (.sh (.int (-i))) ρ ω) E
  | .subv _ _ i _ e, ρ, ω, Q, E => (pkV ρ i fun _ => True) ∧ ev e ρ ω (fun y ρ ω => pkV ρ i fun d => ∃ ds, d = .list ds ∧ got (toI y.d) fun j => got (atI ds j) fun z => Q (.sh z) ρ ω) E
  | .dk _ a _ _ key, ρ, ω, Q, E => ev a ρ ω (fun x ρ ω => dctC ω x.d fun _ fs => ∃ d, fs.lookup key = some (.sh d) ∧ Q (.sh d) ρ ω) E
  | .dkEmp neg _ _ _ a _ _ key, ρ, ω, Q, E => ev a ρ ω (fun x ρ ω => dctC ω x.d fun _ fs => ∃ g ds, fs.lookup key = some (.ow g (.list ds)) ∧ Q (.sh (.bool (ds.isEmpty != neg))) ρ ω) E
  | .dkPop0 _ _ _ a _ _ key _ _, ρ, ω, Q, E => ev a ρ ω (fun x ρ ω => dctC ω x.d fun b fs => ∃ g d ds, fs.lookup key = some (.ow g (.list (d :: ds))) ∧ Q (.sh d) ρ (updO ω b (.dct (setF fs key (.ow g (.list ds)))))) E
  | .dNew _ k0 _ i _ ks es, ρ, ω, Q, E => (∃ d, ρ[i]? = some (.ow d)) ∧ evs es ρ ω (fun ds ρ ω => ∃ d, ρ[i]? = some (.ow d) ∧ ∀ a g, ω a = none → Q (.sh (RF a)) (ρ.set i .no) (updO ω a (.dct ((k0.1, .ow g d) :: shF ks ds)))) E
  | .lNew _, ρ, ω, Q, _ => ∀ a, ω a = none → Q (.sh (RF a)) ρ (updO ω a (.lst []))
  | .word _ _ _ _ _ _ _ _ f es, ρ, ω, Q, _ => evs es ρ ω (fun ds ρ ω => L.cl f ds ω (fun x ω => Q (.sh x.d) ρ ω) (fun x ω => got (wordD x) fun d => Q (.sh d) ρ ω)) fun _ _ => False
  | .cTup _ _ a, ρ, ω, Q, E => ev a ρ ω (fun x ρ ω => lstC ω x.d fun _ ds => Q (.sh (.tuple ds)) ρ ω) E
  | .lc _ _ own tg it ifs elt, ρ, ω, Q, E => evI it ρ ω (fun ds ρ0 ω =>
      lcGo (fun d ρ ω k => bindT tg d (wipeE ρ (own.map (·.2))) fun ρ => evIf ifs ρ ω (fun b ρ ω => if b = true then ev elt ρ ω (fun x ρ ω => k (some x.d) ρ ω) (fun _ _ => False) else k none ρ ω)) ds [] ρ0 ω
        fun acc ρ ω => Q (.ow (.list acc)) (wipeE ρ (own.map (·.2))) ω) E
def evs : Exs → En → Om → (List D → En → Om → Prop) → KX → Prop
  | .nil, ρ, ω, Q, _ => Q [] ρ ω
  | .cons a b, ρ, ω, Q, E => ev a ρ ω (fun x ρ ω => evs b ρ ω (fun ds ρ ω => Q (x.d :: ds) ρ ω) E) E
def evAnd : Exs → En → Om → KQ → KX → Prop
  | .nil, _, _, _, _ => False
  | .cons a .nil, ρ, ω, Q, E => ev a ρ ω (fun x ρ ω => got (toB x.d) fun k => Q (.sh (.bool k)) ρ ω) E
  | .cons a (.cons b c), ρ, ω, Q, E => ev a ρ ω (fun x ρ ω => got (toB x.d) fun k => if k = true then evAnd (.cons b c) ρ ω Q E else Q (.sh (.bool false)) ρ ω) E
def evOr : Exs → En → Om → KQ → KX → Prop
  | .nil, _, _, _, _ => False
  | .cons a .nil, ρ, ω, Q, E => ev a ρ ω (fun x ρ ω => got (toB x.d) fun k => Q (.sh (.bool k)) ρ ω) E
  | .cons a (.cons b c), ρ, ω, Q, E => ev a ρ ω (fun x ρ ω => got (toB x.d) fun k => if k = true then Q (.sh (.bool true)) ρ ω else evOr (.cons b c) ρ ω Q E) E
/-- a clause's tests: none or one -/
def evIf : Exs → En → Om → (Bool → En → Om → Prop) → Prop
  | .nil, ρ, ω, Q => Q true ρ ω
  | .cons a .nil, ρ, ω, Q => ev a ρ ω (fun x ρ ω => got (toB x.d) fun k => Q k ρ ω) fun _ _ => False
  | _, _, _, _ => False
def evI : It' → En → Om → (List D → En → Om → Prop) → KX → Prop
  | .val e, ρ, ω, Q, E => ev e ρ ω (fun x ρ ω => got (itemsD x.d) fun ds => Q ds ρ ω) E
  | .rng _ _ e, ρ, ω, Q, E => ev e ρ ω (fun x ρ ω => got (toI x.d) fun j => (-(2 ^ 62) ≤ j ∧ j < 2 ^ 62) ∧ Q ((List.range j.toNat).map fun i => .int (i : Nat)) ρ ω) E
  | .enumRev _ _ _ _ e, ρ, ω, Q, E => ev e ρ ω (fun x ρ ω => ∃ ds, x.d = .tuple ds ∧ Q (enumD 0 ds.reverse) ρ ω) E
end
mutual
def ex : St' → En → Om → Fl → Prop
  | .asg _ _ i _ e, ρ, ω, F => ev L e ρ ω (fun x ρ ω => F.nx (ρ.set i x) ω) F.ex
  | .par _ _ _ _ _ _ _ i j _ _ a b, ρ, ω, F => ev L a ρ ω (fun x ρ ω => ev L b ρ ω (fun y ρ ω => F.nx ((ρ.set i x).set j y) ω) F.ex) F.ex
  | .aug _ _ i _ op e, ρ, ω, F => look ρ i fun z => ∃ n m, z = .sh (.int n) ∧ ev L e ρ ω (fun y ρ ω => op = .Add ∧ y.d = .int m ∧ F.nx (ρ.set i (.sh (.int (n + m)))) ω) F.ex
  | .ret _ e, ρ, ω, F => ev L e ρ ω (fun x _ ω => F.rt x ω) F.ex
  | .retV _ _ i _, ρ, ω, F => look ρ i fun x => match x with
    | .no => False
    | x => F.rt x ω
  | .exp _ e, ρ, ω, F => ev L e ρ ω (fun _ ρ ω => F.nx ρ ω) F.ex
  | .app _ _ _ _ i _ e, ρ, ω, F => (∃ xs, ρ[i]? = some (.ow (.list xs))) ∧ ev L e ρ ω (fun x ρ ω => upV ρ i fun xs k => xs.length < sizeLine ∧ F.nx (k (xs ++ [x.d])) ω) F.ex
  | .ext _ _ _ _ i _ e, ρ, ω, F => (∃ xs, ρ[i]? = some (.ow (.list xs))) ∧ ev L e ρ ω (fun x ρ ω => upV ρ i fun xs k => ∃ ds, (x.d = .list ds ∨ x.d = .tuple ds) ∧ xs.length + ds.length ≤ sizeLine ∧ F.nx (k (xs ++ ds)) ω) F.ex
  | .raise _ _ _ c _ es, ρ, ω, F => evs L es ρ ω (fun ds ρ ω => L.cl c ds ω (fun _ _ => False) F.ex) F.ex
  | .ife _ c a b, ρ, ω, F => ev L c ρ ω (fun x ρ ω => got (toB x.d) fun k => if k = true then exs a ρ ω F else exs b ρ ω F) F.ex
  | .whl _ c a, ρ, ω, F => ∃ n, whGo (fun ρ ω Q E => ev L c ρ ω (fun x ρ ω => got (toB x.d) fun k => Q k ρ ω) E) (fun ρ ω F => exs a ρ ω F) n ρ ω F
  | .fr _ tg it a, ρ, ω, F => evI L it ρ ω (fun ds ρ ω => forGo (fun d ρ ω F => bindT tg d ρ fun ρ => exs a ρ ω F) ds ρ ω F) F.ex
  | .dkSet _ _ a _ _ key e, ρ, ω, F => ev L e ρ ω (fun y ρ ω => ev L a ρ ω (fun x ρ ω => dctC ω x.d fun b fs => ((∃ d, fs.lookup key = some (.sh d)) ∧ fs.length ≤ 1000) ∧ F.nx ρ (updO ω b (.dct (setA fs key (.sh y.d))))) F.ex) F.ex
  | .cApp _ _ _ a e, ρ, ω, F => ev L a ρ ω (fun x ρ ω => (∃ b ds, x.d = RF b ∧ ω b = some (.lst ds)) ∧ ev L e ρ ω (fun y ρ ω => lstC ω x.d fun b ds => ds.length < sizeLine ∧ F.nx ρ (updO ω b (.lst (ds ++ [y.d])))) F.ex) F.ex
  | .brk _, ρ, ω, F => F.bk ρ ω
  | .cont _, ρ, ω, F => F.ct ρ ω
def exs : List St' → En → Om → Fl → Prop
  | [], ρ, ω, F => F.nx ρ ω
  | a :: b, ρ, ω, F => ex a ρ ω { F with nx := fun ρ ω => exs b ρ ω F }
end
end
end Ev
namespace Ev
open L2 PyProof.Rows PySem.Calls PySem.Spec PySem
abbrev Sg := L2.St
/-- a tuple of the written part -/
def Wr (K : PySem.W.Frag) (a : Addr) (xs : List V) : Prop :=
  ∃ (o : Obj) (its : Array Value) (n : Nat), K.lookup a = some o ∧ o.cls = .type "tuple" ∧ o.data = .seq its n ∧ its.size ≤ sizeLine ∧ Vals xs its.toList
mutual
/-- the value v is the data d; nothing in it lies at a place in M -/
inductive Rp (K : PySem.W.Frag) (H : Hp) (M : Addr → Prop) : V → D → Prop
  | non : Rp K H M .non .none
  | bl (b : Bool) : Rp K H M (.bl b) (.bool b)
  | int (i : Int) : Rp K H M (.int i) (.int i)
  | str (x : Str) : Rp K H M (.str x) (.str x)
  | lst {a : Addr} {xs : List V} {ds : List D} : H a = some (.lst xs) → ¬ M a → RpA K H M xs ds → Rp K H M (.ref a) (.list ds)
  | tup {a : Addr} {xs : List V} {ds : List D} : H a = some (.tup xs) → ¬ M a → RpA K H M xs ds → Rp K H M (.ref a) (.tuple ds)
  | tupK {a : Addr} {xs : List V} {ds : List D} : Wr K a xs → RpA K H M xs ds → Rp K H M (.ref a) (.tuple ds)
  | rf {a : Addr} : Rp K H M (.ref a) (RF a)
  | fz {a : Addr} {xs : List V} {ds : List D} : (∃ o, H a = some (.frz o (.lst xs))) → ¬ M a → RpA K H M xs ds → Rp K H M (.ref a) (FZ ds)
inductive RpA (K : PySem.W.Frag) (H : Hp) (M : Addr → Prop) : List V → List D → Prop
  | nil : RpA K H M [] []
  | cons {v : V} {vs : List V} {d : D} {ds : List D} : Rp K H M v d → RpA K H M vs ds → RpA K H M (v :: vs) (d :: ds)
end
def NT (o : HO) : Prop := ∀ ps, o ≠ .tbl ps
/-- all but tables stays -/
def Exd (M : Addr → Prop) (H : Hp) (M' : Addr → Prop) (H' : Hp) : Prop := ∀ a o, H a = some o → ¬ M a → NT o → H' a = some o ∧ ¬ M' a
/-- all stays -/
def Exf (M : Addr → Prop) (H : Hp) (M' : Addr → Prop) (H' : Hp) : Prop := ∀ a o, H a = some o → ¬ M a → H' a = some o ∧ ¬ M' a
theorem Exf.w {M : Addr → Prop} {H : Hp} {M' : Addr → Prop} {H' : Hp} (e : Exf M H M' H') : Exd M H M' H' := fun a o h m _ => e a o h m
instance {M : Addr → Prop} {H : Hp} {M' : Addr → Prop} {H' : Hp} : CoeOut (Exf M H M' H') (Exd M H M' H') := ⟨Exf.w⟩
theorem nt_lst {xs : List V} : NT (.lst xs) := fun _ h => nomatch h
theorem nt_tup {xs : List V} : NT (.tup xs) := fun _ h => nomatch h
theorem nt_dK {xs : List (Key × V)} : NT (.dK xs) := fun _ h => nomatch h
/-- what may stand at a place that is one's own -/
def Mk : HO → Prop
  | .lst _ => True
  | .dK _ => True
  | .dT _ => True
  | .ins _ _ _ => True
  | .own _ => True
  | _ => False
theorem Mk.nt {o : HO} (k : Mk o) : NT o := fun _ h => by subst h; exact k
theorem Mk.ne {o : HO} (k : Mk o) : ∀ φ, o ≠ .ext φ := fun _ h => by subst h; exact k
theorem Mk.ntup {o : HO} (k : Mk o) : ∀ xs, o ≠ .tup xs := fun _ h => by subst h; exact k
theorem mk_lst {xs : List V} : Mk (.lst xs) := trivial
theorem mk_dK {xs : List (Key × V)} : Mk (.dK xs) := trivial
/-- tables of code objects stay -/
theorem tabs_exf {T : List (Addr × Str)} {M : Addr → Prop} {H : Hp} {M' : Addr → Prop} {H' : Hp} (t : LamX.Tabs T H) (mt : ∀ a, M a → ∃ o, H a = some o ∧ Mk o) (e : Exf M H M' H') : LamX.Tabs T H' := by
  intro p hp
  obtain ⟨ps, h1, h2, h3⟩ := t p hp
  refine ⟨ps, (e _ _ h1 fun m => ?_).1, h2, fun pos cv h => ?_⟩
  · obtain ⟨o, q, k⟩ := mt _ m
    rw [h1] at q
    cases q
    exact k.nt _ rfl
  · obtain ⟨c, e1, e2⟩ := h3 pos cv h
    refine ⟨c, e1, (e _ _ e2 fun m => ?_).1⟩
    obtain ⟨o, q, k⟩ := mt _ m
    rw [e2] at q
    cases q
    exact k.ne _ rfl
/-- nothing but a table may stand there -/
def NwP (H : Hp) (a : Addr) : Prop := ∀ o, H a = some o → ¬ NT o
theorem nwp {H : Hp} {a : Addr} (n : H a = none) : NwP H a := fun o h => by rw [n] at h; cases h
section
variable {K : PySem.W.Frag} {H H' : Hp} {M M' : Addr → Prop}
mutual
theorem Rp.exd (e : Exd M H M' H') : ∀ {v : V} {d : D}, Rp K H M v d → Rp K H' M' v d
  | _, _, .non => .non
  | _, _, .bl b => .bl b
  | _, _, .int i => .int i
  | _, _, .str x => .str x
  | _, _, .lst h n r => .lst (e _ _ h n nt_lst).1 (e _ _ h n nt_lst).2 (RpA.exd e r)
  | _, _, .tup h n r => .tup (e _ _ h n nt_tup).1 (e _ _ h n nt_tup).2 (RpA.exd e r)
  | _, _, .tupK h r => .tupK h (RpA.exd e r)
  | _, _, .rf => .rf
  | _, _, .fz ⟨o, h⟩ n r => .fz ⟨o, (e _ _ h n (fun _ z => by cases z)).1⟩ (e _ _ h n (fun _ z => by cases z)).2 (RpA.exd e r)
theorem RpA.exd (e : Exd M H M' H') : ∀ {vs : List V} {ds : List D}, RpA K H M vs ds → RpA K H' M' vs ds
  | _, _, .nil => .nil
  | _, _, .cons r t => .cons (Rp.exd e r) (RpA.exd e t)
end
theorem Rp.sqt {v : V} {ds : List D} (r : Rp K H M v (.tuple ds)) : ∃ a xs, v = .ref a ∧ SqT K H a xs ∧ RpA K H M xs ds := by
  cases r with
  | tup h n t => exact ⟨_, _, rfl, .inl (.inl h), t⟩
  | tupK h t => exact ⟨_, _, rfl, .inr h, t⟩
theorem Rp.lsq {v : V} {ds : List D} (r : Rp K H M v (.list ds)) : ∃ a xs, v = .ref a ∧ H a = some (.lst xs) ∧ ¬ M a ∧ RpA K H M xs ds := by
  cases r with
  | lst h n t => exact ⟨_, _, rfl, h, n, t⟩
theorem Rp.fzq {v : V} {ds : List D} (r : Rp K H M v (.dict [(.none, .list ds)])) : ∃ a xs, v = .ref a ∧ (∃ o, H a = some (.frz o (.lst xs))) ∧ ¬ M a ∧ RpA K H M xs ds := by
  generalize e : PyData.dict [(.none, .list ds)] = d at r
  cases r with
  | fz h n t =>
    unfold FZ at e
    cases e
    exact ⟨_, _, rfl, h, n, t⟩
  | rf =>
    unfold RF at e
    cases e
  | _ => cases e
theorem RpA.len : ∀ {vs : List V} {ds : List D}, RpA K H M vs ds → vs.length = ds.length
  | _, _, .nil => rfl
  | _, _, .cons _ t => by simp [RpA.len t]
theorem RpA.append : ∀ {vs ws : List V} {ds es : List D}, RpA K H M vs ds → RpA K H M ws es → RpA K H M (vs ++ ws) (ds ++ es)
  | _, _, _, _, .nil, t => t
  | _, _, _, _, .cons r t, u => .cons r (RpA.append t u)
theorem RpA.get : ∀ {vs : List V} {ds : List D}, RpA K H M vs ds → ∀ {i : Nat} {d : D}, ds[i]? = some d → ∃ v, vs[i]? = some v ∧ Rp K H M v d
  | _, _, .nil, i, d, h => by simp at h
  | _, _, .cons r t, 0, d, h => by
    simp at h
    subst h
    exact ⟨_, rfl, r⟩
  | _, _, .cons r t, i + 1, d, h => by
    simp at h
    obtain ⟨v, e, q⟩ := RpA.get t h
    exact ⟨v, by simpa using e, q⟩
theorem RpA.get' : ∀ {vs : List V} {ds : List D}, RpA K H M vs ds → ∀ {i : Nat} {v : V}, vs[i]? = some v → ∃ d, ds[i]? = some d ∧ Rp K H M v d
  | _, _, .nil, i, d, h => by simp at h
  | _, _, .cons r t, 0, d, h => by
    simp at h
    subst h
    exact ⟨_, rfl, r⟩
  | _, _, .cons r t, i + 1, d, h => by
    simp at h
    obtain ⟨v, e, q⟩ := RpA.get' t h
    exact ⟨v, by simpa using e, q⟩
theorem RpA.drop : ∀ {vs : List V} {ds : List D}, RpA K H M vs ds → ∀ n : Nat, RpA K H M (vs.drop n) (ds.drop n)
  | _, _, .nil, n => by simp; exact .nil
  | _, _, .cons r t, 0 => .cons r t
  | _, _, .cons r t, n + 1 => by simpa using RpA.drop t n
theorem RpA.take : ∀ {vs : List V} {ds : List D}, RpA K H M vs ds → ∀ n : Nat, RpA K H M (vs.take n) (ds.take n)
  | _, _, .nil, n => by simp; exact .nil
  | _, _, .cons r t, 0 => .nil
  | _, _, .cons r t, n + 1 => by
    simp only [List.take_succ_cons]
    exact .cons r (RpA.take t n)
theorem RpA.dropLast {vs : List V} {ds : List D} (h : RpA K H M vs ds) : RpA K H M vs.dropLast ds.dropLast := by
  rw [List.dropLast_eq_take, List.dropLast_eq_take, h.len]
  exact h.take _
theorem RpA.reverse : ∀ {vs : List V} {ds : List D}, RpA K H M vs ds → RpA K H M vs.reverse ds.reverse
  | _, _, .nil => .nil
  | _, _, .cons r t => by
    simp only [List.reverse_cons]
    exact (RpA.reverse t).append (.cons r .nil)
theorem RpA.cut {vs : List V} {ds : List D} (h : RpA K H M vs ds) (lo hi : Option Int) : RpA K H M (cutV vs lo hi) (cutD ds lo hi) := by
  unfold cutV cutD
  rw [h.len]
  exact (h.drop _).take _
end
def Own (K : PySem.W.Frag) (H : Hp) (M : Addr → Prop) (a : Addr) : D → Prop
  | .list ds => ∃ xs, H a = some (.lst xs) ∧ RpA K H M xs ds
  | _ => False
theorem Own.exd {K : PySem.W.Frag} {H H' : Hp} {M M' : Addr → Prop} {a : Addr} {d : D} (e : Exd M H M' H') (h : H' a = H a) (o : Own K H M a d) : Own K H' M' a d := by
  cases d <;> try exact o
  obtain ⟨xs, w1, w2⟩ := o
  exact ⟨xs, h.trans w1, w2.exd e⟩
def FvR (K : PySem.W.Frag) (H : Hp) (M : Addr → Prop) (v : V) : Fv → Prop
  | .sh d => Rp K H M v d
  | .ow g d => v = .ref g ∧ M g ∧ Own K H M g d
inductive FvA (K : PySem.W.Frag) (H : Hp) (M : Addr → Prop) : List (Str × V) → List (Str × Fv) → Prop
  | nil : FvA K H M [] []
  | cons {k : Str} {v : V} {f : Fv} {kvs : List (Str × V)} {fs : List (Str × Fv)} : FvR K H M v f → FvA K H M kvs fs → FvA K H M ((k, v) :: kvs) ((k, f) :: fs)
def dKof (kvs : List (Str × V)) : HO := .dK (kvs.map fun kv => (.inr kv.1, kv.2))
def CellR (K : PySem.W.Frag) (H : Hp) (M : Addr → Prop) (a : Addr) : Cell → Prop
  | .lst ds => ∃ xs, H a = some (.lst xs) ∧ RpA K H M xs ds
  | .dct fs => ∃ kvs, H a = some (dKof kvs) ∧ FvA K H M kvs fs
def owns (c : Cell) (i : Nat) (g : Addr) : Prop := ∃ f d, c.fs[i]? = some (f, .ow g d)
def fo (ω : Om) (b : Addr) : Prop := (∃ c, ω b = some c) ∨ ∃ a c i, ω a = some c ∧ owns c i b
structure Am (K : PySem.W.Frag) (ω : Om) (H : Hp) (M : Addr → Prop) : Prop where
  cell : ∀ a c, ω a = some c → CellR K H M a c
  own : ∀ a c i g, ω a = some c → owns c i g → ω g = none
  dj : ∀ a c i g a' c' i', ω a = some c → owns c i g → ω a' = some c' → owns c' i' g → a = a' ∧ i = i'
theorem FvA.exd {K : PySem.W.Frag} {H H' : Hp} {M M' : Addr → Prop} (e : Exd M H M' H') : ∀ {kvs : List (Str × V)} {fs : List (Str × Fv)}, FvA K H M kvs fs → (∀ (i : Nat) (f : Str) (g : Addr) (d : D), fs[i]? = some (f, Fv.ow g d) → H' g = H g ∧ M' g) → FvA K H' M' kvs fs
  | _, _, .nil, _ => .nil
  | _, _, .cons (f := f) h t, k => .cons (by
      cases f with
      | sh d => exact Rp.exd e h
      | ow g d =>
        obtain ⟨k1, k2⟩ := k 0 _ _ _ rfl
        exact ⟨h.1, k2, h.2.2.exd e k1⟩) (FvA.exd e t fun i f g d q => k (i + 1) f g d q)
theorem CellR.exd {K : PySem.W.Frag} {H H' : Hp} {M M' : Addr → Prop} {a : Addr} {c : Cell} (z : CellR K H M a c) (e : Exd M H M' H') (ha : H' a = H a) (h : ∀ i g, owns c i g → H' g = H g ∧ M' g) : CellR K H' M' a c := by
  cases c with
  | lst ds =>
    obtain ⟨xs, z1, z2⟩ := z
    exact ⟨xs, ha.trans z1, z2.exd e⟩
  | dct fs =>
    obtain ⟨kvs, z1, z2⟩ := z
    exact ⟨kvs, ha.trans z1, z2.exd e fun i f g d k => h i g ⟨f, d, k⟩⟩
theorem Am.st {K : PySem.W.Frag} {ω : Om} {H H' : Hp} {M M' : Addr → Prop} (A : Am K ω H M) (e : Exd M H M' H') (h : ∀ a, fo ω a → H' a = H a ∧ M' a) : Am K ω H' M' :=
  ⟨fun a c q => (A.cell a c q).exd e (h a (.inl ⟨c, q⟩)).1 fun i g k => h g (.inr ⟨a, c, i, q, k⟩), A.own, A.dj⟩
structure Bx where
  H0 : Hp
  ω0 : Om
  M0 : Addr → Prop
  pins : List (Addr × HO)
  hold : List (V × D)
section
variable (L : Lv)
structure Aft (B : Bx) (H : Hp) (ω : Om) (M : Addr → Prop) : Prop where
  am : Am L.K ω H M
  fm : ∀ a, fo ω a → M a
  mt : ∀ a, M a → ∃ o, H a = some o ∧ Mk o
  m0 : ∀ a, B.M0 a → M a
  mx : ∀ a, M a → B.M0 a ∨ NwP B.H0 a
  kp : ∀ a o, B.H0 a = some o → ¬ fo B.ω0 a → NT o → H a = some o
  dm : ∀ a o, B.H0 a = some o → NT o → ∃ o', H a = some o' ∧ NT o'
  fg : ∀ a, fo ω a → fo B.ω0 a ∨ NwP B.H0 a
  t0 : ∀ a, B.M0 a → ∃ o, B.H0 a = some o ∧ NT o
  tbs : LamX.Tabs L.tb H
def OwA (B : Bx) (M : Addr → Prop) (H : Hp) (ω : Om) (a : Addr) (d : D) : Prop := M a ∧ ¬ fo ω a ∧ NwP B.H0 a ∧ Own L.K H M a d
def SR (B : Bx) (M : Addr → Prop) (σ : Sg) (H : Hp) (ω : Om) (i : Nat) : Sl → Prop
  | .no => True
  | .sh d => ∃ v, σ[i]? = some (some v) ∧ Rp L.K H M v d
  | .ow d => ∃ a, σ[i]? = some (some (.ref a)) ∧ OwA L B M H ω a d
def Held (B : Bx) (σ : Sg) (ρ : En) (a : Addr) : Prop := (∃ (i : Nat) (d : D), ρ[i]? = some (.ow d) ∧ σ[i]? = some (some (.ref a))) ∨ ∃ p ∈ B.pins, p.1 = a
structure RS (B : Bx) (M : Addr → Prop) (σ : Sg) (H : Hp) (ρ : En) (ω : Om) : Prop where
  af : Aft L B H ω M
  ln : ρ.length = σ.length
  sl : ∀ (i : Nat) (x : Sl), ρ[i]? = some x → SR L B M σ H ω i x
  ap : ∀ (i j : Nat) (a : Addr) (d e : D), ρ[i]? = some (.ow d) → ρ[j]? = some (.ow e) → σ[i]? = some (some (.ref a)) → σ[j]? = some (some (.ref a)) → i = j
  pn : ∀ p ∈ B.pins, H p.1 = some p.2 ∧ M p.1 ∧ ¬ fo ω p.1 ∧ NwP B.H0 p.1 ∧ NT p.2
  po : ∀ p ∈ B.pins, ∀ (i : Nat) (d : D), ρ[i]? = some (.ow d) → σ[i]? ≠ some (some (.ref p.1))
  ho : ∀ q ∈ B.hold, Rp L.K H M q.1 q.2
def VR (B : Bx) (M : Addr → Prop) (σ : Sg) (H : Hp) (ρ : En) (ω : Om) (v : V) : Sl → Prop
  | .no => False
  | .sh d => Rp L.K H M v d
  | .ow d => ∃ a, v = .ref a ∧ OwA L B M H ω a d ∧ ¬ Held B σ ρ a
def XR (H : Hp) (M : Addr → Prop) (x : Xn) (cls : Value) (d : Option Addr) : Prop := ∃ C, L.ca x.cls = some C ∧ cls = .ref C ∧ match x.fld with
  | none => d = none
  | some (f, e) => ∃ dx v, d = some dx ∧ H dx = some (.xd [(f, v)]) ∧ Rp L.K H M v e
end
section
variable {L : Lv} {B : Bx} {M M' : Addr → Prop} {σ : Sg} {H H' : Hp} {ρ : En} {ω ω' : Om} {v : V} {d : D} {a : Addr}
theorem OwA.move {a : Addr} {d : D} (e : Exd M H M' H') (o : OwA L B M H ω a d) (h : H' a = H a) (m : M' a) (f : ¬ fo ω' a) : OwA L B M' H' ω' a d := by
  obtain ⟨_, _, z, w⟩ := o
  refine ⟨m, f, z, ?_⟩
  cases d <;> try exact w
  obtain ⟨xs, w1, w2⟩ := w
  exact ⟨xs, h.trans w1, w2.exd e⟩
theorem RS.move (R : RS L B M σ H ρ ω) (e : Exd M H M' H') (k : ∀ a, Held B σ ρ a → H' a = H a ∧ M' a ∧ ¬ fo ω' a) (af : Aft L B H' ω' M') : RS L B M' σ H' ρ ω' := by
  refine ⟨af, R.ln, fun i x h => ?_, R.ap, fun p hp => ?_, R.po, fun q hq => (R.ho q hq).exd e⟩
  · have s := R.sl i x h
    cases x with
    | no => trivial
    | sh d =>
      obtain ⟨v, s1, s2⟩ := s
      exact ⟨v, s1, s2.exd e⟩
    | ow d =>
      obtain ⟨a, s1, s2⟩ := s
      obtain ⟨k1, k2, k3⟩ := k a (.inl ⟨i, d, h, s1⟩)
      exact ⟨a, s1, s2.move e k1 k2 k3⟩
  · obtain ⟨p1, p2, p3, p4, p5⟩ := R.pn p hp
    obtain ⟨k1, k2, k3⟩ := k p.1 (.inr ⟨p, hp, rfl⟩)
    exact ⟨k1.trans p1, k2, k3, p4, p5⟩
theorem RS.held (R : RS L B M σ H ρ ω) {a : Addr} (h : Held B σ ρ a) : M a ∧ ¬ fo ω a ∧ NwP B.H0 a ∧ ∃ o, H a = some o ∧ NT o := by
  rcases h with ⟨i, d, h1, h2⟩ | ⟨p, h1, h2⟩
  · obtain ⟨b, s1, s2, s3, s4, s5⟩ := R.sl i _ h1
    rw [h2] at s1
    cases s1
    refine ⟨s2, s3, s4, ?_⟩
    cases d <;> try exact s5.elim
    obtain ⟨xs, s6, _⟩ := s5
    exact ⟨_, s6, nt_lst⟩
  · obtain ⟨p1, p2, p3, p4, p5⟩ := R.pn p h1
    subst h2
    exact ⟨p2, p3, p4, _, p1, p5⟩
theorem exf_new {o : HO} (n : H a = none) : Exf M H M (upd H a o) := fun b u h m => ⟨by
  rw [upd_ne (by intro z; rw [z, n] at h; cases h)]
  exact h, m⟩
theorem exf_own {o : HO} (n : H a = none) : Exf M H (fun b => M b ∨ b = a) (upd H a o) := fun b u h m => by
  have ne : b ≠ a := by
    intro z
    rw [z, n] at h
    cases h
  exact ⟨by rw [upd_ne ne]; exact h, fun z => z.elim m ne⟩
theorem exd_new {o : HO} (n : H a = none) : Exd M H M (upd H a o) := (exf_new n).w
theorem exd_own {o : HO} (n : H a = none) : Exd M H (fun b => M b ∨ b = a) (upd H a o) := (exf_own n).w
/-- a new object that is not a slot's own -/
theorem Aft.new {o : HO} (A : Aft L B H ω M) (n : H a = none) : Aft L B (upd H a o) ω M where
  am := A.am.st (exd_new n) fun b hb => ⟨upd_ne (by
    obtain ⟨o, q, _⟩ := A.mt b (A.fm b hb)
    intro z
    rw [z, n] at q
    cases q), A.fm b hb⟩
  fm := A.fm
  mt := fun b hb => by
    obtain ⟨o, q, k⟩ := A.mt b hb
    exact ⟨o, by rw [upd_ne (by intro z; rw [z, n] at q; cases q)]; exact q, k⟩
  m0 := A.m0
  mx := A.mx
  kp := fun b o h f nt => by
    have q := A.kp b o h f nt
    rw [upd_ne (by intro z; rw [z, n] at q; cases q)]
    exact q
  dm := fun b o h nt => by
    obtain ⟨o', q, k⟩ := A.dm b o h nt
    exact ⟨o', by rw [upd_ne (by intro z; rw [z, n] at q; cases q)]; exact q, k⟩
  fg := A.fg
  t0 := A.t0
  tbs := tabs_exf A.tbs A.mt (exf_new n)
theorem RS.new {o : HO} (R : RS L B M σ H ρ ω) (n : H a = none) : RS L B M σ (upd H a o) ρ ω :=
  R.move (exd_new n) (fun b hb => by
    obtain ⟨h1, h2, h3, o, h4, _⟩ := R.held hb
    exact ⟨upd_ne (by intro z; rw [z, n] at h4; cases h4), h1, h2⟩) (R.af.new n)
/-- a new object that is someone's own -/
theorem Aft.newOwn {o : HO} (k : Mk o) (A : Aft L B H ω M) (n : H a = none) : Aft L B (upd H a o) ω (fun b => M b ∨ b = a) := by
  have A' := A.new (o := o) n
  have n0 : NwP B.H0 a := fun o h nt => by
    obtain ⟨o', z, _⟩ := A.dm a o h nt
    rw [n] at z
    cases z
  exact ⟨A.am.st (exd_own n) fun b hb => ⟨upd_ne (by
    obtain ⟨o, q, _⟩ := A.mt b (A.fm b hb)
    intro z
    rw [z, n] at q
    cases q), .inl (A.fm b hb)⟩, fun b hb => .inl (A'.fm b hb), fun b hb => hb.elim (fun z => A'.mt b z) fun z => ⟨o, by rw [z]; exact upd_same, k⟩, fun b hb => .inl (A'.m0 b hb), fun b hb => hb.elim (fun z => A'.mx b z) fun z => .inr (by rw [z]; exact n0), A'.kp, A'.dm, A'.fg, A'.t0, tabs_exf A.tbs A.mt (exf_own n)⟩
theorem Aft.fresh' (A : Aft L B H ω M) (n : NwP H a) : NwP B.H0 a := fun o h nt =>
  let ⟨o', q, nt'⟩ := A.dm a o h nt
  n o' q nt'
theorem Aft.fresh (A : Aft L B H ω M) (n : H a = none) : NwP B.H0 a ∧ ¬ fo ω a := by
  constructor
  · exact A.fresh' (nwp n)
  · intro f
    obtain ⟨o, q, _⟩ := A.mt a (A.fm a f)
    rw [n] at q
    cases q
theorem RS.newOwn {ds : List D} {xs : List V} (R : RS L B M σ H ρ ω) (n : H a = none) (r : RpA L.K H M xs ds) :
    RS L B (fun b => M b ∨ b = a) σ (upd H a (.lst xs)) ρ ω ∧ VR L B (fun b => M b ∨ b = a) σ (upd H a (.lst xs)) ρ ω (.ref a) (.ow (.list ds)) := by
  have nh : ¬ Held B σ ρ a := fun hb => by
    obtain ⟨_, _, _, o, h4, _⟩ := R.held hb
    rw [n] at h4
    cases h4
  refine ⟨R.move (exd_own n) (fun b hb => ?_) (R.af.newOwn mk_lst n), a, rfl, ⟨.inr rfl, (R.af.fresh n).2, (R.af.fresh n).1, xs, upd_same, r.exd (exd_own n)⟩, nh⟩
  obtain ⟨h1, h2, h3, o, h4, _⟩ := R.held hb
  exact ⟨upd_ne (by intro z; rw [z, n] at h4; cases h4), .inl h1, h2⟩
/-- a value is shared from now on -/
theorem RS.share {x : Sl} (R : RS L B M σ H ρ ω) (V : VR L B M σ H ρ ω v x) : ∃ M', RS L B M' σ H ρ ω ∧ Rp L.K H M' v x.d ∧ Exf M H M' H := by
  cases x with
  | no => exact V.elim
  | sh d => exact ⟨M, R, V, fun _ _ h m => ⟨h, m⟩⟩
  | ow d =>
    obtain ⟨a, rfl, ⟨o1, o2, o3, o4⟩, nh⟩ := V
    have e : Exf M H (fun b => M b ∧ b ≠ a) H := fun b o h m => ⟨h, fun z => m z.1⟩
    refine ⟨fun b => M b ∧ b ≠ a, R.move e (fun b hb => ?_) ?_, ?_, e⟩
    · obtain ⟨h1, h2, _⟩ := R.held hb
      exact ⟨rfl, ⟨h1, fun z => nh (z ▸ hb)⟩, h2⟩
    · have A := R.af
      refine ⟨A.am.st e fun b hb => ⟨rfl, A.fm b hb, fun z => o2 (z ▸ hb)⟩, fun b hb => ⟨A.fm b hb, fun z => o2 (z ▸ hb)⟩, fun b hb => A.mt b hb.1, fun b hb => ⟨A.m0 b hb, fun z => ?_⟩, fun b hb => A.mx b hb.1, A.kp, A.dm, A.fg, A.t0, tabs_exf A.tbs A.mt e⟩
      obtain ⟨o, q, nt⟩ := A.t0 b hb
      rw [z] at q
      exact o3 o q nt
    · cases d <;> try exact o4.elim
      obtain ⟨xs, w1, w2⟩ := o4
      exact .lst w1 (fun z => z.2 rfl) (w2.exd e)
end
end Ev
namespace Ev
open L2 PyProof.Rows PySem.Calls PySem.Spec PySem
section
variable {L : Lv} {B : Bx} {M M' : Addr → Prop} {σ : Sg} {H H' : Hp} {ρ : En} {ω ω' : Om} {v : V} {d : D} {a : Addr} {i : Nat}
theorem get_set {α : Type} {l : List α} {i j : Nat} {x y : α} (h : (l.set i x)[j]? = some y) : (i = j ∧ y = x ∧ i < l.length) ∨ (i ≠ j ∧ l[j]? = some y) := by
  by_cases e : i = j
  · subst e
    by_cases hi : i < l.length
    · rw [List.getElem?_set_self hi] at h
      cases h
      exact .inl ⟨rfl, rfl, hi⟩
    · rw [List.getElem?_eq_none (by simpa using hi)] at h
      cases h
  · rw [List.getElem?_set_ne e] at h
    exact .inr ⟨e, h⟩
theorem set_same {α : Type} {l : List α} {i : Nat} {x : α} (h : l[i]? = some x) : l.set i x = l := by
  apply List.ext_getElem?
  intro j
  by_cases e : i = j
  · subst e
    obtain ⟨hi, _⟩ := List.getElem?_eq_some_iff.mp h
    rw [List.getElem?_set_self hi, h]
  · rw [List.getElem?_set_ne e]
theorem RS.forget (R : RS L B M σ H ρ ω) (i : Nat) : RS L B M σ H (ρ.set i .no) ω := by
  have g : ∀ {j : Nat} {d : D}, (ρ.set i .no)[j]? = some (.ow d) → ρ[j]? = some (.ow d) := fun {j d} h => by
    rcases get_set h with ⟨_, z, _⟩ | ⟨_, z⟩
    · cases z
    · exact z
  refine ⟨R.af, by rw [List.length_set]; exact R.ln, fun j x h => ?_, fun j k a d e h1 h2 => R.ap j k a d e (g h1) (g h2), R.pn, fun p hp j d h => R.po p hp j d (g h), R.ho⟩
  rcases get_set h with ⟨_, z, _⟩ | ⟨_, z⟩
  · subst z
    trivial
  · exact R.sl j x z
theorem RS.setS {x : Sl} (R : RS L B M σ H ρ ω) (hi : i < σ.length) (V : VR L B M σ H ρ ω v x) : RS L B M (σ.set i (some v)) H (ρ.set i x) ω := by
  refine ⟨R.af, by rw [List.length_set, List.length_set]; exact R.ln, fun j y h => ?_, fun j k b d e h1 h2 h3 h4 => ?_, R.pn, fun p hp j d h e => ?_, R.ho⟩
  · rcases get_set h with ⟨rfl, rfl, _⟩ | ⟨n, z⟩
    · cases y with
      | no => trivial
      | sh d => exact ⟨v, List.getElem?_set_self hi, V⟩
      | ow d =>
        obtain ⟨a, rfl, o, _⟩ := V
        exact ⟨a, List.getElem?_set_self hi, o⟩
    · have s := R.sl j y z
      cases y with
      | no => trivial
      | sh d =>
        obtain ⟨w, s1, s2⟩ := s
        exact ⟨w, by rw [List.getElem?_set_ne n]; exact s1, s2⟩
      | ow d =>
        obtain ⟨w, s1, s2⟩ := s
        exact ⟨w, by rw [List.getElem?_set_ne n]; exact s1, s2⟩
  · rcases get_set h1 with ⟨rfl, z1, _⟩ | ⟨n1, z1⟩
    · rcases get_set h2 with ⟨rfl, _, _⟩ | ⟨n2, z2⟩
      · rfl
      · subst z1
        obtain ⟨a, rfl, _, nh⟩ := V
        rw [List.getElem?_set_self hi] at h3
        cases h3
        rw [List.getElem?_set_ne n2] at h4
        exact absurd (.inl ⟨k, e, z2, h4⟩) nh
    · rcases get_set h2 with ⟨rfl, z2, _⟩ | ⟨n2, z2⟩
      · subst z2
        obtain ⟨a, rfl, _, nh⟩ := V
        rw [List.getElem?_set_self hi] at h4
        cases h4
        rw [List.getElem?_set_ne n1] at h3
        exact absurd (.inl ⟨j, d, z1, h3⟩) nh
      · rw [List.getElem?_set_ne n1] at h3
        rw [List.getElem?_set_ne n2] at h4
        exact R.ap j k b d e z1 z2 h3 h4
  · rcases get_set h with ⟨rfl, z, _⟩ | ⟨n, z⟩
    · subst z
      obtain ⟨a, rfl, _, nh⟩ := V
      rw [List.getElem?_set_self hi] at e
      cases e
      exact nh (.inr ⟨p, hp, rfl⟩)
    · rw [List.getElem?_set_ne n] at e
      exact R.po p hp j d z e
theorem RS.temp {i : Nat} (R : RS L B M σ H ρ ω) (h : ρ[i]? = some (.ow d)) : ∃ a, σ[i]? = some (some (.ref a)) ∧ VR L B M σ H (ρ.set i .no) ω (.ref a) (.ow d) := by
  obtain ⟨a, s1, s2⟩ := R.sl i _ h
  refine ⟨a, s1, a, rfl, s2, fun hd => ?_⟩
  rcases hd with ⟨j, e, h1, h2⟩ | ⟨p, hp, e⟩
  · rcases get_set h1 with ⟨_, z, _⟩ | ⟨n, z⟩
    · cases z
    · exact n (R.ap i j a d e h z s1 h2)
  · subst e
    exact R.po p hp i d h s1
theorem RS.var {k : D → En → Prop} (R : RS L B M σ H ρ ω) (h : rdV ρ i k) : ∃ v d ρ' M', σ[i]? = some (some v) ∧ RS L B M' σ H ρ' ω ∧ Rp L.K H M' v d ∧ k d ρ' := by
  unfold rdV at h
  cases e : ρ[i]? with
  | none => rw [e] at h; exact h.elim
  | some x =>
    rw [e] at h
    cases x with
    | no => exact h.elim
    | sh d =>
      obtain ⟨v, s1, s2⟩ := R.sl i _ e
      exact ⟨v, d, ρ, M, s1, R, s2, h⟩
    | ow d =>
      obtain ⟨a, s1, s2⟩ := R.temp e
      obtain ⟨M', R', r, _⟩ := (R.forget i).share s2
      have hi : i < σ.length := (List.getElem?_eq_some_iff.mp s1).1
      have R2 := R'.setS (i := i) (x := .sh d) hi r
      rw [set_same s1, List.set_set] at R2
      exact ⟨_, d, _, M', s1, R2, r, h⟩
theorem RS.peek {k : D → Prop} (R : RS L B M σ H ρ ω) (h : pkV ρ i k) : ∃ v d, σ[i]? = some (some v) ∧ k d ∧ ∀ ds, d = .list ds → ∃ a xs, v = .ref a ∧ H a = some (.lst xs) ∧ RpA L.K H M xs ds := by
  unfold pkV at h
  cases e : ρ[i]? with
  | none => rw [e] at h; exact h.elim
  | some x =>
    rw [e] at h
    cases x with
    | no => exact h.elim
    | sh d =>
      obtain ⟨v, s1, s2⟩ := R.sl i _ e
      refine ⟨v, d, s1, h, fun ds hd => ?_⟩
      subst hd
      obtain ⟨a, xs, h1, h2, _, h3⟩ := s2.lsq
      exact ⟨a, xs, h1, h2, h3⟩
    | ow d =>
      obtain ⟨a, s1, _, _, _, s2⟩ := R.sl i _ e
      refine ⟨_, d, s1, h, fun ds hd => ?_⟩
      subst hd
      obtain ⟨xs, h2, h3⟩ := s2
      exact ⟨a, xs, rfl, h2, h3⟩
theorem Aft.own {o : HO} (k : Mk o) (A : Aft L B H ω M) (m : M a) (f : ¬ fo ω a) (z : NwP B.H0 a) : Aft L B (upd H a o) ω M := by
  have ne : ∀ {b}, fo ω b → b ≠ a := fun h e => f (e ▸ h)
  have ex : Exf M H M (upd H a o) := fun b u h n => ⟨by
    rw [upd_ne (by intro z; subst z; exact n m)]
    exact h, n⟩
  exact ⟨A.am.st ex fun b hb => ⟨upd_ne (ne hb), A.fm b hb⟩, A.fm, fun b hb => by
      by_cases e : b = a
      · exact ⟨o, by rw [e]; exact upd_same, k⟩
      · obtain ⟨u, q, k⟩ := A.mt b hb
        exact ⟨u, by rw [upd_ne e]; exact q, k⟩, A.m0, A.mx, fun b u h g nt => by
      rw [upd_ne (by intro e; subst e; exact z u h nt)]
      exact A.kp b u h g nt, fun b u h nt => by
      rw [upd_ne (by intro e; subst e; exact z u h nt)]
      exact A.dm b u h nt, A.fg, A.t0, tabs_exf A.tbs A.mt ex⟩
theorem RS.upd {ds : List D} (R : RS L B M σ H ρ ω) (h : ρ[i]? = some (.ow (.list ds))) :
    ∃ a xs, σ[i]? = some (some (.ref a)) ∧ H a = some (.lst xs) ∧ RpA L.K H M xs ds ∧ ∀ ys es, RpA L.K H M ys es →
      RS L B M σ (upd H a (.lst ys)) (ρ.set i (.ow (.list es))) ω ∧ Exf M H M (upd H a (.lst ys)) := by
  obtain ⟨a, s1, a', ea, ⟨o1, o2, o3, xs, w1, w2⟩, nh⟩ := R.temp h
  cases ea
  refine ⟨a, xs, s1, w1, w2, fun ys es r => ?_⟩
  have e : Exf M H M (L2.upd H a (.lst ys)) := fun b o hb m => ⟨by
    rw [upd_ne (by intro z; subst z; exact m o1)]
    exact hb, m⟩
  have R1 : RS L B M σ (L2.upd H a (.lst ys)) (ρ.set i .no) ω := by
    refine (R.forget i).move e (fun b hb => ?_) (R.af.own mk_lst o1 o2 o3)
    obtain ⟨k1, k2, _⟩ := (R.forget i).held hb
    exact ⟨upd_ne (fun z => nh (z ▸ hb)), k1, k2⟩
  have hi : i < σ.length := (List.getElem?_eq_some_iff.mp s1).1
  have R2 := R1.setS (i := i) (v := .ref a) (x := .ow (.list es)) hi ⟨a, rfl, ⟨o1, o2, o3, ys, upd_same, r.exd e⟩, nh⟩
  rw [set_same s1, List.set_set] at R2
  exact ⟨R2, e⟩
abbrev Bx.hd (B : Bx) (v : V) (d : D) : Bx := { B with hold := (v, d) :: B.hold }
abbrev Bx.pn (B : Bx) (a : Addr) (o : HO) : Bx := { B with pins := (a, o) :: B.pins }
theorem Aft.to {B' : Bx} (A : Aft L B H ω M) (h0 : B'.H0 = B.H0) (hw : B'.ω0 = B.ω0) (hm : B'.M0 = B.M0) : Aft L B' H ω M := by
  obtain ⟨H0, w0, M0, p, h⟩ := B
  obtain ⟨H0', w0', M0', p', h'⟩ := B'
  simp only at h0 hw hm
  subst h0 hw hm
  exact ⟨A.am, A.fm, A.mt, A.m0, A.mx, A.kp, A.dm, A.fg, A.t0, A.tbs⟩
theorem RS.holdIn (R : RS L B M σ H ρ ω) (r : Rp L.K H M v d) : RS L (B.hd v d) M σ H ρ ω :=
  ⟨R.af.to rfl rfl rfl, R.ln, R.sl, R.ap, R.pn, R.po, fun q hq => by
    rcases List.mem_cons.mp hq with e | hq
    · subst e
      exact r
    · exact R.ho q hq⟩
theorem RS.holdOut (R : RS L (B.hd v d) M σ H ρ ω) : RS L B M σ H ρ ω ∧ Rp L.K H M v d :=
  ⟨⟨R.af.to rfl rfl rfl, R.ln, R.sl, R.ap, R.pn, R.po, fun q hq => R.ho q (List.mem_cons_of_mem _ hq)⟩, R.ho (v, d) List.mem_cons_self⟩
/-- a list of one's own is kept while something else is worked out -/
theorem RS.pinIn {ds : List D} (R : RS L B M σ H ρ ω) (V : VR L B M σ H ρ ω v (.ow (.list ds))) : ∃ a xs, v = .ref a ∧ RpA L.K H M xs ds ∧ RS L (B.pn a (.lst xs)) M σ H ρ ω := by
  obtain ⟨a, rfl, ⟨o1, o2, o3, xs, w1, w2⟩, nh⟩ := V
  refine ⟨a, xs, rfl, w2, R.af.to rfl rfl rfl, R.ln, R.sl, R.ap, fun p hp => ?_, fun p hp j d h e => ?_, R.ho⟩
  · rcases List.mem_cons.mp hp with e | hp
    · subst e
      exact ⟨w1, o1, o2, o3, nt_lst⟩
    · exact R.pn p hp
  · rcases List.mem_cons.mp hp with q | hp
    · subst q
      exact nh (.inl ⟨j, d, h, e⟩)
    · exact R.po p hp j d h e
theorem RS.pinOut {xs : List V} {ds : List D} (R : RS L (B.pn a (.lst xs)) M σ H ρ ω) (r : RpA L.K H M xs ds) (nd : ∀ p ∈ B.pins, p.1 ≠ a) :
    RS L B M σ H ρ ω ∧ VR L B M σ H ρ ω (.ref a) (.ow (.list ds)) := by
  have R' : RS L B M σ H ρ ω := ⟨R.af.to rfl rfl rfl, R.ln, R.sl, R.ap, fun p hp => R.pn p (List.mem_cons_of_mem _ hp), fun p hp => R.po p (List.mem_cons_of_mem _ hp), R.ho⟩
  obtain ⟨p1, p2, p3, p4, _⟩ := R.pn (a, .lst xs) List.mem_cons_self
  refine ⟨R', a, rfl, ⟨p2, p3, p4, xs, p1, r⟩, fun hd => ?_⟩
  rcases hd with ⟨j, d, h, e⟩ | ⟨p, hp, e⟩
  · exact R.po (a, .lst xs) List.mem_cons_self j d h e
  · exact nd p hp e
def Bx.hds (B : Bx) (vs : List V) (ds : List D) : Bx := { B with hold := vs.zip ds ++ B.hold }
theorem RpA.mem {K : PySem.W.Frag} : ∀ {vs : List V} {ds : List D}, RpA K H M vs ds → ∀ q ∈ vs.zip ds, Rp K H M q.1 q.2
  | _, _, .nil, q, h => by simp at h
  | _, _, .cons r t, q, h => by
    simp only [List.zip_cons_cons, List.mem_cons] at h
    rcases h with rfl | h
    · exact r
    · exact RpA.mem t q h
theorem RpA.ofMem {K : PySem.W.Frag} : ∀ {vs : List V} {ds : List D}, vs.length = ds.length → (∀ q ∈ vs.zip ds, Rp K H M q.1 q.2) → RpA K H M vs ds
  | [], [], _, _ => .nil
  | [], _ :: _, h, _ => by cases h
  | _ :: _, [], h, _ => by cases h
  | v :: vs, d :: ds, h, k => .cons (k (v, d) (by simp)) (RpA.ofMem (by simpa using h) fun q hq => k q (by simp [hq]))
theorem RS.holdsIn {vs : List V} {ds : List D} (R : RS L B M σ H ρ ω) (r : RpA L.K H M vs ds) : RS L (B.hds vs ds) M σ H ρ ω :=
  ⟨R.af.to rfl rfl rfl, R.ln, R.sl, R.ap, R.pn, R.po, fun q hq => by
    rcases List.mem_append.mp hq with hq | hq
    · exact r.mem q hq
    · exact R.ho q hq⟩
theorem RS.holdsOut {vs : List V} {ds : List D} (R : RS L (B.hds vs ds) M σ H ρ ω) (l : vs.length = ds.length) : RS L B M σ H ρ ω ∧ RpA L.K H M vs ds :=
  ⟨⟨R.af.to rfl rfl rfl, R.ln, R.sl, R.ap, R.pn, R.po, fun q hq => R.ho q (List.mem_append_right _ hq)⟩, .ofMem l fun q hq => R.ho q (List.mem_append_left _ hq)⟩
/-- the entry of a callee -/
def Bx.at (H : Hp) (ω : Om) (M : Addr → Prop) : Bx := ⟨H, ω, M, [], []⟩
theorem Aft.exd (A : Aft L B H ω M) (f0 : ∀ a, fo B.ω0 a → B.M0 a) : Exd B.M0 B.H0 M H := fun a o h m nt => ⟨A.kp a o h (fun f => m (f0 a f)) nt, fun z => (A.mx a z).elim m fun q => q o h nt⟩
/-- behind a callee -/
theorem RS.called (R : RS L B M σ H ρ ω) (A : Aft L (.at H ω M) H' ω' M') : RS L B M' σ H' ρ ω' := by
  have e : Exd M H M' H' := A.exd R.af.fm
  refine R.move e (fun b hb => ?_) ?_
  · obtain ⟨k1, k2, k3, o, k4, nt⟩ := R.held hb
    refine ⟨(A.kp b o k4 k2 nt).trans k4.symm, A.m0 b k1, fun f => ?_⟩
    rcases A.fg b f with q | q
    · exact k2 q
    · exact q o k4 nt
  · have A0 := R.af
    refine ⟨A.am, A.fm, A.mt, fun b hb => A.m0 b (A0.m0 b hb), fun b hb => ?_, fun b o h f nt => ?_, fun b o h nt => ?_, fun b hb => ?_, A0.t0, A.tbs⟩
    · rcases A.mx b hb with q | q
      · exact A0.mx b q
      · exact .inr (A0.fresh' q)
    · have h1 := A0.kp b o h f nt
      refine A.kp b o h1 (fun q => ?_) nt
      rcases A0.fg b q with z | z
      · exact f z
      · exact z o h nt
    · obtain ⟨o1, h1, n1⟩ := A0.dm b o h nt
      exact A.dm b o1 h1 n1
    · rcases A.fg b hb with q | q
      · exact A0.fg b q
      · exact .inr (A0.fresh' q)
end
end Ev
namespace Ev
open L2 PyProof.Rows PySem.Calls PySem.Spec PySem
section
variable {L : Lv} {B : Bx} {M M' : Addr → Prop} {σ : Sg} {H H' : Hp} {ρ : En} {ω ω' : Om} {v : V} {d : D} {a b : Addr} {i : Nat} {c c0 : Cell}
theorem updO_same : updO ω a c a = some c := by unfold updO; rw [if_pos rfl]
theorem updO_ne (h : b ≠ a) : updO ω a c b = ω b := by unfold updO; rw [if_neg h]
theorem RS.recell (R : RS L B M σ H ρ ω) (e : Exf M H M H') (am : Am L.K ω' H' M) (hk : ∀ a, Held B σ ρ a → H' a = H a ∧ ¬ fo ω' a) (hf : ∀ a, fo ω' a → M a ∧ (fo ω a ∨ NwP B.H0 a))
    (dm : ∀ a o, H a = some o → ∃ o', H' a = some o' ∧ (Mk o → Mk o') ∧ (NT o → NT o')) (ch : ∀ a, H' a ≠ H a → fo ω a ∨ NwP B.H0 a) : RS L B M σ H' ρ ω' := by
  refine R.move e (fun b hb => ⟨(hk b hb).1, (R.held hb).1, (hk b hb).2⟩) ?_
  have A := R.af
  refine ⟨am, fun a h => (hf a h).1, fun a m => ?_, A.m0, A.mx, fun a o h f nt => ?_, fun a o h nt => ?_, fun a h => ?_, A.t0, tabs_exf A.tbs A.mt e⟩
  · obtain ⟨o, q, k⟩ := A.mt a m
    obtain ⟨o', q', k', _⟩ := dm a o q
    exact ⟨o', q', k' k⟩
  · have q := A.kp a o h f nt
    by_cases z : H' a = H a
    · rw [z]; exact q
    · rcases ch a z with w | w
      · rcases A.fg a w with y | y
        · exact absurd y f
        · exact absurd nt (y o h)
      · exact absurd nt (w o h)
  · obtain ⟨o', q, n'⟩ := A.dm a o h nt
    obtain ⟨o'', q'', _, k⟩ := dm a o' q
    exact ⟨o'', q'', k n'⟩
  · rcases (hf a h).2 with w | w
    · exact A.fg a w
    · exact .inr w
/-- a cell is changed, at its place or at one of its own -/
theorem Am.ch {K : PySem.W.Frag} {o : HO} {p : Addr} (A : Am K ω H M) (ha : ω a = some c0) (sub : ∀ i g, owns c i g → owns c0 i g) (hp : p = a ∨ ∃ i, owns c0 i p) (mf : ∀ b, fo ω b → M b) (hc : CellR K (upd H p o) M a c) : Am K (updO ω a c) (upd H p o) M := by
  have fp : fo ω p := by
    rcases hp with e | ⟨i, e⟩
    · exact .inl ⟨c0, e ▸ ha⟩
    · exact .inr ⟨a, c0, i, ha, e⟩
  have ex : Exf M H M (upd H p o) := fun b u h n => ⟨by
    rw [upd_ne (by intro z; subst z; exact n (mf _ fp))]
    exact h, n⟩
  have back : ∀ {b c'}, updO ω a c b = some c' → (b = a ∧ c' = c) ∨ (b ≠ a ∧ ω b = some c') := fun {b c'} h => by
    by_cases e : b = a
    · subst e
      rw [updO_same] at h
      cases h
      exact .inl ⟨rfl, rfl⟩
    · rw [updO_ne e] at h
      exact .inr ⟨e, h⟩
  have src : ∀ {b c' i g}, updO ω a c b = some c' → owns c' i g → ∃ c'', ω b = some c'' ∧ owns c'' i g := fun {b c' i g} h q => by
    rcases back h with ⟨rfl, rfl⟩ | ⟨e, z⟩
    · exact ⟨c0, ha, sub _ _ q⟩
    · exact ⟨c', z, q⟩
  refine ⟨fun b c' h => ?_, fun b c' i g h q => ?_, fun b c' i g b' c'' i' h q h' q' => ?_⟩
  · rcases back h with ⟨rfl, rfl⟩ | ⟨e, z⟩
    · exact hc
    · refine (A.cell b c' z).exd ex (upd_ne fun w => ?_) fun i g q => ⟨upd_ne fun w => ?_, mf g (.inr ⟨b, c', i, z, q⟩)⟩
      · rcases hp with y | ⟨j, y⟩
        · exact e (w.trans y)
        · have := A.own a c0 j p ha y
          rw [← w, z] at this
          cases this
      · subst w
        rcases hp with y | ⟨j, y⟩
        · have := A.own b c' i g z q
          rw [y, ha] at this
          cases this
        · exact e (A.dj b c' i g a c0 j z q ha y).1
  · obtain ⟨c'', h1, h2⟩ := src h q
    have z := A.own b c'' i g h1 h2
    rw [updO_ne (by intro w; rw [w, ha] at z; cases z)]
    exact z
  · obtain ⟨c1, h1, h2⟩ := src h q
    obtain ⟨c2, h3, h4⟩ := src h' q'
    exact A.dj _ _ _ _ _ _ _ h1 h2 h3 h4
theorem fo_ch (ha : ω a = some c0) (sub : ∀ i g, owns c i g → owns c0 i g) (h : fo (updO ω a c) b) : fo ω b := by
  rcases h with ⟨c', h⟩ | ⟨x, c', i, h, q⟩
  · by_cases e : b = a
    · exact .inl ⟨c0, e ▸ ha⟩
    · rw [updO_ne e] at h
      exact .inl ⟨c', h⟩
  · by_cases e : x = a
    · subst e
      rw [updO_same] at h
      cases h
      exact .inr ⟨x, c0, i, ha, sub _ _ q⟩
    · rw [updO_ne e] at h
      exact .inr ⟨x, c', i, h, q⟩
theorem RS.ch {o : HO} {p : Addr} (ko : Mk o) (R : RS L B M σ H ρ ω) (ha : ω a = some c0) (sub : ∀ i g, owns c i g → owns c0 i g) (hp : p = a ∨ ∃ i, owns c0 i p) (hc : CellR L.K (L2.upd H p o) M a c) : RS L B M σ (L2.upd H p o) ρ (updO ω a c) ∧ Exf M H M (L2.upd H p o) := by
  have fp : fo ω p := by
    rcases hp with e | ⟨i, e⟩
    · exact .inl ⟨c0, e ▸ ha⟩
    · exact .inr ⟨a, c0, i, ha, e⟩
  have ex : Exf M H M (L2.upd H p o) := fun b u h n => ⟨by
    rw [upd_ne (by intro z; subst z; exact n (R.af.fm _ fp))]
    exact h, n⟩
  refine ⟨R.recell ex (R.af.am.ch ha sub hp R.af.fm hc) (fun b hb => ⟨upd_ne fun w => (R.held hb).2.1 (by rw [w]; exact fp), fun w => (R.held hb).2.1 (fo_ch ha sub w)⟩) (fun b w => ⟨R.af.fm b (fo_ch ha sub w), .inl (fo_ch ha sub w)⟩) (fun b u h => ?_) fun b h => ?_, ex⟩
  · by_cases e : b = p
    · exact ⟨o, by rw [e]; exact upd_same, fun _ => ko, fun _ => ko.nt⟩
    · exact ⟨u, by rw [upd_ne e]; exact h, fun k => k, fun k => k⟩
  · by_cases e : b = p
    · exact .inl (e ▸ fp)
    · exact absurd (upd_ne e) h
/-- a new cell -/
theorem Am.add {K : PySem.W.Frag} (A : Am K ω H M) (ha : ¬ fo ω a) (e : Exd M H M' H') (h : ∀ b, fo ω b → H' b = H b ∧ M' b) (hc : CellR K H' M' a c) (hg : ∀ i g, owns c i g → ¬ fo ω g ∧ g ≠ a) (hd : ∀ i j g, owns c i g → owns c j g → i = j) : Am K (updO ω a c) H' M' := by
  have back : ∀ {b c'}, updO ω a c b = some c' → (b = a ∧ c' = c) ∨ (b ≠ a ∧ ω b = some c') := fun {b c'} h => by
    by_cases e : b = a
    · subst e
      rw [updO_same] at h
      cases h
      exact .inl ⟨rfl, rfl⟩
    · rw [updO_ne e] at h
      exact .inr ⟨e, h⟩
  have A' := A.st e h
  have nn : ∀ {b}, ¬ fo ω b → ω b = none := fun {b} n => by
    cases q : ω b with
    | none => rfl
    | some c => exact absurd (.inl ⟨c, q⟩) n
  refine ⟨fun b c' h => ?_, fun b c' i g h q => ?_, fun b c' i g b' c'' i' h q h' q' => ?_⟩
  · rcases back h with ⟨rfl, rfl⟩ | ⟨_, z⟩
    · exact hc
    · exact A'.cell b c' z
  · rcases back h with ⟨rfl, rfl⟩ | ⟨n, z⟩
    · rw [updO_ne (hg i g q).2]
      exact nn (hg i g q).1
    · rw [updO_ne (by intro w; subst w; exact ha (.inr ⟨b, c', i, z, q⟩))]
      exact A.own b c' i g z q
  · rcases back h with ⟨rfl, rfl⟩ | ⟨n, z⟩
    · rcases back h' with ⟨rfl, rfl⟩ | ⟨n', z'⟩
      · exact ⟨rfl, hd _ _ _ q q'⟩
      · exact absurd (.inr ⟨b', c'', i', z', q'⟩) (hg i g q).1
    · rcases back h' with ⟨rfl, rfl⟩ | ⟨n', z'⟩
      · exact absurd (.inr ⟨b, c', i, z, q⟩) (hg i' g q').1
      · exact A.dj _ _ _ _ _ _ _ z q z' q'
theorem fo_add (h : fo (updO ω a c) b) : fo ω b ∨ b = a ∨ ∃ i, owns c i b := by
  rcases h with ⟨c', h⟩ | ⟨x, c', i, h, q⟩
  · by_cases e : b = a
    · exact .inr (.inl e)
    · rw [updO_ne e] at h
      exact .inl (.inl ⟨c', h⟩)
  · by_cases e : x = a
    · subst e
      rw [updO_same] at h
      cases h
      exact .inr (.inr ⟨i, q⟩)
    · rw [updO_ne e] at h
      exact .inl (.inr ⟨x, c', i, h, q⟩)
/-- a list of one's own becomes a cell -/
theorem RS.toCell {ds : List D} (R : RS L B M σ H ρ ω) (V : VR L B M σ H ρ ω v (.ow (.list ds))) : ∃ a, v = .ref a ∧ ω a = none ∧ RS L B M σ H ρ (updO ω a (.lst ds)) := by
  obtain ⟨a, rfl, ⟨o1, o2, o3, o4⟩, nh⟩ := V
  have ex : Exf M H M H := fun b u h n => ⟨h, n⟩
  have no : ∀ i g, ¬ owns (.lst ds) i g := fun i g ⟨f, d, q⟩ => by simp [Cell.fs] at q
  refine ⟨a, rfl, ?_, R.recell ex (R.af.am.add o2 ex (fun b f => ⟨rfl, R.af.fm b f⟩) o4 (fun i g q => absurd q (no i g)) fun i j g q => absurd q (no i g)) (fun b hb => ⟨rfl, fun w => ?_⟩) (fun b w => ?_) (fun b u h => ⟨u, h, fun k => k, fun k => k⟩) fun b h => absurd rfl h⟩
  · cases q : ω a with
    | none => rfl
    | some c => exact absurd (.inl ⟨c, q⟩) o2
  · rcases fo_add w with w | w | ⟨i, w⟩
    · exact (R.held hb).2.1 w
    · exact nh (w ▸ hb)
    · exact no i b w
  · rcases fo_add w with w | w | ⟨i, w⟩
    · exact ⟨R.af.fm b w, .inl w⟩
    · exact ⟨w ▸ o1, .inr (w ▸ o3)⟩
    · exact absurd w (no i b)
theorem RS.lstAt {ds : List D} (R : RS L B M σ H ρ ω) (h : ω a = some (.lst ds)) : ∃ xs, H a = some (.lst xs) ∧ RpA L.K H M xs ds := R.af.am.cell a _ h
theorem RS.dctAt {fs : List (Str × Fv)} (R : RS L B M σ H ρ ω) (h : ω a = some (.dct fs)) : ∃ kvs, H a = some (dKof kvs) ∧ FvA L.K H M kvs fs := R.af.am.cell a _ h
theorem FvA.len {K : PySem.W.Frag} : ∀ {kvs : List (Str × V)} {fs : List (Str × Fv)}, FvA K H M kvs fs → kvs.length = fs.length
  | _, _, .nil => rfl
  | _, _, .cons _ t => by simp [FvA.len t]
theorem FvA.look {K : PySem.W.Frag} {key : Str} : ∀ {kvs : List (Str × V)} {fs : List (Str × Fv)} {f : Fv}, FvA K H M kvs fs → fs.lookup key = some f → ∃ (v : V) (i : Nat), valV (kvs.map fun kv => ((.inr kv.1 : Key), kv.2)) (.inr key) = some v ∧ FvR K H M v f ∧ fs[i]? = some (key, f)
  | _, _, f, .nil, h => by simp at h
  | _, _, f, .cons (k := k) (v := v) (f := g) (kvs := kvs) (fs := fs) r t, h => by
    by_cases e : key = k
    · subst e
      simp only [List.lookup_cons, beq_self_eq_true, Option.some.injEq] at h
      subst h
      exact ⟨v, 0, by simp [valV], r, rfl⟩
    · have e2 : (key == k) = false := beq_eq_false_iff_ne.mpr e
      simp only [List.lookup_cons, e2] at h
      obtain ⟨w, i, h1, h2, h3⟩ := FvA.look t h
      refine ⟨w, i + 1, ?_, h2, h3⟩
      have e3 : decide ((.inr k : Key) = .inr key) = false := decide_eq_false fun z => e (Sum.inr.inj z).symm
      simp only [valV, List.map_cons, List.find?_cons, e3] at h1 ⊢
      exact h1
end
end Ev
namespace Ev
open L2 PyProof.Rows PySem.Calls PySem.Spec PySem
section
variable {L : Lv}
def Pst (L : Lv) (B : Bx) (σ : Sg) (ρ : En) (ω : Om) (c : D) (Q : VK) : Prop := ∀ M v H, RS L B M σ H ρ ω → Rp L.K H M v c → Q v H
variable {B : Bx} {M : Addr → Prop} {σ : Sg} {H : Hp} {ρ : En} {ω : Om} {v w : V} {c d e : D} {Q : VK} {X : Cx}
theorem RS.nm {a : Addr} (R : RS L B M σ H ρ ω) (n : H a = none) : ¬ M a := fun m => by
  obtain ⟨o, q, _⟩ := R.af.mt a m
  rw [n] at q
  cases q
theorem Pst.lst (P : Pst L B σ ρ ω (.list ds) Q) (R : RS L B M σ H ρ ω) {xs : List V} (r : RpA L.K H M xs ds) : ∀ p, H p = none → Q (.ref p) (upd H p (.lst xs)) := fun p n =>
  P M _ _ (R.new n) (.lst upd_same (R.nm n) (r.exd (exd_new n)))
theorem Pst.tup (P : Pst L B σ ρ ω (.tuple ds) Q) (R : RS L B M σ H ρ ω) {xs : List V} (r : RpA L.K H M xs ds) : ∀ p, H p = none → Q (.ref p) (upd H p (.tup xs)) := fun p n =>
  P M _ _ (R.new n) (.tup upd_same (R.nm n) (r.exd (exd_new n)))
mutual
theorem Rp.dp {K : PySem.W.Frag} : ∀ {v : V} {d : D}, Rp K H M v d → d.canLay0 = true → Dp K H v d
  | _, _, .non, _ => .non
  | _, _, .bl b, _ => .bl b
  | _, _, .int i, _ => .int i
  | _, _, .str x, _ => .str x
  | _, _, .lst h n r, z => .lst (.inl (.inl h)) (RpA.dp r (by simpa [PyData.canLay0] using z))
  | _, _, .tup h n r, z => .tup (.inl (.inl h)) (RpA.dp r (by simpa [PyData.canLay0] using z))
  | _, _, .tupK h r, z => .tup (.inr h) (RpA.dp r (by simpa [PyData.canLay0] using z))
  | _, _, .rf, z => by simp [RF, PyData.canLay0] at z
  | _, _, .fz _ _ _, z => by simp [FZ, PyData.canLay0] at z
theorem RpA.dp {K : PySem.W.Frag} : ∀ {vs : List V} {ds : List D}, RpA K H M vs ds → PyData.canLayAll0 ds = true → DpAll K H vs ds
  | _, _, .nil, _ => .nil
  | _, _, .cons r t, z => by
    simp only [PyData.canLayAll0, Bool.and_eq_true] at z
    exact .cons (Rp.dp r z.1) (RpA.dp t z.2)
end
def OpS (X : Cx) (L : Lv) (f : Value → Value → Sem Value) (g : D → D → Option D) : Prop := ∃ r : R2, OpR X f r ∧
  ∀ {B : Bx} {M : Addr → Prop} {σ : Sg} {H : Hp} {ρ : En} {ω : Om} {v w : V} {c d e : D} {Q : VK}, RS L B M σ H ρ ω → Rp L.K H M v d → Rp L.K H M w e → g d e = some c → Pst L B σ ρ ω c Q → r v w H Q
theorem op_repS : OpR X (binaryOp .Mult) (fun x y H Q => ∃ (z : Str) (n : Int), x = .str z ∧ y = .int n ∧ 2 ≤ n ∧ n ≤ 1000 ∧ 1 ≤ z.length ∧ z.length ≤ 1000 ∧ (repS n.toNat z).length ≤ sizeLine ∧ Q (.str (repS n.toNat z)) H) := by
  intro pins s σ H x y v u Q I rx ry h
  obtain ⟨z, n, rfl, rfl, h1, h2, h3, h4, h5, q⟩ := h
  obtain ⟨t, rfl⟩ := rx
  obtain ⟨t', rfl⟩ := ry
  have hz : ((z.length : Nat) : Int) ≤ 1000 := by omega
  refine PySem.P.mul_str ?_ (fun _ _ => ?_) (fun _ _ => ?_) ?_
  · have e1 : decide (n < -(2 ^ 63 : Int)) = false := decide_eq_false (by omega)
    have e2 : decide (n ≥ 2 ^ 63) = false := decide_eq_false (by omega)
    rw [e1, e2]; rfl
  · have : (1000 : Int) ≤ (2 ^ 63 - 1) / n := by
      rw [Int.le_ediv_iff_mul_le (by omega)]
      omega
    omega
  · show decide (_ > sizeLine) = false
    refine decide_eq_false ?_
    have e : z.length * n.toNat ≤ 1000 * 1000 := Nat.mul_le_mul h4 (by omega)
    have := sizeLine_eq
    omega
  · rw [if_neg (by omega)]
    have e : (n == 1 || z.length == 0) = false := by
      have e1 : (n == 1) = false := by simp; omega
      have e2 : (z.length == 0) = false := by simp; omega
      rw [e1, e2]; rfl
    rw [if_neg (by rw [e]; exact Bool.false_ne_true)]
    exact ⟨h5, .str (repS n.toNat z), H, I.tok _, ⟨_, rfl⟩, q⟩
theorem never {f : Value → Value → Sem Value} : OpR X f (fun _ _ _ _ => False) := by
  intro pins s σ H x y v u Q I rx ry h
  exact h.elim
theorem ops_none {f : Value → Value → Sem Value} {g : D → D → Option D} (h : ∀ d e, g d e = none) : OpS X L f g :=
  ⟨_, never, fun _ _ _ z _ => by rw [h] at z; cases z⟩
theorem nil_of {vs : List V} {ds : List D} {K : PySem.W.Frag} (r : RpA K H M vs ds) (h : vs = []) : ds = [] := by
  subst h
  cases r
  rfl
theorem op_s (hK : X.K = L.K) (op : Operator) : OpS X L (binaryOp op) (binD op) := by
  cases op with
  | Add =>
    refine ⟨_, (op_add.or op_add_str).or (op_cat.or (hK ▸ op_catA)), ?_⟩
    intro B M σ H ρ ω v w c d e Q R rv rw' hc P
    cases d <;> cases e <;> simp only [binD] at hc <;> try cases hc
    · cases rv; cases rw'
      exact .inl (.inl ⟨_, _, rfl, rfl, P M _ _ R (.int _)⟩)
    · split at hc
      · cases hc
        cases rv; cases rw'
        exact .inl (.inr ⟨_, _, rfl, rfl, by assumption, P M _ _ R (.str _)⟩)
      · cases hc
    · split at hc
      · cases hc
        obtain ⟨a, xs, rfl, h1, _, r1⟩ := rv.lsq
        obtain ⟨b, ys, rfl, h2, _, r2⟩ := rw'.lsq
        exact .inr (.inl ⟨a, b, xs, ys, rfl, rfl, h1, h2, by rw [r1.len, r2.len]; assumption, P.lst R (r1.append r2)⟩)
      · cases hc
    · split at hc
      · cases hc
        have rv' := rv
        have rw'' := rw'
        obtain ⟨a, xs, rfl, h1, r1⟩ := rv.sqt
        obtain ⟨b, ys, rfl, h2, r2⟩ := rw'.sqt
        refine .inr (.inr ⟨a, b, xs, ys, rfl, rfl, hK ▸ h1, hK ▸ h2, by rw [r1.len, r2.len]; assumption, fun z => ?_, fun _ z => ?_, fun _ _ => P.tup R (r1.append r2)⟩)
        · rw [nil_of r1 z] at P
          exact P M _ _ R rw''
        · rw [nil_of r2 z, List.append_nil] at P
          exact P M _ _ R rv'
      · cases hc
  | Sub =>
    refine ⟨_, op_sub, ?_⟩
    intro B M σ H ρ ω v w c d e Q R rv rw' hc P
    cases d <;> cases e <;> simp only [binD] at hc <;> try cases hc
    cases rv; cases rw'
    exact ⟨_, _, rfl, rfl, P M _ _ R (.int _)⟩
  | Mult =>
    refine ⟨_, op_mul.or op_repS, ?_⟩
    intro B M σ H ρ ω v w c d e Q R rv rw' hc P
    cases d <;> cases e <;> simp only [binD] at hc <;> try cases hc
    · split at hc <;> cases hc
      cases rv; cases rw'
      exact .inl ⟨_, _, rfl, rfl, by assumption, P M _ _ R (.int _)⟩
    · split at hc <;> cases hc
      rename_i h
      cases rv; cases rw'
      exact .inr ⟨_, _, rfl, rfl, h.1, h.2.1, h.2.2.1, h.2.2.2.1, h.2.2.2.2, P M _ _ R (.str _)⟩
  | FloorDiv =>
    refine ⟨_, op_fdiv, ?_⟩
    intro B M σ H ρ ω v w c d e Q R rv rw' hc P
    cases d <;> cases e <;> simp only [binD] at hc <;> try cases hc
    split at hc <;> cases hc
    cases rv; cases rw'
    exact ⟨_, _, rfl, rfl, by assumption, P M _ _ R (.int _)⟩
  | Mod =>
    refine ⟨_, op_mod, ?_⟩
    intro B M σ H ρ ω v w c d e Q R rv rw' hc P
    cases d <;> cases e <;> simp only [binD] at hc <;> try cases hc
    split at hc <;> cases hc
    cases rv; cases rw'
    exact ⟨_, _, rfl, rfl, by assumption, P M _ _ R (.int _)⟩
  | Pow =>
    refine ⟨_, op_pow, ?_⟩
    intro B M σ H ρ ω v w c d e Q R rv rw' hc P
    cases d <;> cases e <;> simp only [binD] at hc <;> try cases hc
    split at hc <;> cases hc
    cases rv; cases rw'
    exact ⟨_, _, rfl, rfl, by assumption, P M _ _ R (.int _)⟩
  | _ => exact ops_none fun d e => by unfold binD; rfl
theorem ops_int {f : CmpOp} {p : Int → Int → Bool} (h : OpR X (compareOp f) (rI0 fun i j => .bl (p i j))) (g : ∀ i j, cmpD f (.int i) (.int j) = some (.bool (p i j)))
    (n : ∀ d e c, cmpD f d e = some c → ∃ i j, d = .int i ∧ e = .int j) : OpS X L (compareOp f) (cmpD f) := by
  refine ⟨_, h, ?_⟩
  intro B M σ H ρ ω v w c d e Q R rv rw' hc P
  obtain ⟨i, j, rfl, rfl⟩ := n d e c hc
  rw [g] at hc
  cases hc
  cases rv; cases rw'
  exact ⟨_, _, rfl, rfl, P M _ _ R (.bl _)⟩
theorem inD_cases {d e : D} {b : Bool} (h : inD d e = some b) : (∃ c z, d = .str ⟨#[c]⟩ ∧ e = .str z ∧ b = decide (c ∈ z.cps.toList)) ∨ ∃ ds, e = .list ds ∧ SeqAt.shaped d = true ∧ SeqAt.shaped (.list ds) = true ∧ b = ds.any fun z => PyData.eqv z d := by
  unfold inD at h
  split at h
  · cases h
    exact .inl ⟨_, _, rfl, rfl, rfl⟩
  · split at h
    · cases h
      rename_i k
      exact .inr ⟨_, rfl, k.1, k.2, rfl⟩
    · cases h
  · cases h
theorem cmp_s (hK : X.K = L.K) (hu : X.A.units + 65 < cLine) (op : CmpOp) : OpS X L (compareOp op) (cmpD op) := by
  have none_ : (∀ d e, cmpD op d e = none) → OpS X L (compareOp op) (cmpD op) := ops_none
  have int_ : ∀ {p : Int → Int → Bool}, (∀ d e, cmpD op d e = match d, e with | .int i, .int j => some (.bool (p i j)) | _, _ => none) → ∀ d e c, cmpD op d e = some c → ∃ i j, d = .int i ∧ e = .int j := by
    intro p h d e c hc
    rw [h] at hc
    cases d <;> cases e <;> simp only at hc <;> try cases hc
    exact ⟨_, _, rfl, rfl⟩
  cases op with
  | Eq =>
    refine ⟨_, op_eqD (by omega), ?_⟩
    intro B M σ H ρ ω v w c d e Q R rv rw' hc P
    simp only [cmpD, eqD] at hc
    split at hc <;> cases hc
    rename_i h
    exact ⟨d, e, hK ▸ rv.dp (SeqAt.canLay_of_shaped h.1), hK ▸ rw'.dp (SeqAt.canLay_of_shaped h.2), h.1, h.2, P M _ _ R (.bl _)⟩
  | NotEq =>
    refine ⟨_, op_neD (by omega), ?_⟩
    intro B M σ H ρ ω v w c d e Q R rv rw' hc P
    simp only [cmpD, eqD] at hc
    split at hc <;> cases hc
    rename_i h
    exact ⟨d, e, hK ▸ rv.dp (SeqAt.canLay_of_shaped h.1), hK ▸ rw'.dp (SeqAt.canLay_of_shaped h.2), h.1, h.2, P M _ _ R (.bl _)⟩
  | Lt => exact ops_int op_lt (fun _ _ => rfl) (int_ (p := fun i j => decide (i < j)) fun d e => by cases d <;> cases e <;> rfl)
  | LtE => exact ops_int op_le (fun _ _ => rfl) (int_ (p := fun i j => decide (i ≤ j)) fun d e => by cases d <;> cases e <;> rfl)
  | Gt => exact ops_int op_gt (fun _ _ => rfl) (int_ (p := fun i j => decide (j < i)) fun d e => by cases d <;> cases e <;> rfl)
  | GtE => exact ops_int op_ge (fun _ _ => rfl) (int_ (p := fun i j => decide (j ≤ i)) fun d e => by cases d <;> cases e <;> rfl)
  | In =>
    refine ⟨_, op_in_sign.or (op_inD hu), ?_⟩
    intro B M σ H ρ ω v w c d e Q R rv rw' hc P
    simp only [cmpD, Option.map_eq_some_iff] at hc
    obtain ⟨b, hb, rfl⟩ := hc
    rcases inD_cases hb with ⟨k, z, rfl, rfl, rfl⟩ | ⟨ds, rfl, h1, h2, rfl⟩
    · cases rv; cases rw'
      exact .inl ⟨k, z, rfl, rfl, P M _ _ R (.bl _)⟩
    · exact .inr ⟨d, ds, hK ▸ rv.dp (SeqAt.canLay_of_shaped h1), hK ▸ rw'.dp (SeqAt.canLay_of_shaped h2), h1, h2, P M _ _ R (.bl _)⟩
  | NotIn =>
    refine ⟨_, op_notIn_sign.or (op_notInD hu), ?_⟩
    intro B M σ H ρ ω v w c d e Q R rv rw' hc P
    simp only [cmpD, Option.map_eq_some_iff] at hc
    obtain ⟨b, hb, rfl⟩ := hc
    rcases inD_cases hb with ⟨k, z, rfl, rfl, rfl⟩ | ⟨ds, rfl, h1, h2, rfl⟩
    · cases rv; cases rw'
      exact .inl ⟨k, z, rfl, rfl, P M _ _ R (.bl _)⟩
    · exact .inr ⟨d, ds, hK ▸ rv.dp (SeqAt.canLay_of_shaped h1), hK ▸ rw'.dp (SeqAt.canLay_of_shaped h2), h1, h2, P M _ _ R (.bl _)⟩
  | Is => exact none_ fun d e => by unfold cmpD; rfl
  | IsNot => exact none_ fun d e => by unfold cmpD; rfl
end
end Ev
namespace Ev
open L2 PyProof.Rows PySem.Calls PySem.Spec PySem
section
variable {L : Lv} {B : Bx} {M : Addr → Prop} {σ : Sg} {H : Hp} {ρ : En} {ω : Om} {v w : V} {c d e : D} {Q : VK} {X : Cx}
def VPst (L : Lv) (B : Bx) (σ : Sg) (ρ : En) (ω : Om) (x : Sl) (Q : VK) : Prop := ∀ M v H, RS L B M σ H ρ ω → VR L B M σ H ρ ω v x → Q v H
theorem VPst.sh (P : VPst L B σ ρ ω (.sh c) Q) : Pst L B σ ρ ω c Q := fun M v H R r => P M v H R r
theorem VPst.own {ds : List D} (P : VPst L B σ ρ ω (.ow (.list ds)) Q) (R : RS L B M σ H ρ ω) {xs : List V} (r : RpA L.K H M xs ds) : ∀ p, H p = none → Q (.ref p) (upd H p (.lst xs)) := fun p n =>
  P _ _ _ (R.newOwn n r).1 (R.newOwn n r).2
def Bf.val : Bf → Value
  | .abs => .builtin "abs" | .len => .builtin "len" | .all => .builtin "all" | .any => .builtin "any" | .int => .type "int" | .str => .type "str" | .min => .builtin "min" | .list => .type "list"
  | .tuple => .type "tuple" | .sum => .builtin "sum" | .bool => .type "bool" | .max => .builtin "max" | .gcd => .builtin "math.gcd" | .sorted => .builtin "sorted"
def BifS (X : Cx) (L : Lv) (b : Bf) : Prop := ∃ r, CallR X b.val r ∧
  ∀ {B : Bx} {M : Addr → Prop} {σ : Sg} {H : Hp} {ρ : En} {ω : Om} {vs : List V} {ds : List D} {c : Bool × D} {Q : VK}, RS L B M σ H ρ ω → RpA L.K H M vs ds → bifD b ds = some c →
    VPst L B σ ρ ω (if c.1 = true then .ow c.2 else .sh c.2) Q → r vs H Q
theorem toBs_ok {K : PySem.W.Frag} : ∀ {vs : List V} {ds : List D} {bs : List Bool}, RpA K H M vs ds → toBs ds = some bs → vs = bs.map V.bl
  | _, _, _, .nil, h => by
    simp [toBs] at h
    subst h
    rfl
  | _, _, _, .cons (d := .bool b) r t, h => by
    simp only [toBs, Option.map_eq_some_iff] at h
    obtain ⟨cs, h1, rfl⟩ := h
    cases r
    rw [toBs_ok t h1]
    rfl
  | _, _, _, .cons (d := .none) r t, h => by cases h
  | _, _, _, .cons (d := .int _) r t, h => by cases h
  | _, _, _, .cons (d := .str _) r t, h => by cases h
  | _, _, _, .cons (d := .list _) r t, h => by cases h
  | _, _, _, .cons (d := .tuple _) r t, h => by cases h
  | _, _, _, .cons (d := .dict _) r t, h => by cases h
theorem toIs_ok {K : PySem.W.Frag} : ∀ {vs : List V} {ds : List D} {bs : List Int}, RpA K H M vs ds → toIs ds = some bs → vs = bs.map V.int
  | _, _, _, .nil, h => by
    simp [toIs] at h
    subst h
    rfl
  | _, _, _, .cons (d := .int b) r t, h => by
    simp only [toIs, Option.map_eq_some_iff] at h
    obtain ⟨cs, h1, rfl⟩ := h
    cases r
    rw [toIs_ok t h1]
    rfl
  | _, _, _, .cons (d := .none) r t, h => by cases h
  | _, _, _, .cons (d := .bool _) r t, h => by cases h
  | _, _, _, .cons (d := .str _) r t, h => by cases h
  | _, _, _, .cons (d := .list _) r t, h => by cases h
  | _, _, _, .cons (d := .tuple _) r t, h => by cases h
  | _, _, _, .cons (d := .dict _) r t, h => by cases h
theorem toSs_ok {K : PySem.W.Frag} : ∀ {vs : List V} {ds : List D} {bs : List Str}, RpA K H M vs ds → toSs ds = some bs → vs = bs.map V.str
  | _, _, _, .nil, h => by
    simp [toSs] at h
    subst h
    rfl
  | _, _, _, .cons (d := .str b) r t, h => by
    simp only [toSs, Option.map_eq_some_iff] at h
    obtain ⟨cs, h1, rfl⟩ := h
    cases r
    rw [toSs_ok t h1]
    rfl
  | _, _, _, .cons (d := .none) r t, h => by cases h
  | _, _, _, .cons (d := .bool _) r t, h => by cases h
  | _, _, _, .cons (d := .int _) r t, h => by cases h
  | _, _, _, .cons (d := .list _) r t, h => by cases h
  | _, _, _, .cons (d := .tuple _) r t, h => by cases h
  | _, _, _, .cons (d := .dict _) r t, h => by cases h
theorem neverC {f : Value} : CallR X f (fun _ _ _ => False) := by
  intro pins s σ H xs us Q I r h
  exact h.elim
theorem RpA.one {K : PySem.W.Frag} {vs : List V} {d : D} (h : RpA K H M vs [d]) : ∃ v, vs = [v] ∧ Rp K H M v d := by
  cases h with
  | cons r t => cases t; exact ⟨_, rfl, r⟩
theorem RpA.two {K : PySem.W.Frag} {vs : List V} {d e : D} (h : RpA K H M vs [d, e]) : ∃ v w, vs = [v, w] ∧ Rp K H M v d ∧ Rp K H M w e := by
  cases h with
  | cons r t =>
    obtain ⟨w, rfl, q⟩ := t.one
    exact ⟨_, w, rfl, r, q⟩
theorem bif_s (hK : X.K = L.K) (hc : X.calm = true) (b : Bf) : BifS X L b := by
  cases b with
  | abs =>
    refine ⟨_, call_abs, ?_⟩
    intro B M σ H ρ ω vs ds c Q R r h P
    unfold bifD at h
    split at h <;> rename_i z <;> first | cases z | skip
    · cases h
      obtain ⟨v, rfl, q⟩ := r.one
      cases q
      exact ⟨_, rfl, P M _ _ R (.int _)⟩
    · cases h
  | len =>
    refine ⟨_, call_len, ?_⟩
    intro B M σ H ρ ω vs ds c Q R r h P
    unfold bifD at h
    split at h <;> rename_i z <;> first | cases z | skip
    · simp only [Option.map_eq_some_iff] at h
      obtain ⟨n, hn, rfl⟩ := h
      obtain ⟨v, rfl, q⟩ := r.one
      refine ⟨v, n, rfl, ?_, P M _ _ R (.int _)⟩
      unfold lenD at hn
      split at hn
      · cases hn
        obtain ⟨a, xs, rfl, h1, _, r1⟩ := q.lsq
        exact .inl ⟨xs, .of h1, r1.len.symm⟩
      · cases hn
        obtain ⟨a, xs, rfl, h1, r1⟩ := q.sqt
        exact .inr ⟨xs, hK ▸ h1, r1.len.symm⟩
      · split at hn <;> cases hn
        cases q
        exact ⟨by assumption, rfl⟩
      · cases hn
        obtain ⟨a, xs, rfl, h1, _, r1⟩ := q.fzq
        exact .inl ⟨xs, .inl (.inr h1), r1.len.symm⟩
      · cases hn
    · cases h
  | all =>
    refine ⟨_, cr_all hc, ?_⟩
    intro B M σ H ρ ω vs ds c Q R r h P
    unfold bifD at h
    split at h <;> rename_i z <;> first | cases z | skip
    · simp only [Option.map_eq_some_iff] at h
      obtain ⟨n, hn, rfl⟩ := h
      obtain ⟨v, rfl, q⟩ := r.one
      obtain ⟨a, xs, rfl, h1, _, r1⟩ := q.lsq
      have e := toBs_ok r1 hn
      subst e
      exact ⟨a, n, rfl, .of h1, P M _ _ R (.bl _)⟩
    · cases h
  | any =>
    refine ⟨_, cr_any hc, ?_⟩
    intro B M σ H ρ ω vs ds c Q R r h P
    unfold bifD at h
    split at h <;> rename_i z <;> first | cases z | skip
    · simp only [Option.map_eq_some_iff] at h
      obtain ⟨n, hn, rfl⟩ := h
      obtain ⟨v, rfl, q⟩ := r.one
      obtain ⟨a, xs, rfl, h1, _, r1⟩ := q.lsq
      have e := toBs_ok r1 hn
      subst e
      exact ⟨a, n, rfl, .of h1, P M _ _ R (.bl _)⟩
    · cases h
  | int =>
    refine ⟨_, call_int1.or call_int_str, ?_⟩
    intro B M σ H ρ ω vs ds c Q R r h P
    unfold bifD at h
    split at h <;> rename_i z <;> first | cases z | skip
    · cases h
      obtain ⟨v, rfl, q⟩ := r.one
      cases q
      exact .inl (.inl ⟨_, rfl, P M _ _ R (.int _)⟩)
    · cases h
      obtain ⟨v, rfl, q⟩ := r.one
      cases q
      exact .inl (.inr ⟨_, rfl, P M _ _ R (.int _)⟩)
    · split at h
      · simp only [Option.map_eq_some_iff] at h
        obtain ⟨n, hn, rfl⟩ := h
        obtain ⟨v, rfl, q⟩ := r.one
        cases q
        exact .inr ⟨_, n, rfl, hn, by assumption, P M _ _ R (.int _)⟩
      · cases h
    · cases h
  | str =>
    refine ⟨_, call_str_int.or SkE.call_str_str, ?_⟩
    intro B M σ H ρ ω vs ds c Q R r h P
    unfold bifD at h
    split at h <;> rename_i z <;> first | cases z | skip
    · split at h <;> cases h
      obtain ⟨v, rfl, q⟩ := r.one
      cases q
      exact .inl ⟨_, rfl, by assumption, P M _ _ R (.str _)⟩
    · cases h
      obtain ⟨v, rfl, q⟩ := r.one
      cases q
      exact .inr ⟨_, rfl, P M _ _ R (.str _)⟩
    · cases h
  | min =>
    refine ⟨_, call_min2 hc, ?_⟩
    intro B M σ H ρ ω vs ds c Q R r h P
    unfold bifD at h
    split at h <;> rename_i z <;> first | cases z | skip
    · cases h
      obtain ⟨v, w, rfl, q, q'⟩ := r.two
      cases q; cases q'
      exact ⟨_, _, rfl, P M _ _ R (.int _)⟩
    · cases h
  | max =>
    refine ⟨_, call_max2 hc, ?_⟩
    intro B M σ H ρ ω vs ds c Q R r h P
    unfold bifD at h
    split at h <;> rename_i z <;> first | cases z | skip
    · cases h
      obtain ⟨v, w, rfl, q, q'⟩ := r.two
      cases q; cases q'
      exact ⟨_, _, rfl, P M _ _ R (.int _)⟩
    · cases h
  | list =>
    refine ⟨_, call_list_of, ?_⟩
    intro B M σ H ρ ω vs ds c Q R r h P
    unfold bifD at h
    split at h <;> rename_i z <;> first | cases z | skip
    · cases h
      obtain ⟨v, rfl, q⟩ := r.one
      obtain ⟨a, xs, rfl, h1, _, r1⟩ := q.lsq
      exact ⟨a, xs, rfl, .inl (.of h1), VPst.own P R r1⟩
    · cases h
      obtain ⟨v, rfl, q⟩ := r.one
      obtain ⟨a, xs, rfl, h1, r1⟩ := q.sqt
      exact ⟨a, xs, rfl, .inr (hK ▸ h1), VPst.own P R r1⟩
    · cases h
  | tuple =>
    refine ⟨_, call_tuple_of, ?_⟩
    intro B M σ H ρ ω vs ds c Q R r h P
    unfold bifD at h
    split at h <;> rename_i z <;> first | cases z | skip
    · cases h
      obtain ⟨v, rfl, q⟩ := r.one
      obtain ⟨a, xs, rfl, h1, _, r1⟩ := q.lsq
      exact ⟨a, xs, rfl, .inl ⟨.of h1, (VPst.sh P).tup R r1⟩⟩
    · cases h
      obtain ⟨v, rfl, q⟩ := r.one
      have q' := q
      obtain ⟨a, xs, rfl, h1, r1⟩ := q.sqt
      exact ⟨a, xs, rfl, .inr ⟨hK ▸ h1, P M _ _ R q'⟩⟩
    · cases h
  | sum =>
    refine ⟨_, cr_sum hc, ?_⟩
    intro B M σ H ρ ω vs ds c Q R r h P
    unfold bifD at h
    split at h <;> rename_i z <;> first | cases z | skip
    · simp only [Option.map_eq_some_iff] at h
      obtain ⟨n, hn, rfl⟩ := h
      obtain ⟨v, rfl, q⟩ := r.one
      obtain ⟨a, xs, rfl, h1, _, r1⟩ := q.lsq
      have e := toIs_ok r1 hn
      subst e
      exact ⟨a, n, rfl, .of h1, P M _ _ R (.int _)⟩
    · cases h
  | bool =>
    refine ⟨_, call_bool1, ?_⟩
    intro B M σ H ρ ω vs ds c Q R r h P
    unfold bifD at h
    split at h <;> rename_i z <;> first | cases z | skip
    · cases h
      obtain ⟨v, rfl, q⟩ := r.one
      cases q
      exact .inl ⟨_, rfl, P M _ _ R (.bl _)⟩
    · cases h
      obtain ⟨v, rfl, q⟩ := r.one
      cases q
      exact .inr ⟨_, rfl, P M _ _ R (.bl _)⟩
    · cases h
  | gcd =>
    refine ⟨_, neverC, ?_⟩
    intro B M σ H ρ ω vs ds c Q R r h P
    unfold bifD at h
    split at h <;> rename_i z <;> first | cases z | cases h
  | sorted =>
    refine ⟨_, neverC, ?_⟩
    intro B M σ H ρ ω vs ds c Q R r h P
    unfold bifD at h
    split at h <;> rename_i z <;> first | cases z | cases h
def tyN : D → String
  | .none => "NoneType"
  | .bool _ => "bool"
  | .int _ => "int"
  | .str _ => "str"
  | .list _ => "list"
  | .tuple _ => "tuple"
  | .dict _ => "dict"
def Ty.ty : Ty → String
  | .str => "str" | .int => "int" | .bool => "bool" | .list => "list" | .tuple => "tuple" | .dict => "dict"
theorem isD_kit {T : Ty} {d : D} {b : Bool} {K : PySem.W.Frag} (h : isD T d = some b) : PySem.W.kitOne K (.type (tyN d)) (.type T.ty) = some b := by
  refine kit_ty ?_
  cases T <;> cases d <;> simp only [isD] at h <;> cases h <;> (dsimp only [tyN, Ty.ty]; decide +kernel)
theorem Rp.ty {K : PySem.W.Frag} {v : V} {d : D} (r : Rp K H M v d) (hn : ∀ kvs, d ≠ .dict kvs) : TyX K H v (.type (tyN d)) := by
  cases r with
  | non => exact .base .non
  | bl b => exact .base (.bl b)
  | int i => exact .base (.int i)
  | str x => exact .base (.str x)
  | lst h n r => exact .base (.lst h)
  | tup h n r => exact .base (.tup h)
  | tupK h r =>
    obtain ⟨o, _, _, h1, h2, _⟩ := h
    exact .kTuple h1 h2
  | rf => exact absurd rfl (hn _)
  | fz _ _ _ => exact absurd rfl (hn _)
theorem isD_nd {T : Ty} {d : D} {b : Bool} (h : isD T d = some b) : ∀ kvs, d ≠ .dict kvs := by
  intro kvs e
  subst e
  cases T <;> cases h
theorem atI_map {α β : Type} {xs : List α} {ys : List β} {i : Int} {y : β} (l : xs.length = ys.length) (h : atI ys i = some y) (g : ∀ {j : Nat} {y : β}, ys[j]? = some y → ∃ x, xs[j]? = some x) : ∃ (j : Nat) (x : α), atI xs i = some x ∧ ys[j]? = some y ∧ xs[j]? = some x := by
  unfold atI at h ⊢
  rw [l]
  cases e : ixN ys.length i with
  | none => rw [e] at h; cases h
  | some j =>
    rw [e] at h
    obtain ⟨x, hx⟩ := g h
    exact ⟨j, x, hx, h, hx⟩
theorem sub_s (hK : X.K = L.K) (R : RS L B M σ H ρ ω) (rv : Rp L.K H M v d) (rw' : Rp L.K H M w e) (h : subD d e = some c) (P : Pst L B σ ρ ω c Q) : rIx X.K v w H Q := by
  rw [hK]
  cases d <;> cases e <;> simp only [subD] at h <;> try cases h
  · cases rv; cases rw'
    split at h
    · simp only [Option.map_eq_some_iff] at h
      obtain ⟨k, hk, rfl⟩ := h
      exact .inr (.inr ⟨_, _, k, rfl, rfl, by assumption, hk, P M _ _ R (.str _)⟩)
    · cases h
  · cases rw'
    obtain ⟨a, xs, rfl, h1, _, r1⟩ := rv.lsq
    obtain ⟨j, x, e1, e2, e3⟩ := atI_map r1.len h fun q => let ⟨v, q, _⟩ := r1.get q; ⟨v, q⟩
    obtain ⟨x', q1, q2⟩ := r1.get e2
    rw [e3] at q1
    cases q1
    exact .inl ⟨a, xs, _, x, rfl, rfl, .of h1, e1, P M _ _ R q2⟩
  · cases rw'
    obtain ⟨a, xs, rfl, h1, r1⟩ := rv.sqt
    obtain ⟨j, x, e1, e2, e3⟩ := atI_map r1.len h fun q => let ⟨v, q, _⟩ := r1.get q; ⟨v, q⟩
    obtain ⟨x', q1, q2⟩ := r1.get e2
    rw [e3] at q1
    cases q1
    exact .inr (.inl ⟨a, xs, _, x, rfl, rfl, h1, e1, P M _ _ R q2⟩)
def rSl (K : PySem.W.Frag) : V → Option Int → Option Int → Hp → VK → Prop := fun x lo hi H Q => rSlL K x lo hi H Q ∨ (rSlA K x lo hi H Q ∨ rSlS x lo hi H Q)
theorem sl_any : SlR X (rSl X.K) := sl_list.or (sl_tupA.or sl_str)
theorem sl_s (hK : X.K = L.K) {lo hi : Option Int} (R : RS L B M σ H ρ ω) (rv : Rp L.K H M v d) (h : slD d lo hi = some c) (P : Pst L B σ ρ ω c Q) : rSl X.K v lo hi H Q := by
  rw [hK]
  cases d <;> simp only [slD] at h <;> try cases h
  · cases rv
    split at h <;> cases h
    exact .inr (.inr ⟨_, rfl, by assumption, P M _ _ R (.str _)⟩)
  · obtain ⟨a, xs, rfl, h1, _, r1⟩ := rv.lsq
    exact .inl ⟨a, xs, rfl, .of h1, P.lst R (r1.cut lo hi)⟩
  · have rv' := rv
    obtain ⟨a, xs, rfl, h1, r1⟩ := rv.sqt
    refine .inr (.inl ⟨a, xs, rfl, h1, fun z => ?_, fun _ => P.tup R (r1.cut lo hi)⟩)
    refine P M _ _ R ?_
    have e : ∀ l : List D, l.length = xs.length → cutD l lo hi = l := fun l hl => by
      unfold cutD
      rw [hl, z.1, z.2, List.drop_zero, Nat.sub_zero, ← hl, List.take_length]
    rw [e _ r1.len.symm]
    exact rv'
end
end Ev
namespace Ev
open L2 PyProof.Rows PySem.Calls PySem.Spec PySem
/-- a def's promise, kept where nothing guards -/
structure FnG (P : Program) (w : World) (K : PySem.W.Frag) (mg : Str → Option Value) (base : Heap) (CX : CXT) (k : Nat) (f : Addr) (fd : FuncData) (ps : List Str) (sp : Sp) : Prop where
  len : ∀ vs H Q E, sp vs H Q E → vs.length = ps.length
  run : ∀ (A : Around) (outer : List Env) (s : Shared) (H : Hp) (args : Args) (us : List Value) (vs : List V) (Q : VK) (E : XK), Room k A → A.guards = some [] → Env0 P w K mg base A outer s H → BindsTo s fd args (ps.zip us) → Vals vs us → sp vs H Q E →
    codeAny (model P w) A (.call (.ref f) args) (CR CX outer P w H s Q E) s
section
variable {X : Cx} {CX : CXT} {k : Nat} {f C : Addr} {fd : FuncData} {ps ks : List Str} {sp : Sp} {dvs : List V} {ds : List Value} {E : XK} {x m : Str} {p pos apos kpos : Pos} {e o : Expr} {es : List Expr} {ta te : TE} {t : TA}
theorem FnG.mono {P : Program} {w : World} {K : PySem.W.Frag} {mg : Str → Option Value} {base : Heap} {CX : CXT} {j k : Nat} {f : Addr} {fd : FuncData} {ps : List Str} {sp : Sp} (F : FnG P w K mg base CX j f fd ps sp) (h : j ≤ k) :
    FnG P w K mg base CX k f fd ps sp := ⟨F.len, fun A outer s H args us vs Q E hr => F.run A outer s H args us vs Q E (hr.mono h)⟩
theorem FnG.imp {P : Program} {w : World} {K : PySem.W.Frag} {mg : Str → Option Value} {base : Heap} {CX : CXT} {k : Nat} {f : Addr} {fd : FuncData} {ps : List Str} {sp sp' : Sp} (F : FnG P w K mg base CX k f fd ps sp)
    (h : ∀ vs H Q E, sp' vs H Q E → sp vs H Q E) : FnG P w K mg base CX k f fd ps sp' :=
  ⟨fun vs H Q E q => F.len vs H Q E (h _ _ _ _ q), fun A outer s H args us vs Q E hr hg he hb hv hs => F.run A outer s H args us vs Q E hr hg he hb hv (h _ _ _ _ hs)⟩
theorem run_fnG {pins : List (Addr × Obj)} {σ : Sg} {H : Hp} {s : Shared} {Q : VK} {us : List Value} {vs : List V} (F : FnG X.prog X.w X.K X.mg X.base CX k f fd ps sp) (hr : Room k X.A) (hgu : X.A.guards = some []) (hb : L2.Binds X.K fd ps ds) (hd : Vals dvs ds) (hx : Passes CX X E)
    (I : L2.Inv X pins σ H s) (r : Vals vs us) (h : sp (vs ++ dvs) H Q E) : wpAny (model X.prog X.w) X.A (call (.ref f) us) (EP X pins σ Q) X.xe s := by
  have r2 : Vals (vs ++ dvs) (us ++ ds) := r.append hd
  have hl : (us ++ ds).length = ps.length := by rw [← r2.length]; exact F.len _ _ _ _ h
  refine wpAny_call (codeAny_mono (F.run X.A X.stack s H ⟨us, []⟩ (us ++ ds) (vs ++ dvs) Q E hr hgu I.env0 (hb s us I.kIn hl) r2 h) fun r s' hq => ?_)
  cases r with
  | error e => exact hx pins σ H s e s' I hq
  | ok fl =>
    cases fl with
    | ret u => exact I.after hq
    | next => exact False.elim hq
    | brk => exact False.elim hq
    | cont => exact False.elim hq
theorem pe_callG (F : FnG X.prog X.w X.K X.mg X.base CX k f fd ps sp) (hr : Room k X.A) (hgu : X.A.guards = some []) (hg : Gl X x) (hm : X.mg x = some (.ref f)) (hk : PySem.W.keepIn X.K (.ref f) = true) (hb : L2.Binds X.K fd ps ds) (hd : Vals dvs ds) (hx : Passes CX X E)
    (ha : PA X (e :: es) t) (hdb : (x == ("__debug__" : Str)) = false) (he : starEach (e :: es) X.env = (false, eval e X.env) :: starEach es X.env) (hpl : (backTo pos (starEach es X.env)).any (·.1) = false) :
    PE X (.Call (.Name x p) (e :: es) [] pos) (tCall sp dvs E t) := by
  refine ⟨fun pins s σ H Q I h => ?_⟩
  refine wpAny_Call_Name_kw (ld_glob I hg hm ?_ hdb)
  refine PySem.W.callWith_K (h₀ := X.base) I.ok.mod.kin hk (thn (ha.run pos pins s σ H _ I h) fun us s1 ⟨vs, H1, I1, r, q⟩ => ⟨I1.kIn, ?_⟩) he hpl
  exact run_fnG F hr hgu hb hd hx I1 r q
theorem pe_callG0 (F : FnG X.prog X.w X.K X.mg X.base CX k f fd ps sp) (hr : Room k X.A) (hgu : X.A.guards = some []) (hg : Gl X x) (hm : X.mg x = some (.ref f)) (hk : PySem.W.keepIn X.K (.ref f) = true) (hb : L2.Binds X.K fd ps ds) (hd : Vals dvs ds) (hx : Passes CX X E)
    (hdb : (x == ("__debug__" : Str)) = false) : PE X (.Call (.Name x p) [] [] pos) (tCall sp dvs E tNil) := by
  refine ⟨fun pins s σ H Q I h => ?_⟩
  refine wpAny_Call_Name_kw (ld_glob I hg hm ?_ hdb)
  exact PySem.W.callWith_K0 I.kIn hk (run_fnG (us := []) F hr hgu hb hd hx I .nil h)
variable {g : List Value → List Value → List Value} {gV : List V → List V → List V}
theorem run_fnkG {pins : List (Addr × Obj)} {σ : Sg} {H : Hp} {s : Shared} {Q : VK} {us ws : List Value} {vs zs : List V} (F : FnG X.prog X.w X.K X.mg X.base CX k f fd ps sp) (hr : Room k X.A) (hgu : X.A.guards = some []) (hb : KBinds X.K fd ps ks g gV) (hx : Passes CX X E)
    (I : L2.Inv X pins σ H s) (r : Vals vs us) (rz : Vals zs ws) (h : sp (gV vs zs) H Q E) : wpAny (model X.prog X.w) X.A (call (.ref f) us (ks.zip ws)) (EP X pins σ Q) X.xe s := by
  have r2 := hb.rel r rz
  have hl : (g us ws).length = ps.length := by rw [← r2.length]; exact F.len _ _ _ _ h
  refine wpAny_call (codeAny_mono (F.run X.A X.stack s H ⟨us, ks.zip ws⟩ (g us ws) (gV vs zs) Q E hr hgu I.env0 (hb.to s us ws I.kIn hl) r2 h) fun r s' hq => ?_)
  cases r with
  | error e => exact hx pins σ H s e s' I hq
  | ok fl =>
    cases fl with
    | ret u => exact I.after hq
    | next => exact False.elim hq
    | brk => exact False.elim hq
    | cont => exact False.elim hq
/-- a def of the text by its body -/
theorem fn_ofG {P : Program} {w : World} {K : PySem.W.Frag} {mg : Str → Option Value} {base : Heap} {name qual : Str} {params : Arguments} {body : List Stmt} {scope : Scope} {dV kV doc pm cdv ct oc : Value} {an od : Option Addr}
    {osl : Array (Option Value)} {N : List Str} (lk : K.lookup f = some ⟨oc, od, .func (PySem.W.fnOf name qual params body scope dV kV doc pm an cdv ct), osl⟩) (hcd : PySem.W.codeIn K cdv qual = true) (S : FnScope N ps scope)
    (len : ∀ vs H Q E, sp vs H Q E → vs.length = ps.length)
    (hbody : ∀ (A : Around) (outer : List Env) (s : Shared) (H : Hp) (vs : List V) (Q : VK) (E : XK), Room k (A.deeper (envOfC qual scope s.heap.objs.size f cdv)) → A.guards = some [] → sp vs H Q E →
      ∃ t, PSs (cxOf CX P w K mg base N qual scope f cdv A outer s H E) body t ∧ t { nx := fun _ H' => Q .non H', rt := Q } (L2.start N vs) H) :
    FnG P w K mg base CX (k + 1) f (PySem.W.fnOf name qual params body scope dV kV doc pm an cdv ct) ps sp := by
  refine ⟨len, fun A outer s H args us vs Q E hr hgu e0 hb r hsp => ?_⟩
  have hl := len _ _ _ _ hsp
  have KX : K.In s.heap := e0.mod.kin.keeps fun b o e => (e0.bs b o e).1
  have lim : s.heap.NoLimit := e0.mod.nolimit.keeps fun b o e => (e0.bs b o e).1
  have hkind : ∀ y ∈ ps.zip us, scope.names.lookup y.1 = some .local ∨ (scope.names.lookup y.1 = some .cell ∧ ((cellsFrom (s.heap.objs.size + 1) scope.names []).lookup y.1).isSome = true) := fun ⟨n, v⟩ hy => by
    rcases S.par n (List.of_mem_zip hy).1 with q | q
    · exact .inl q
    · exact .inr ⟨q, PySem.W.cellsFrom_some _ _ _ (.inl q)⟩
  refine codeAny_call_function hr.depth (KX _ _ lk) rfl S.co S.gen rfl (PySem.W.codeRec_of KX hcd) (hb _ _ _ _ ?_)
  refine wpAny_newFunctionEnv_cells S.kind hkind fun env he s1 x => ?_
  subst he
  refine ⟨lim.keeps x.toInCall.keep, codeAny_func ?_⟩
  obtain ⟨t, ht, hq⟩ := hbody A outer s H vs Q E (hr.deeper _) hgu hsp
  have I : L2.Inv (cxOf CX P w K mg base N qual scope f cdv A outer s H E) [] (L2.start N vs) H s1 := inv_start S hr.hd e0 hl r x
  refine wpAny_mono (ht.run [] s1 (L2.start N vs) H _ I hq) (fun fl s' hs => ?_) fun e s' hs => hs
  have fin : ∀ {σ' : Sg} {H' : Hp} {v : V} {u : Value}, L2.Inv (cxOf CX P w K mg base N qual scope f cdv A outer s H E) [] σ' H' s' → RelV v u → Q v H' → CE outer P w H s Q u s' :=
    fun {σ' H' v u} J rv q => ⟨v, H', J.os, J.bare, J.base, J.hok, rv, q⟩
  cases fl with
  | ret u =>
    obtain ⟨v, σ', H', J, rv, q⟩ := hs
    exact fin J rv q
  | next =>
    obtain ⟨σ', H', J, q⟩ := hs
    exact fin (v := V.non) (u := Value.none) J rfl q
  | brk =>
    obtain ⟨_, _, _, q⟩ := hs
    exact False.elim q
  | cont =>
    obtain ⟨_, _, _, q⟩ := hs
    exact False.elim q
end
end Ev
namespace Ev
open L2 PyProof.Rows PySem.Calls PySem.Spec PySem
theorem got_imp {α : Type} {o : Option α} {k k' : α → Prop} (h : got o k) (f : ∀ a, k a → k' a) : got o k' := let ⟨a, e, q⟩ := h; ⟨a, e, f a q⟩
theorem rdV_imp {ρ : En} {i : Nat} {k k' : D → En → Prop} (h : rdV ρ i k) (f : ∀ d ρ, k d ρ → k' d ρ) : rdV ρ i k' := by
  unfold rdV at h ⊢
  cases e : ρ[i]? with
  | none => rw [e] at h; exact h
  | some x =>
    rw [e] at h
    cases x with
    | no => exact h
    | sh d => exact f _ _ h
    | ow d => exact f _ _ h
theorem pkV_imp {ρ : En} {i : Nat} {k k' : D → Prop} (h : pkV ρ i k) (f : ∀ d, k d → k' d) : pkV ρ i k' := by
  unfold pkV at h ⊢
  cases e : ρ[i]? with
  | none => rw [e] at h; exact h
  | some x =>
    rw [e] at h
    cases x with
    | no => exact h
    | sh d => exact f _ h
    | ow d => exact f _ h
theorem upV_iff {ρ : En} {i : Nat} {k : List D → (List D → En) → Prop} : upV ρ i k ↔ ∃ xs, ρ[i]? = some (.ow (.list xs)) ∧ k xs fun ys => ρ.set i (.ow (.list ys)) := by
  unfold upV
  constructor
  · intro h
    split at h
    · exact ⟨_, by assumption, h⟩
    · exact h.elim
  · rintro ⟨xs, e, h⟩
    rw [e]
    exact h
theorem bindT_imp : ∀ {tg : Tg} {d : D} {ρ : En} {k k' : En → Prop}, bindT tg d ρ k → (∀ ρ, k ρ → k' ρ) → bindT tg d ρ k'
  | .nm _ i _, d, ρ, k, k', h, f => f _ h
  | .tup2 _ _ a b, d, ρ, k, k', ⟨x, y, e, h⟩, f => ⟨x, y, e, bindT_imp h fun ρ h => bindT_imp h f⟩
section
variable {L : Lv}
theorem lcGo_imp {bd : D → En → Om → (Option D → En → Om → Prop) → Prop} (hb : ∀ d ρ ω k k', bd d ρ ω k → (∀ o ρ ω, k o ρ ω → k' o ρ ω) → bd d ρ ω k') :
    ∀ {ds acc : List D} {ρ : En} {ω : Om} {Q Q' : List D → En → Om → Prop}, lcGo bd ds acc ρ ω Q → (∀ ds ρ ω, Q ds ρ ω → Q' ds ρ ω) → lcGo bd ds acc ρ ω Q'
  | [], acc, ρ, ω, Q, Q', h, f => f _ _ _ h
  | d :: ds, acc, ρ, ω, Q, Q', h, f => hb _ _ _ _ _ h fun o ρ ω h => by
    cases o with
    | none => exact lcGo_imp hb h f
    | some x => exact ⟨h.1, lcGo_imp hb h.2 f⟩
/-- the body of a comprehension as lcGo takes it -/
def lcB (L : Lv) (own : List (Str × Nat)) (tg : Tg) (ifs : Exs) (elt : Ex) : D → En → Om → (Option D → En → Om → Prop) → Prop := fun d ρ ω k =>
  bindT tg d (wipeE ρ (own.map (·.2))) fun ρ => evIf L ifs ρ ω (fun b ρ ω => if b = true then ev L elt ρ ω (fun x ρ ω => k (some x.d) ρ ω) (fun _ _ => False) else k none ρ ω)
mutual
theorem ev_mono : ∀ (t : Ex) {ρ : En} {ω : Om} {Q Q' : KQ} {E E' : KX}, ev L t ρ ω Q E → (∀ x ρ ω, Q x ρ ω → Q' x ρ ω) → (∀ x ω, E x ω → E' x ω) → ev L t ρ ω Q' E'
  | .var _ i _, _, _, _, _, _, _, h, f, g => by simp only [ev] at h ⊢; exact rdV_imp h fun d ρ h => f _ _ _ h
  | .non _ _, _, _, _, _, _, _, h, f, g => by simp only [ev] at h ⊢; exact f _ _ _ h
  | .bl _ _ _, _, _, _, _, _, _, h, f, g => by simp only [ev] at h ⊢; exact f _ _ _ h
  | .int _ _ _, _, _, _, _, _, _, h, f, g => by simp only [ev] at h ⊢; exact f _ _ _ h
  | .str _ _ _, _, _, _, _, _, _, h, f, g => by simp only [ev] at h ⊢; exact f _ _ _ h
  | .gc _ _ _, _, _, _, _, _, _, h, f, g => by simp only [ev] at h ⊢; exact got_imp h fun d h => f _ _ _ h
  | .bin _ _ a b, _, _, _, _, _, _, h, f, g => by simp only [ev] at h ⊢; exact ev_mono a h (fun x ρ ω h => ev_mono b h (fun y ρ ω h => got_imp h fun d h => f _ _ _ h) g) g
  | .cmp _ _ a b, _, _, _, _, _, _, h, f, g => by simp only [ev] at h ⊢; exact ev_mono a h (fun x ρ ω h => ev_mono b h (fun y ρ ω h => got_imp h fun d h => f _ _ _ h) g) g
  | .cmp2 _ _ _ a b c, _, _, _, _, _, _, h, f, g => by
    simp only [ev] at h ⊢
    refine ev_mono a h (fun x ρ ω h => ev_mono b h (fun y ρ ω h => got_imp h fun k h => ?_) g) g
    cases k with
    | true =>
      simp only [if_true] at h ⊢
      exact ev_mono c h (fun z ρ ω h => got_imp h fun d h => f _ _ _ h) g
    | false =>
      simp only [Bool.false_eq_true, if_false] at h ⊢
      exact f _ _ _ h
  | .isN _ _ _ _ a, _, _, _, _, _, _, h, f, g => by simp only [ev] at h ⊢; exact ev_mono a h (fun x ρ ω h => got_imp h fun d h => f _ _ _ h) g
  | .emp _ _ _ _ i _, _, _, _, _, _, _, h, f, g => by simp only [ev] at h ⊢; exact pkV_imp h fun d ⟨xs, e, h⟩ => ⟨xs, e, f _ _ _ h⟩
  | .and _ es, _, _, _, _, _, _, h, f, g => by simp only [ev] at h ⊢; exact evAnd_mono es h f g
  | .or _ es, _, _, _, _, _, _, h, f, g => by simp only [ev] at h ⊢; exact evOr_mono es h f g
  | .not _ a, _, _, _, _, _, _, h, f, g => by simp only [ev] at h ⊢; exact ev_mono a h (fun x ρ ω h => got_imp h fun d h => f _ _ _ h) g
  | .ife _ c a b, _, _, _, _, _, _, h, f, g => by
    simp only [ev] at h ⊢
    refine ev_mono c h (fun x ρ ω h => got_imp h fun k h => ?_) g
    cases k with
    | true =>
      simp only [if_true] at h ⊢
      exact ev_mono a h f g
    | false =>
      simp only [Bool.false_eq_true, if_false] at h ⊢
      exact ev_mono b h f g
  | .call _ _ _ _ es, _, _, _, _, _, _, h, f, g => by simp only [ev] at h ⊢; exact evs_mono es h (fun ds ρ ω h => L.cm (fun x ω h => f _ _ _ h) g h) g
  | .callK _ _ _ _ _ _ e, _, _, _, _, _, _, h, f, g => by simp only [ev] at h ⊢; exact ev_mono e h (fun ds ρ ω h => L.cm (fun x ω h => f _ _ _ h) g h) g
  | .bi _ _ _ es, _, _, _, _, _, _, h, f, g => by simp only [ev] at h ⊢; exact evs_mono es h (fun ds ρ ω h => got_imp h fun d h => f _ _ _ h) g
  | .isi _ _ a _ _, _, _, _, _, _, _, h, f, g => by simp only [ev] at h ⊢; exact ev_mono a h (fun x ρ ω h => got_imp h fun d h => f _ _ _ h) g
  | .isi2 _ _ a _ _ _ _ _ _, _, _, _, _, _, _, h, f, g => by simp only [ev] at h ⊢; exact ev_mono a h (fun x ρ ω h => got_imp h fun d h => got_imp h fun e h => f _ _ _ h) g
  | .sub _ a b, _, _, _, _, _, _, h, f, g => by simp only [ev] at h ⊢; exact ev_mono a h (fun x ρ ω h => ev_mono b h (fun y ρ ω h => got_imp h fun d h => f _ _ _ h) g) g
  | .slL _ _ a b, _, _, _, _, _, _, h, f, g => by simp only [ev] at h ⊢; exact ev_mono a h (fun x ρ ω h => ev_mono b h (fun y ρ ω h => got_imp h fun d h => got_imp h fun e h => f _ _ _ h) g) g
  | .slH _ _ a b, _, _, _, _, _, _, h, f, g => by simp only [ev] at h ⊢; exact ev_mono a h (fun x ρ ω h => ev_mono b h (fun y ρ ω h => got_imp h fun d h => got_imp h fun e h => f _ _ _ h) g) g
  | .slB _ _ a b c, _, _, _, _, _, _, h, f, g => by
    simp only [ev] at h ⊢
    exact ev_mono a h (fun x ρ ω h => ev_mono b h (fun y ρ ω h => got_imp h fun d h => ev_mono c h (fun z ρ ω h => got_imp h fun d h => got_imp h fun e h => f _ _ _ h) g) g) g
  | .tup _ _ es, _, _, _, _, _, _, h, f, g => by simp only [ev] at h ⊢; exact evs_mono es h (fun ds ρ ω h => ⟨h.1, f _ _ _ h.2⟩) g
  | .lst _ es, _, _, _, _, _, _, h, f, g => by simp only [ev] at h ⊢; exact evs_mono es h (fun ds ρ ω h => ⟨h.1, f _ _ _ h.2⟩) g
  | .join _ _ a b, _, _, _, _, _, _, h, f, g => by simp only [ev] at h ⊢; exact ev_mono a h (fun x ρ ω h => ev_mono b h (fun y ρ ω h => got_imp h fun d h => f _ _ _ h) g) g
  | .pop _ _ _ i _, _, _, _, _, _, _, h, f, g => by
    simp only [ev, upV_iff] at h ⊢
    obtain ⟨xs, e, h⟩ := h
    exact ⟨xs, e, got_imp h fun d h => f _ _ _ h⟩
  | .reprEq _ _ _ _ _ a b, _, _, _, _, _, _, h, f, g => by simp only [ev] at h ⊢; exact ev_mono a h (fun x ρ ω h => ⟨h.1, ev_mono b h.2 (fun y ρ ω h => ⟨h.1, f _ _ _ h.2⟩) g⟩) g
  | .bad _ _ _ _, _, _, _, _, _, _, h, f, g => by simp only [ev] at h
  | .usub _ a, _, _, _, _, _, _, h, f, g => by simp only [ev] at h ⊢; exact ev_mono a h (fun x ρ ω h => got_imp h fun d h => f _ _ _ h) g
  | .subv _ _ _ _ e, _, _, _, _, _, _, h, f, g => by simp only [ev] at h ⊢; exact ⟨h.1, ev_mono e h.2 (fun x ρ ω h => pkV_imp h fun d ⟨ds, e1, h⟩ => ⟨ds, e1, got_imp h fun d h => got_imp h fun d h => f _ _ _ h⟩) g⟩
  | .dk _ a _ _ _, _, _, _, _, _, _, h, f, g => by simp only [ev] at h ⊢; exact ev_mono a h (fun x ρ ω ⟨b, fs, e1, e2, d, e3, h⟩ => ⟨b, fs, e1, e2, d, e3, f _ _ _ h⟩) g
  | .dkEmp _ _ _ _ a _ _ _, _, _, _, _, _, _, h, f, g => by simp only [ev] at h ⊢; exact ev_mono a h (fun x ρ ω ⟨b, fs, e1, e2, d, ds, e3, h⟩ => ⟨b, fs, e1, e2, d, ds, e3, f _ _ _ h⟩) g
  | .dkPop0 _ _ _ a _ _ _ _ _, _, _, _, _, _, _, h, f, g => by simp only [ev] at h ⊢; exact ev_mono a h (fun x ρ ω ⟨b, fs, e1, e2, d, ds, dd, e3, h⟩ => ⟨b, fs, e1, e2, d, ds, dd, e3, f _ _ _ h⟩) g
  | .dNew _ _ _ _ _ _ es, _, _, _, _, _, _, h, f, g => by simp only [ev] at h ⊢; exact ⟨h.1, evs_mono es h.2 (fun ds ρ ω ⟨d, e, h⟩ => ⟨d, e, fun a b n => f _ _ _ (h a b n)⟩) g⟩
  | .lNew _, _, _, _, _, _, _, h, f, g => by simp only [ev] at h ⊢; exact fun a n => f _ _ _ (h a n)
  | .word _ _ _ _ _ _ _ _ _ es, _, _, _, _, _, _, h, f, g => by simp only [ev] at h ⊢; exact evs_mono es h (fun ds ρ ω h => L.cm (fun x ω h => f _ _ _ h) (fun x ω h => got_imp h fun d h => f _ _ _ h) h) fun _ _ h => h
  | .cTup _ _ a, _, _, _, _, _, _, h, f, g => by simp only [ev] at h ⊢; exact ev_mono a h (fun x ρ ω ⟨b, ds, e1, e2, h⟩ => ⟨b, ds, e1, e2, f _ _ _ h⟩) g
  | .lc _ _ own tg it ifs elt, _, _, _, _, _, _, h, f, g => by
    simp only [ev] at h ⊢
    refine evI_mono it h (fun ds ρ ω h => ?_) g
    refine lcGo_imp ?_ h fun acc ρ ω h => f _ _ _ h
    intro d ρ ω k k' h f
    refine bindT_imp h fun ρ h => evIf_mono ifs h fun b ρ ω h => ?_
    cases b with
    | true =>
      simp only [if_true] at h ⊢
      exact ev_mono elt h (fun x ρ ω h => f _ _ _ h) fun _ _ h => h
    | false =>
      simp only [Bool.false_eq_true, if_false] at h ⊢
      exact f _ _ _ h
theorem evs_mono : ∀ (t : Exs) {ρ : En} {ω : Om} {Q Q' : List D → En → Om → Prop} {E E' : KX}, evs L t ρ ω Q E → (∀ x ρ ω, Q x ρ ω → Q' x ρ ω) → (∀ x ω, E x ω → E' x ω) → evs L t ρ ω Q' E'
  | .nil, _, _, _, _, _, _, h, f, g => by simp only [evs] at h ⊢; exact f _ _ _ h
  | .cons a b, _, _, _, _, _, _, h, f, g => by simp only [evs] at h ⊢; exact ev_mono a h (fun x ρ ω h => evs_mono b h (fun ds ρ ω h => f _ _ _ h) g) g
theorem evAnd_mono : ∀ (t : Exs) {ρ : En} {ω : Om} {Q Q' : KQ} {E E' : KX}, evAnd L t ρ ω Q E → (∀ x ρ ω, Q x ρ ω → Q' x ρ ω) → (∀ x ω, E x ω → E' x ω) → evAnd L t ρ ω Q' E'
  | .nil, _, _, _, _, _, _, h, f, g => by simp only [evAnd] at h
  | .cons a .nil, _, _, _, _, _, _, h, f, g => by simp only [evAnd] at h ⊢; exact ev_mono a h (fun x ρ ω h => got_imp h fun d h => f _ _ _ h) g
  | .cons a (.cons b c), _, _, _, _, _, _, h, f, g => by
    simp only [evAnd] at h ⊢
    refine ev_mono a h (fun x ρ ω h => got_imp h fun k h => ?_) g
    cases k with
    | true =>
      simp only [if_true] at h ⊢
      exact evAnd_mono (.cons b c) h f g
    | false =>
      simp only [Bool.false_eq_true, if_false] at h ⊢
      exact f _ _ _ h
theorem evOr_mono : ∀ (t : Exs) {ρ : En} {ω : Om} {Q Q' : KQ} {E E' : KX}, evOr L t ρ ω Q E → (∀ x ρ ω, Q x ρ ω → Q' x ρ ω) → (∀ x ω, E x ω → E' x ω) → evOr L t ρ ω Q' E'
  | .nil, _, _, _, _, _, _, h, f, g => by simp only [evOr] at h
  | .cons a .nil, _, _, _, _, _, _, h, f, g => by simp only [evOr] at h ⊢; exact ev_mono a h (fun x ρ ω h => got_imp h fun d h => f _ _ _ h) g
  | .cons a (.cons b c), _, _, _, _, _, _, h, f, g => by
    simp only [evOr] at h ⊢
    refine ev_mono a h (fun x ρ ω h => got_imp h fun k h => ?_) g
    cases k with
    | true =>
      simp only [if_true] at h ⊢
      exact f _ _ _ h
    | false =>
      simp only [Bool.false_eq_true, if_false] at h ⊢
      exact evOr_mono (.cons b c) h f g
theorem evIf_mono : ∀ (t : Exs) {ρ : En} {ω : Om} {Q Q' : Bool → En → Om → Prop}, evIf L t ρ ω Q → (∀ x ρ ω, Q x ρ ω → Q' x ρ ω) → evIf L t ρ ω Q'
  | .nil, _, _, _, _, h, f => by simp only [evIf] at h ⊢; exact f _ _ _ h
  | .cons a .nil, _, _, _, _, h, f => by simp only [evIf] at h ⊢; exact ev_mono a h (fun x ρ ω h => got_imp h fun d h => f _ _ _ h) fun _ _ h => h
  | .cons a (.cons b c), _, _, _, _, h, f => by simp only [evIf] at h
theorem evI_mono : ∀ (t : It') {ρ : En} {ω : Om} {Q Q' : List D → En → Om → Prop} {E E' : KX}, evI L t ρ ω Q E → (∀ x ρ ω, Q x ρ ω → Q' x ρ ω) → (∀ x ω, E x ω → E' x ω) → evI L t ρ ω Q' E'
  | .val e, _, _, _, _, _, _, h, f, g => by simp only [evI] at h ⊢; exact ev_mono e h (fun x ρ ω h => got_imp h fun d h => f _ _ _ h) g
  | .rng _ _ e, _, _, _, _, _, _, h, f, g => by simp only [evI] at h ⊢; exact ev_mono e h (fun x ρ ω h => got_imp h fun d h => ⟨h.1, f _ _ _ h.2⟩) g
  | .enumRev _ _ _ _ e, _, _, _, _, _, _, h, f, g => by simp only [evI] at h ⊢; exact ev_mono e h (fun x ρ ω ⟨d, e, h⟩ => ⟨d, e, f _ _ _ h⟩) g
end
end
end Ev
namespace Ev
open L2 PyProof.Rows PySem.Calls PySem.Spec PySem
structure Tab where
  gN : Nat → Option Str
  fN : Nat → Option (Str × Nat)
  fP : Nat → Option Str
  cN : Nat → Option (Str × Nat)
  wN : Option Str
def Tab.off (T : Tab) : Tab := { T with wN := none }
def Tab.w5 (T : Tab) : Nat := match T.wN with
  | some _ => 5
  | none => 0
def bNames : List Str := (["abs", "len", "all", "any", "int", "str", "min", "list", "tuple", "sum"] : List Str) ++ (["bool", "max", "isinstance", "range", "enumerate", "reversed", "repr", "dict", "sorted"] : List Str)
def visB (sc : Scope) (x : Str) : Bool := match sc.names.lookup x with
  | some .local => true
  | some .cell => true
  | some .free => true
  | _ => false
def locB (sc : Scope) (fb : Str → Bool) (x : Str) : Bool := match sc.names.lookup x with
  | some .local => true
  | some .cell => fb x
  | _ => false
def glB (sc : Scope) (x : Str) : Bool := match sc.names.lookup x with
  | some .globalImplicit => x != "__debug__"
  | _ => false
def nmB (N : List Str) (i : Nat) (x : Str) : Bool := decide (N[i]? = some x)
def varB (N : List Str) (sc : Scope) (i : Nat) (x : Str) : Bool := nmB N i x && visB sc x && !(x == ("__debug__" : Str)) && !(x == ("__classdict__" : Str))
def wfT (N : List Str) (sc : Scope) (fb : Str → Bool) : Tg → Bool
  | .nm _ i x => nmB N i x && locB sc fb x
  | .tup2 _ _ a b => wfT N sc fb a && wfT N sc fb b
def Ex.isStr : Ex → Bool
  | .str _ _ _ => true
  | _ => false
def Ex.noSup : Ex → Bool
  | .call _ _ _ _ _ => false
  | .bi _ _ _ _ => false
  | .bad _ _ _ _ => false
  | _ => true
def Ex.isLc : Ex → Bool
  | .lc _ _ _ _ _ _ _ => true
  | _ => false
def Tg.ixs : Tg → List Nat
  | .nm _ i _ => [i]
  | .tup2 _ _ a b => a.ixs ++ b.ixs
def Tg.isTup : Tg → Bool
  | .tup2 _ _ _ _ => true
  | _ => false
mutual
def wf (N : List Str) : Tab → Scope → (Str → Bool) → Ex → Bool
  | T, sc, fb, .var _ i x => varB N sc i x
  | T, _, _, .non _ _ => true
  | T, _, _, .bl _ _ _ => true
  | T, _, _, .int _ _ _ => true
  | T, _, _, .str _ _ _ => true
  | T, sc, fb, .gc _ x g => glB sc x && decide (T.gN g = some x)
  | T, sc, fb, .bin _ _ a b => wf N T sc fb a && wf N T sc fb b
  | T, sc, fb, .cmp _ _ a b => wf N T sc fb a && wf N T sc fb b
  | T, sc, fb, .cmp2 _ _ _ a b c => wf N T sc fb a && wf N T sc fb b && wf N T sc fb c
  | T, sc, fb, .isN _ _ _ _ a => wf N T sc fb a
  | T, sc, fb, .emp _ _ _ _ i x => varB N sc i x
  | T, sc, fb, .and _ es => wfs N T sc fb es
  | T, sc, fb, .or _ es => wfs N T sc fb es
  | T, sc, fb, .not _ a => wf N T sc fb a
  | T, sc, fb, .ife _ c a b => wf N T sc fb c && wf N T sc fb a && wf N T sc fb b
  | T, sc, fb, .call _ _ x f es => glB sc x && decide (T.fN f = some (x, es.len)) && wfs N T sc fb es
  | T, sc, fb, .callK _ _ x f k _ e => glB sc x && decide (T.fN f = some (x, 1)) && decide (T.fP f = some k) && wf N T sc fb e
  | T, sc, fb, .bi _ _ b es => glB sc b.name && !(decide (b = .gcd)) && !(decide (es.len = 0)) && wfs N T sc fb es
  | T, sc, fb, .isi _ _ a _ T' => glB sc "isinstance" && glB sc T'.name && wf N T sc fb a
  | T, sc, fb, .isi2 _ _ a _ _ _ _ T1 T2 => glB sc "isinstance" && glB sc T1.name && glB sc T2.name && wf N T sc fb a
  | T, sc, fb, .sub _ a b => wf N T sc fb a && wf N T sc fb b
  | T, sc, fb, .slL _ _ a b => wf N T sc fb a && wf N T sc fb b
  | T, sc, fb, .slH _ _ a b => wf N T sc fb a && wf N T sc fb b
  | T, sc, fb, .slB _ _ a b c => wf N T sc fb a && wf N T sc fb b && wf N T sc fb c
  | T, sc, fb, .tup _ _ es => wfs N T sc fb es
  | T, sc, fb, .lst _ es => wfs N T sc fb es
  | T, sc, fb, .join p pa a b => (pa.endLine == p.line) && a.isStr && wf N T sc fb a && wf N T sc fb b
  | T, sc, fb, .pop p pa _ i x => (pa.endLine == p.line) && varB N sc i x
  | T, sc, fb, .reprEq _ _ _ _ _ a b => glB sc "repr" && wf N T sc fb a && wf N T sc fb b
  | T, _, _, .bad _ _ _ _ => true
  | T, sc, fb, .usub _ a => wf N T sc fb a
  | T, sc, fb, .subv _ _ i x e => varB N sc i x && wf N T sc fb e
  | T, sc, fb, .dk _ a _ _ _ => wf N T sc fb a
  | T, sc, fb, .dkEmp _ _ _ _ a _ _ _ => wf N T sc fb a
  | T, sc, fb, .dkPop0 p pa _ a _ _ _ _ _ => (pa.endLine == p.line) && wf N T sc fb a
  | T, sc, fb, .dNew _ k0 _ i x ks es => varB N sc i x && decide (ks.length = es.len) && decide (ks.length ≤ 14) && decide ((k0.1 :: ks.map (·.1)).Nodup) && wfs N T sc fb es
  | T, _, _, .lNew _ => true
  | T, sc, fb, .word _ _ x s _ _ _ bx f es => glB sc x && decide (T.wN = some x) && LamX.lamSB sc s && glB s bx && decide (T.fN f = some (bx, es.len)) && wfs N (Tab.off T) s (fun _ => false) es
  | T, sc, fb, .cTup _ _ a => glB sc "tuple" && wf N T sc fb a
  | T, sc, fb, .lc _ s own tg it ifs elt => blkC N sc s own && tg.ixs.all (fun i => (own.map (·.2)).contains i) && wfI N T sc fb tg.isTup it &&
      wfT N (relS s sc) (fun x => s.names.lookup x == some .cell) tg && wfs N (Tab.off T) (relS s sc) (fun x => s.names.lookup x == some .cell) ifs && wf N (Tab.off T) (relS s sc) (fun x => s.names.lookup x == some .cell) elt
def wfs (N : List Str) : Tab → Scope → (Str → Bool) → Exs → Bool
  | T, _, _, .nil => true
  | T, sc, fb, .cons a b => wf N T sc fb a && wfs N T sc fb b
def wfI (N : List Str) : Tab → Scope → (Str → Bool) → Bool → It' → Bool
  | T, sc, fb, _, .val e => wf N T sc fb e
  | T, sc, fb, _, .rng _ _ e => glB sc "range" && wf N T sc fb e
  | T, sc, fb, tp, .enumRev _ _ _ _ e => tp && glB sc "enumerate" && glB sc "reversed" && wf N T sc fb e
end
section
variable (L : Lv)
def PQ (B : Bx) (σ : Sg) (Q : VK) : KQ := fun x ρ ω => ∀ M v H, RS L B M σ H ρ ω → VR L B M σ H ρ ω v x → Q v H
def PX (B : Bx) (E : XK) : KX := fun x ω => ∀ M H c d, Aft L B H ω M → XR L H M x c d → E c d H
def PB (B : Bx) (σ : Sg) (Q : Bool → Hp → Prop) : KQ := fun x ρ ω => got (toB x.d) fun k => ∀ M H, RS L B M σ H ρ ω → Q k H
def PL (B : Bx) (σ : Sg) (Q : List V → Hp → Prop) : List D → En → Om → Prop := fun ds ρ ω => ∀ M vs H, RS L B M σ H ρ ω → RpA L.K H M vs ds → Q vs H
def rdQ (E : XK) (f : En → Om → KQ → KX → Prop) : TE := fun σ H Q => ∃ B M ρ ω, RS L B M σ H ρ ω ∧ f ρ ω (PQ L B σ Q) (PX L B E)
def rd (E : XK) (t : Ex) : TE := rdQ L E (ev L t)
def rdTQ (E : XK) (f : En → Om → KQ → KX → Prop) : TT := fun σ H Q => ∃ B M ρ ω, RS L B M σ H ρ ω ∧ f ρ ω (PB L B σ Q) (PX L B E)
def rdT (E : XK) (t : Ex) : TT := rdTQ L E (ev L t)
def rdA (E : XK) (t : Exs) : TA := fun σ H Q => ∃ B M ρ ω, RS L B M σ H ρ ω ∧ evs L t ρ ω (PL L B σ Q) (PX L B E)
/-- what a walk's items are, turn by turn -/
def Wk (hs : List (V × D)) (J : It) (ds : List D) : Prop := ∀ (B : Bx), (∀ q ∈ hs, q ∈ B.hold) → ∀ (i : Nat) (M : Addr → Prop) (σ : Sg) (H : Hp) (ρ : En) (ω : Om), RS L B M σ H ρ ω →
  (∀ d, ds[i]? = some d → J.go i H ∧ ∀ x H', J.yld i H x H' → ∃ M', RS L B M' σ H' ρ ω ∧ Rp L.K H' M' x d) ∧ (ds.length ≤ i → J.stop i H)
def rdI (E : XK) (t : It') : TI := fun σ H R => ∃ B M ρ ω, RS L B M σ H ρ ω ∧ evI L t ρ ω (fun ds ρ ω => ∀ h M J H, RS L { B with hold := h ++ B.hold } M σ H ρ ω → Wk L h J ds → R J H) (PX L B E)
def spF (f n : Nat) : Sp := fun vs H Q E => vs.length = n ∧ ∃ ds M ω, Am L.K ω H M ∧ (∀ a, fo ω a → M a) ∧ (∀ a, M a → ∃ o, H a = some o ∧ Mk o) ∧ LamX.Tabs L.tb H ∧ RpA L.K H M vs ds ∧
  L.cl f ds ω (fun x ω' => ∀ M' v H', Aft L (.at H ω M) H' ω' M' → (match x with
    | .no => False
    | .sh d => Rp L.K H' M' v d
    | .ow d => ∃ a, v = .ref a ∧ OwA L (.at H ω M) M' H' ω' a d) → Q v H') (fun x ω' => ∀ M' H' c d, Aft L (.at H ω M) H' ω' M' → XR L H' M' x c d → E c d H')
def spR (f : Nat) : List V → Hp → XK → Prop := fun vs H E => ∃ ds M ω, Am L.K ω H M ∧ (∀ a, fo ω a → M a) ∧ (∀ a, M a → ∃ o, H a = some o ∧ Mk o) ∧ LamX.Tabs L.tb H ∧ RpA L.K H M vs ds ∧
  L.cl f ds ω (fun _ _ => False) (fun x ω' => ∀ M' H' c d, Aft L (.at H ω M) H' ω' M' → XR L H' M' x c d → E c d H')
/-- what `_law_word(lambda: f(es))` tells -/
def wordQ (f : Nat) (es : Exs) : En → Om → KQ → KX → Prop := fun ρ ω Q _ => evs L es ρ ω (fun ds ρ ω => L.cl f ds ω (fun x ω => Q (.sh x.d) ρ ω) (fun x ω => got (wordD x) fun d => Q (.sh d) ρ ω)) fun _ _ => False
/-- a call by its arguments and its promise -/
def tActL (f : Nat) (es : Exs) (E : XK) : TE := fun σ H Q => rdA L E0 es σ H fun vs H1 => spF L f es.len vs H1 Q E
/-- the code of a def that makes lambdas -/
structure LmI (X : Cx) : Prop where
  ex : ∃ c P', LamX.TabB X.base X.mg c P' ∧ X.env.code = .ref c ∧ (P', X.env.qual ++ "<lambda>") ∈ L.tb ∧ ∀ p ∈ L.tb, p.1 = P' → p.2 = X.env.qual ++ "<lambda>"
/-- the module's facts -/
structure Fx (T : Tab) (P : Program) (w : World) (K : PySem.W.Frag) (mg : Str → Option Value) (base : Heap) (k : Nat) : Prop where
  hK : K = L.K
  bn : ∀ x ∈ bNames, mg x = none
  gc : ∀ g x d, T.gN g = some x → L.gv g = some d → ∃ u v, mg x = some u ∧ RelV v u ∧ ∀ H M, Rp L.K H M v d
  fn : ∀ f x n, T.fN f = some (x, n) → ∃ a fd ps, mg x = some (.ref a) ∧ PySem.W.keepIn K (.ref a) = true ∧ FnG P w K mg base (L2.CX P w) k a fd ps (spF L f n) ∧ L2.Binds K fd ps [] ∧
    (n = 1 → ∀ y, T.fP f = some y → KBinds K fd ps [y] (fun us ws => us ++ ws) (fun vs zs => vs ++ zs))
  rs : ∀ f x n, T.cN f = some (x, n) → ∀ (X : Cx) (E : XK) (ta : TA) (es : Exs) (p pc pn : Pos), X.prog = P → X.w = w → X.K = K → X.mg = mg → X.calm = true → Room k X.A → Takes X (fun cls d _ H => E cls d H) → Gl X x → es.len = n → PA X (uns es) ta →
    PS X (.Raise (some (.Call (.Name x pn) (uns es) [] pc)) none p) (fun _ σ H => ta σ H fun vs H1 => spR L f vs H1 E)
  wd : ∀ x, T.wN = some x → ∀ (X : Cx) (E : XK) (f : Nat) (es : Exs) (sc : Scope) (p pn lp bp bpn : Pos) (bx : Str), X.prog = P → X.w = w → X.K = K → X.mg = mg → X.base = base → X.calm = true → X.N.Nodup → X.A.guards = some [] → Room (k + 5) X.A → Gl X x → LmI L X → LamX.LamS X.env.scope sc →
    (∀ (A : Around) (outer : List Env) (s : Shared) (H : Hp) (E' : XK) (fa ca : Addr), A.guards = some [] → Room k (A.deeper (LamX.lamEnv X sc s.heap.objs.size fa ca)) → PE (LamX.lamCx X A outer s H E' sc fa ca) (.Call (.Name bx bpn) (uns es) [] bp) (tActL L f es E')) →
    PE X (.Call (.Name x pn) [.Lambda noArgs (.Call (.Name bx bpn) (uns es) [] bp) sc lp] [] p) (rdQ L E (wordQ L f es))
end
/-- where code runs -/
structure Gd (L : Lv) (T : Tab) (X : Cx) (E : XK) : Prop where
  calm : X.calm = true
  nd : X.N.Nodup
  gr : X.A.guards = some []
  px : Passes (L2.CX X.prog X.w) X E
  po : PassesOwn (model X.prog X.w) X.A X.env X.xe
  fx : ∃ k, Fx L T X.prog X.w X.K X.mg X.base k ∧ Room (k + T.w5) X.A
  lm : ∀ x, T.wN = some x → LmI L X
theorem Fx.off {L : Lv} {T : Tab} {P : Program} {w : World} {K : PySem.W.Frag} {mg : Str → Option Value} {base : Heap} {k : Nat} (F : Fx L T P w K mg base k) : Fx L T.off P w K mg base k :=
  ⟨F.hK, F.bn, F.gc, F.fn, F.rs, fun x h => nomatch (show (none : Option Str) = some x from h)⟩
section
variable {X : Cx} {e : Expr} {sts : List Stmt} {st : Stmt}
theorem PE_imp {t t' : TE} (h : PE X e t) (f : ∀ σ H Q, t' σ H Q → t σ H Q) : PE X e t' := ⟨fun pins s σ H Q I q => h.run pins s σ H Q I (f σ H Q q)⟩
theorem PT_imp {t t' : TT} (h : PT X e t) (f : ∀ σ H Q, t' σ H Q → t σ H Q) : PT X e t' := ⟨fun pins s σ H Q I q => h.run pins s σ H Q I (f σ H Q q)⟩
theorem PW_imp {t t' : TT} (h : PW X e t) (f : ∀ σ H Q, t' σ H Q → t σ H Q) : PW X e t' := ⟨fun wh pins s σ H Q I q => h.run wh pins s σ H Q I (f σ H Q q)⟩
theorem PA_imp {es : List Expr} {t t' : TA} (h : PA X es t) (f : ∀ σ H Q, t' σ H Q → t σ H Q) : PA X es t' := ⟨fun pos pins s σ H Q I q => h.run pos pins s σ H Q I (f σ H Q q)⟩
theorem PI_imp {tg : Expr} {t t' : TI} (h : PI X tg e t) (f : ∀ σ H Q, t' σ H Q → t σ H Q) : PI X tg e t' := ⟨fun pins s σ H Q I q => h.run pins s σ H Q I (f σ H Q q)⟩
theorem PS_imp {t t' : TS} (h : PS X st t) (f : ∀ D σ H, t' D σ H → t D σ H) : PS X st t' := ⟨fun pins s σ H D I q => h.run pins s σ H D I (f D σ H q)⟩
theorem PSs_imp {t t' : TS} (h : PSs X sts t) (f : ∀ D σ H, t' D σ H → t D σ H) : PSs X sts t' := ⟨fun pins s σ H D I q => h.run pins s σ H D I (f D σ H q)⟩
end
theorem un_star (a : Ex) (es : List Expr) (env : Env) : starEach (un a :: es) env = (false, eval (un a) env) :: starEach es env := by cases a <;> rfl
theorem uns_star : ∀ (es : Exs) (env : Env) (pos : Pos), (backTo pos (starEach (uns es) env)).any (·.1) = false
  | .nil, env, pos => rfl
  | .cons a b, env, pos => by
    rw [uns, un_star]
    show (false || (backTo pos (starEach (uns b) env)).any (·.1)) = false
    rw [uns_star b env pos]
    rfl
theorem un_mark (op : CmpOp) (a : Ex) : behindInMarks op (un a) = false := by cases a <;> rfl
theorem un_ix (a : Ex) : PlainIx (un a) := by cases a <;> exact fun _ _ => rfl
theorem un_swap (a : Ex) (tg : Option Expr) (l : Nat) (env : Env) (h : a.isLc = false) : swapsWith (un a) tg l env = pure false := by
  cases a <;> first | rfl | cases h
theorem un_base (a : Ex) (m : Str) (env : Env) (h : a.noSup = true) : attributeBase (un a) m env (eval (un a) env) = eval (un a) env := by
  cases a <;> first | rfl | cases h
theorem un_fold (a : Ex) (env : Env) (x : Value) : foldedSetIterable (un a) env x = pure x := by cases a <;> rfl
theorem unI_fold (a : It') (env : Env) (x : Value) : foldedSetIterable (unI a) env x = pure x := by
  cases a with
  | val e => exact un_fold e env x
  | _ => rfl
theorem uns_len : ∀ es : Exs, (uns es).length = es.len
  | .nil => rfl
  | .cons a b => by simp [uns, Exs.len, uns_len b]
end Ev
namespace Ev
open L2 PyProof.Rows PySem.Calls PySem.Spec PySem
section
variable {L : Lv} {X : Cx} {E : XK}
theorem PX.hd {B : Bx} {v : V} {d : D} {x : Xn} {ω : Om} (h : PX L B E x ω) : PX L (B.hd v d) E x ω := fun M H c e A q => h M H c e (A.to rfl rfl rfl) q
theorem rdT_of {f : En → Om → KQ → KX → Prop} (mono : ∀ {ρ ω Q Q' E}, f ρ ω Q E → (∀ x ρ ω, Q x ρ ω → Q' x ρ ω) → f ρ ω Q' E) {σ : Sg} {H : Hp} {Q : Bool → Hp → Prop} (h : rdTQ L E f σ H Q) :
    rdQ L E f σ H fun v H1 => ∃ k, v = .bl k ∧ Q k H1 := by
  obtain ⟨B, M, ρ, ω, R, h⟩ := h
  refine ⟨B, M, ρ, ω, R, mono h fun x ρ ω ⟨k, e, q⟩ M1 v H1 R1 V1 => ?_⟩
  obtain ⟨M2, R2, r, _⟩ := R1.share V1
  cases hd : x.d <;> rw [hd] at e r <;> simp only [toB] at e <;> cases e
  cases r
  exact ⟨_, rfl, q M2 H1 R2⟩
theorem rdT_ev {t : Ex} {σ : Sg} {H : Hp} {Q : Bool → Hp → Prop} (h : rdT L E t σ H Q) : rd L E t σ H fun v H1 => ∃ k, v = .bl k ∧ Q k H1 :=
  rdT_of (f := ev L t) (fun h f => ev_mono t h f fun _ _ h => h) h
theorem two_op {r : R2} {g : D → D → Option D} (hr : ∀ {B : Bx} {M : Addr → Prop} {σ : Sg} {H : Hp} {ρ : En} {ω : Om} {v w : V} {c d e : D} {Q : VK}, RS L B M σ H ρ ω → Rp L.K H M v d → Rp L.K H M w e → g d e = some c → Pst L B σ ρ ω c Q → r v w H Q)
    {a b : Ex} {σ : Sg} {H : Hp} {Q : VK} (h : rdQ L E (fun ρ ω Q E => ev L a ρ ω (fun x ρ ω => ev L b ρ ω (fun y ρ ω => got (g x.d y.d) fun d => Q (.sh d) ρ ω) E) E) σ H Q) : tOp r (rd L E a) (rd L E b) σ H Q := by
  obtain ⟨B, M, ρ, ω, R, h⟩ := h
  refine ⟨B, M, ρ, ω, R, ev_mono a h (fun x ρ1 ω1 h1 M1 v1 H1 R1 V1 => ?_) fun _ _ h => h⟩
  obtain ⟨M1', R1', r1, _⟩ := R1.share V1
  refine ⟨B.hd v1 x.d, M1', ρ1, ω1, R1'.holdIn r1, ev_mono b h1 (fun y ρ2 ω2 h2 M2 v2 H2 R2 V2 => ?_) fun _ _ => PX.hd⟩
  obtain ⟨M2', R2', r2, _⟩ := R2.share V2
  obtain ⟨R3, r1'⟩ := R2'.holdOut
  obtain ⟨d, hd, q⟩ := h2
  exact hr R3 r1' r2 hd fun M v H R r => q M v H R r
theorem s_var {p : Pos} {i : Nat} {x : Str} (h : varB X.N X.env.scope i x = true) : PE X (.Name x p) (tVar i) := by
  simp only [varB, nmB, Bool.and_eq_true, decide_eq_true_eq, Bool.not_eq_true'] at h
  obtain ⟨⟨⟨h1, h2⟩, h3⟩, h4⟩ := h
  refine pe_var h1 ?_ h3 h4
  unfold visB at h2
  unfold Vis
  split at h2 <;> first | (rename_i e; simp [e]) | cases h2
theorem r_var {p : Pos} {i : Nat} {x : Str} {σ : Sg} {H : Hp} {Q : VK} (h : rd L E (.var p i x) σ H Q) : tVar i σ H Q := by
  obtain ⟨B, M, ρ, ω, R, h⟩ := h
  simp only [ev] at h
  obtain ⟨v, d, ρ', M', e, R', r, q⟩ := R.var h
  exact ⟨v, e, q M' v H R' r⟩
theorem r_con {t : Ex} {v : V} {d : D} (ht : ∀ {ρ ω Q E}, ev L t ρ ω Q E → Q (.sh d) ρ ω) (hr : ∀ H M, Rp L.K H M v d) {σ : Sg} {H : Hp} {Q : VK} (h : rd L E t σ H Q) : tC v σ H Q := by
  obtain ⟨B, M, ρ, ω, R, h⟩ := h
  exact ht h M v H R (hr H M)
theorem gl_of {x : Str} (h : glB X.env.scope x = true) : Gl X x ∧ (x == ("__debug__" : Str)) = false := by
  unfold glB at h
  split at h
  · rename_i e
    refine ⟨e, ?_⟩
    cases q : x == ("__debug__" : Str) with
    | false => rfl
    | true =>
      rw [bne, q] at h
      cases h
  · cases h
theorem s_and1 {a : Ex} {p : Pos} (ha : PE X (un a) (rd L E a)) : PE X (.BoolOp .And [un a] p) (rdQ L E (evAnd L (.cons a .nil))) := by
  refine PE_imp (pe_one ha) ?_
  rintro σ H Q ⟨B, M, ρ, ω, R, h⟩
  simp only [evAnd] at h
  refine ⟨B, M, ρ, ω, R, ev_mono a h (fun x ρ1 ω1 ⟨k, e, h1⟩ M1 v1 H1 R1 V1 => ?_) fun _ _ h => h⟩
  obtain ⟨M2, R2, r, _⟩ := R1.share V1
  cases hd : x.d <;> rw [hd] at e r <;> simp only [toB] at e <;> cases e
  cases r
  exact h1 M2 _ H1 R2 (.bl _)
theorem s_or1 {a : Ex} {p : Pos} (ha : PE X (un a) (rd L E a)) : PE X (.BoolOp .Or [un a] p) (rdQ L E (evOr L (.cons a .nil))) := by
  refine PE_imp (pe_one ha) ?_
  rintro σ H Q ⟨B, M, ρ, ω, R, h⟩
  simp only [evOr] at h
  refine ⟨B, M, ρ, ω, R, ev_mono a h (fun x ρ1 ω1 ⟨k, e, h1⟩ M1 v1 H1 R1 V1 => ?_) fun _ _ h => h⟩
  obtain ⟨M2, R2, r, _⟩ := R1.share V1
  cases hd : x.d <;> rw [hd] at e r <;> simp only [toB] at e <;> cases e
  cases r
  exact h1 M2 _ H1 R2 (.bl _)
theorem s_and2 {a b : Ex} {c : Exs} {p : Pos} (ha : PE X (un a) (rd L E a)) (hb : PE X (.BoolOp .And (un b :: uns c) p) (rdQ L E (evAnd L (.cons b c)))) : PE X (.BoolOp .And (un a :: un b :: uns c) p) (rdQ L E (evAnd L (.cons a (.cons b c)))) := by
  refine PE_imp (pe_and ha hb) ?_
  rintro σ H Q ⟨B, M, ρ, ω, R, h⟩
  simp only [evAnd] at h
  refine ⟨B, M, ρ, ω, R, ev_mono a h (fun x ρ1 ω1 ⟨k, e, h1⟩ M1 v1 H1 R1 V1 => ?_) fun _ _ h => h⟩
  obtain ⟨M2, R2, r, _⟩ := R1.share V1
  cases hd : x.d <;> rw [hd] at e r <;> simp only [toB] at e <;> cases e
  cases r
  refine ⟨_, rfl, ?_⟩
  cases k with
  | true =>
    simp only [if_true] at h1 ⊢
    exact ⟨B, M2, ρ1, ω1, R2, h1⟩
  | false =>
    simp only [Bool.false_eq_true, if_false] at h1 ⊢
    exact h1 M2 _ H1 R2 (.bl _)
theorem s_or2 {a b : Ex} {c : Exs} {p : Pos} (ha : PE X (un a) (rd L E a)) (hb : PE X (.BoolOp .Or (un b :: uns c) p) (rdQ L E (evOr L (.cons b c)))) : PE X (.BoolOp .Or (un a :: un b :: uns c) p) (rdQ L E (evOr L (.cons a (.cons b c)))) := by
  refine PE_imp (pe_or ha hb) ?_
  rintro σ H Q ⟨B, M, ρ, ω, R, h⟩
  simp only [evOr] at h
  refine ⟨B, M, ρ, ω, R, ev_mono a h (fun x ρ1 ω1 ⟨k, e, h1⟩ M1 v1 H1 R1 V1 => ?_) fun _ _ h => h⟩
  obtain ⟨M2, R2, r, _⟩ := R1.share V1
  cases hd : x.d <;> rw [hd] at e r <;> simp only [toB] at e <;> cases e
  cases r
  refine ⟨_, rfl, ?_⟩
  cases k with
  | true =>
    simp only [if_true] at h1 ⊢
    exact h1 M2 _ H1 R2 (.bl _)
  | false =>
    simp only [Bool.false_eq_true, if_false] at h1 ⊢
    exact ⟨B, M2, ρ1, ω1, R2, h1⟩
theorem rdT_bool {f : En → Om → KQ → KX → Prop} {B : Bx} {M : Addr → Prop} {σ : Sg} {H : Hp} {ρ : En} {ω : Om} {k : Bool} {Q : Bool → Hp → Prop} (h : PB L B σ Q (.sh (.bool k)) ρ ω) (R : RS L B M σ H ρ ω) : Q k H := by
  obtain ⟨b, e, q⟩ := h
  cases e
  exact q M H R
theorem w_and1 {a : Ex} {p : Pos} (ha : PT X (un a) (rdT L E a)) : PW X (.BoolOp .And [un a] p) (rdTQ L E (evAnd L (.cons a .nil))) := by
  refine PW_imp (pw_and1 ha) ?_
  rintro σ H Q ⟨B, M, ρ, ω, R, h⟩
  simp only [evAnd] at h
  exact ⟨B, M, ρ, ω, R, ev_mono a h (fun x ρ1 ω1 ⟨k, e, h1⟩ => ⟨k, e, fun M1 H1 R1 => rdT_bool (f := ev L a) h1 R1⟩) fun _ _ h => h⟩
theorem w_or1 {a : Ex} {p : Pos} (ha : PT X (un a) (rdT L E a)) : PW X (.BoolOp .Or [un a] p) (rdTQ L E (evOr L (.cons a .nil))) := by
  refine PW_imp (pw_or1 ha) ?_
  rintro σ H Q ⟨B, M, ρ, ω, R, h⟩
  simp only [evOr] at h
  exact ⟨B, M, ρ, ω, R, ev_mono a h (fun x ρ1 ω1 ⟨k, e, h1⟩ => ⟨k, e, fun M1 H1 R1 => rdT_bool (f := ev L a) h1 R1⟩) fun _ _ h => h⟩
theorem w_and2 {a b : Ex} {c : Exs} {p : Pos} (ha : PT X (un a) (rdT L E a)) (hb : PW X (.BoolOp .And (un b :: uns c) p) (rdTQ L E (evAnd L (.cons b c)))) : PW X (.BoolOp .And (un a :: un b :: uns c) p) (rdTQ L E (evAnd L (.cons a (.cons b c)))) := by
  refine PW_imp (pw_and ha hb) ?_
  rintro σ H Q ⟨B, M, ρ, ω, R, h⟩
  simp only [evAnd] at h
  refine ⟨B, M, ρ, ω, R, ev_mono a h (fun x ρ1 ω1 ⟨k, e, h1⟩ => ⟨k, e, fun M1 H1 R1 => ?_⟩) fun _ _ h => h⟩
  cases k with
  | true =>
    simp only [if_true] at h1 ⊢
    exact ⟨B, M1, ρ1, ω1, R1, h1⟩
  | false =>
    simp only [Bool.false_eq_true, if_false] at h1 ⊢
    exact rdT_bool (f := ev L a) h1 R1
theorem w_or2 {a b : Ex} {c : Exs} {p : Pos} (ha : PT X (un a) (rdT L E a)) (hb : PW X (.BoolOp .Or (un b :: uns c) p) (rdTQ L E (evOr L (.cons b c)))) : PW X (.BoolOp .Or (un a :: un b :: uns c) p) (rdTQ L E (evOr L (.cons a (.cons b c)))) := by
  refine PW_imp (pw_or ha hb) ?_
  rintro σ H Q ⟨B, M, ρ, ω, R, h⟩
  simp only [evOr] at h
  refine ⟨B, M, ρ, ω, R, ev_mono a h (fun x ρ1 ω1 ⟨k, e, h1⟩ => ⟨k, e, fun M1 H1 R1 => ?_⟩) fun _ _ h => h⟩
  cases k with
  | true =>
    simp only [if_true] at h1 ⊢
    exact rdT_bool (f := ev L a) h1 R1
  | false =>
    simp only [Bool.false_eq_true, if_false] at h1 ⊢
    exact ⟨B, M1, ρ1, ω1, R1, h1⟩
theorem s_not {a : Ex} {p : Pos} (ha : PE X (un a) (rd L E a)) : PE X (.UnaryOp .Not (un a) p) (rd L E (.not p a)) := by
  refine PE_imp (pe_not ha) ?_
  rintro σ H Q ⟨B, M, ρ, ω, R, h⟩
  simp only [ev] at h
  refine ⟨B, M, ρ, ω, R, ev_mono a h (fun x ρ1 ω1 ⟨k, e, h1⟩ M1 v1 H1 R1 V1 => ?_) fun _ _ h => h⟩
  obtain ⟨M2, R2, r, _⟩ := R1.share V1
  cases hd : x.d <;> rw [hd] at e r <;> simp only [toB] at e <;> cases e
  cases r
  exact ⟨_, rfl, h1 M2 _ H1 R2 (.bl _)⟩
theorem t_not {a : Ex} {p : Pos} (ha : PT X (un a) (rdT L E a)) : PT X (.UnaryOp .Not (un a) p) (rdT L E (.not p a)) := by
  refine PT_imp (pt_not ha) ?_
  rintro σ H Q ⟨B, M, ρ, ω, R, h⟩
  simp only [ev] at h
  exact ⟨B, M, ρ, ω, R, ev_mono a h (fun x ρ1 ω1 ⟨k, e, h1⟩ => ⟨k, e, fun M1 H1 R1 => rdT_bool (f := ev L a) h1 R1⟩) fun _ _ h => h⟩
theorem s_ife {c a b : Ex} {p : Pos} (hc : PT X (un c) (rdT L E c)) (ha : PE X (un a) (rd L E a)) (hb : PE X (un b) (rd L E b)) : PE X (.IfExp (un c) (un a) (un b) p) (rd L E (.ife p c a b)) := by
  refine PE_imp (pe_ifExp hc ha hb) ?_
  rintro σ H Q ⟨B, M, ρ, ω, R, h⟩
  simp only [ev] at h
  refine ⟨B, M, ρ, ω, R, ev_mono c h (fun x ρ1 ω1 ⟨k, e, h1⟩ => ⟨k, e, fun M1 H1 R1 => ?_⟩) fun _ _ h => h⟩
  cases k with
  | true =>
    simp only [if_true] at h1 ⊢
    exact ⟨B, M1, ρ1, ω1, R1, h1⟩
  | false =>
    simp only [Bool.false_eq_true, if_false] at h1 ⊢
    exact ⟨B, M1, ρ1, ω1, R1, h1⟩
theorem t_ife {c a b : Ex} {p : Pos} (hc : PT X (un c) (rdT L E c)) (ha : PT X (un a) (rdT L E a)) (hb : PT X (un b) (rdT L E b)) : PT X (.IfExp (un c) (un a) (un b) p) (rdT L E (.ife p c a b)) := by
  refine ⟨fun pins s σ H Q I h => ?_⟩
  obtain ⟨B, M, ρ, ω, R, h⟩ := h
  simp only [ev] at h
  show wpAny _ _ (do if ← isTrue (un c) X.env (eval (un c) X.env) then isTrue (un a) X.env (eval (un a) X.env) else isTrue (un b) X.env (eval (un b) X.env)) _ _ s
  refine wpAny_bind (thn (hc.run pins s σ H (fun k H1 => if k = true then rdT L E a σ H1 Q else rdT L E b σ H1 Q) I ⟨B, M, ρ, ω, R, ev_mono c h (fun x ρ1 ω1 ⟨k, e, h1⟩ => ⟨k, e, fun M1 H1 R1 => ?_⟩) fun _ _ h => h⟩) fun k s1 ⟨H1, I1, q⟩ => ?_)
  · cases k with
    | true =>
      simp only [if_true] at h1 ⊢
      exact ⟨B, M1, ρ1, ω1, R1, h1⟩
    | false =>
      simp only [Bool.false_eq_true, if_false] at h1 ⊢
      exact ⟨B, M1, ρ1, ω1, R1, h1⟩
  · cases k with
    | true =>
      simp only [if_true] at q ⊢
      exact ha.run pins s1 σ H1 Q I1 q
    | false =>
      simp only [Bool.false_eq_true, if_false] at q ⊢
      exact hb.run pins s1 σ H1 Q I1 q
theorem s_cmp2 (hK : X.K = L.K) (hu : X.A.units + 65 < cLine) {o1 o2 : CmpOp} {a b c : Ex} {p : Pos} (ha : PE X (un a) (rd L E a)) (hb : PE X (un b) (rd L E b)) (hc : PE X (un c) (rd L E c)) :
    ∃ t, PE X (un (.cmp2 o1 o2 p a b c)) t ∧ PT X (un (.cmp2 o1 o2 p a b c)) (tTest t) ∧ ∀ σ H Q, rd L E (.cmp2 o1 o2 p a b c) σ H Q → t σ H Q := by
  obtain ⟨r1, h1, g1⟩ := cmp_s (L := L) hK hu o1
  obtain ⟨r2, h2, g2⟩ := cmp_s (L := L) hK hu o2
  refine ⟨_, pe_chain h1 h2 ha hb hc (un_mark o2 c), pt_chain h1 h2 ha hb hc (un_mark o2 c), ?_⟩
  rintro σ H Q ⟨B, M, ρ, ω, R, h⟩
  simp only [ev] at h
  refine ⟨B, M, ρ, ω, R, ev_mono a h (fun x ρ1 ω1 h1 M1 v1 H1 R1 V1 => ?_) fun _ _ h => h⟩
  obtain ⟨M1', R1', r1, _⟩ := R1.share V1
  refine ⟨B.hd v1 x.d, M1', ρ1, ω1, R1'.holdIn r1, ev_mono b h1 (fun y ρ2 ω2 h2 M2 v2 H2 R2 V2 => ?_) fun _ _ => PX.hd⟩
  obtain ⟨M2', R2', r2, _⟩ := R2.share V2
  obtain ⟨R3, r1'⟩ := R2'.holdOut
  obtain ⟨k, hk, q⟩ := h2
  simp only [Option.bind_eq_some_iff] at hk
  obtain ⟨e, he, hk⟩ := hk
  refine g1 (R2'.holdIn r2) r1' r2 he fun M v H R r => ?_
  obtain ⟨R, r2'⟩ := R.holdOut
  obtain ⟨R, _⟩ := R.holdOut
  cases e <;> simp only [toB] at hk <;> cases hk
  cases r
  refine ⟨_, rfl, ?_⟩
  cases k with
  | true =>
    simp only [if_true] at q ⊢
    refine ⟨B.hd v2 y.d, M, ρ2, ω2, R.holdIn r2', ev_mono c q (fun z ρ3 ω3 h3 M3 v3 H3 R3 V3 => ?_) fun _ _ => PX.hd⟩
    obtain ⟨M3', R3', r3, _⟩ := R3.share V3
    obtain ⟨R4, r2''⟩ := R3'.holdOut
    obtain ⟨d, hd, q⟩ := h3
    exact g2 R4 r2'' r3 hd fun M v H R r => q M v H R r
  | false =>
    simp only [Bool.false_eq_true, if_false] at q ⊢
    exact q M _ H R (.bl _)
theorem s_isN {neg : Bool} {p q : Pos} {k : Nat} {a : Ex} (ha : PE X (un a) (rd L E a)) : ∃ t, PE X (un (.isN neg p k q a)) t ∧ PT X (un (.isN neg p k q a)) (tB t) ∧ ∀ σ H Q, rd L E (.isN neg p k q a) σ H Q → t σ H Q := by
  have go : ∀ {σ : Sg} {H : Hp} {Q : VK}, rd L E (.isN neg p k q a) σ H Q → rd L E a σ H fun v H1 => Q (.bl (decide (v = .non) != neg)) H1 := by
    rintro σ H Q ⟨B, M, ρ, ω, R, h⟩
    simp only [ev] at h
    refine ⟨B, M, ρ, ω, R, ev_mono a h (fun x ρ1 ω1 ⟨b, e, h1⟩ M1 v1 H1 R1 V1 => ?_) fun _ _ h => h⟩
    obtain ⟨M2, R2, r, _⟩ := R1.share V1
    have e2 : b = decide (v1 = .non) := by
      cases hd : x.d <;> rw [hd] at e r <;> simp only [noneD] at e <;> cases e <;> cases r <;> first | rfl | exact (decide_eq_false (by intro z; cases z)).symm
    subst e2
    exact h1 M2 _ H1 R2 (.bl _)
  cases neg with
  | false =>
    refine ⟨tIsN (rd L E a), pe_cmp (pc_isN ha) rfl, pt_cmp (pc_isN ha) rfl, fun σ H Q h => ?_⟩
    have z := go h
    simp only [Bool.bne_false] at z
    exact z
  | true =>
    refine ⟨tNotN (rd L E a), pe_cmp (pc_notN ha) rfl, pt_cmp (pc_notN ha) rfl, fun σ H Q h => ?_⟩
    have z := go h
    simp only [Bool.bne_true] at z
    exact z
end
end Ev
namespace Ev
open L2 PyProof.Rows PySem.Calls PySem.Spec PySem
section
variable {L : Lv} {T : Tab} {X : Cx} {E : XK}
def rEmp : R2 := fun x y H Q => ∃ a b xs, x = .ref a ∧ y = .ref b ∧ H a = some (.lst xs) ∧ H b = some (.lst []) ∧ Q (.bl xs.isEmpty) H
def rNeEmp : R2 := fun x y H Q => ∃ a b xs, x = .ref a ∧ y = .ref b ∧ H a = some (.lst xs) ∧ H b = some (.lst []) ∧ Q (.bl (!xs.isEmpty)) H
theorem op_eqEmp (hu : X.A.units < cLine) : OpR X (compareOp .Eq) rEmp := by
  intro pins s σ H x y v u Q I rx ry h
  obtain ⟨a, b, xs, rfl, rfl, ha, hb, q⟩ := h
  cases rx
  cases ry
  obtain ⟨its, r1, p1, _⟩ := I.list (X := X) (SqL.of ha)
  obtain ⟨its2, r2, p2, _⟩ := I.list (X := X) (SqL.of hb)
  cases r2
  cases r1 with
  | nil =>
    have z := SeqAt.RcAt.lists (A := X.A) (e := fun _ => true) p1.isList p2.isList rfl hu (fun j h1 => absurd h1 (by simp))
    exact z X.prog X.w _ _ ⟨.bl true, H, I, rfl, q⟩
  | cons r t =>
    have z := SeqAt.RcAt.lists_lengths (A := X.A) p1.isList p2.isList (by simp) hu
    exact z X.prog X.w _ _ ⟨.bl false, H, I, rfl, q⟩
theorem op_neEmp (hu : X.A.units < cLine) : OpR X (compareOp .NotEq) rNeEmp := by
  intro pins s σ H x y v u Q I rx ry h
  obtain ⟨a, b, xs, rfl, rfl, ha, hb, q⟩ := h
  cases rx
  cases ry
  obtain ⟨its, r1, p1, _⟩ := I.list (X := X) (SqL.of ha)
  obtain ⟨its2, r2, p2, _⟩ := I.list (X := X) (SqL.of hb)
  cases r2
  cases r1 with
  | nil =>
    have z := SeqAt.RcNeAt.lists (A := X.A) (e := fun _ => true) p1.isList p2.isList rfl hu (fun j h1 => absurd h1 (by simp))
    exact z X.prog X.w _ _ ⟨.bl false, H, I, rfl, q⟩
  | cons r t =>
    have z := SeqAt.RcNeAt.lists_lengths (A := X.A) p1.isList p2.isList (by simp) hu
    exact z X.prog X.w _ _ ⟨.bl true, H, I, rfl, q⟩
theorem s_emp (hu : X.A.units < cLine) {neg : Bool} {p px pl : Pos} {i : Nat} {x : Str} (h : varB X.N X.env.scope i x = true) :
    ∃ t, PE X (un (.emp neg p px pl i x)) t ∧ PT X (un (.emp neg p px pl i x)) (tTest t) ∧ ∀ σ H Q, rd L E (.emp neg p px pl i x) σ H Q → t σ H Q := by
  have go : ∀ {r : R2} {σ : Sg} {H : Hp} {Q : VK}, (∀ {a b xs H}, H a = some (.lst xs) → H b = some (.lst []) → Q (.bl (xs.isEmpty != neg)) H → r (.ref a) (.ref b) H Q) → rd L E (.emp neg p px pl i x) σ H Q → tOp r (tVar i) (tLst tNil) σ H Q := by
    rintro r σ H Q hr ⟨B, M, ρ, ω, R, h⟩
    simp only [ev] at h
    obtain ⟨v, d, e, ⟨ds, rfl, q⟩, k⟩ := R.peek h
    obtain ⟨a, xs, rfl, h1, h2⟩ := k ds rfl
    refine ⟨_, e, Nat.zero_le _, fun b hb => ?_⟩
    have ne : a ≠ b := fun z => by rw [z, hb] at h1; cases h1
    refine hr ((upd_ne ne).trans h1) upd_same ?_
    have e2 : xs.isEmpty = ds.isEmpty := by
      cases h2 <;> rfl
    rw [e2]
    exact q M _ _ (R.new hb) (.bl _)
  cases neg with
  | false =>
    refine ⟨_, pe_cmpR (op_eqEmp hu) (s_var h) (pe_lst pa_nil) rfl, pt_cmpR (op_eqEmp hu) (s_var h) (pe_lst pa_nil) rfl, fun σ H Q => go fun {a b xs H} h1 h2 q => ?_⟩
    simp only [Bool.bne_false] at q
    exact ⟨a, b, xs, rfl, rfl, h1, h2, q⟩
  | true =>
    refine ⟨_, pe_cmpR (op_neEmp hu) (s_var h) (pe_lst pa_nil) rfl, pt_cmpR (op_neEmp hu) (s_var h) (pe_lst pa_nil) rfl, fun σ H Q => go fun {a b xs H} h1 h2 q => ?_⟩
    simp only [Bool.bne_true] at q
    exact ⟨a, b, xs, rfl, rfl, h1, h2, q⟩
theorem s_nil : PA X (uns .nil) (rdA L E .nil) := by
  refine PA_imp pa_nil ?_
  rintro σ H Q ⟨B, M, ρ, ω, R, h⟩
  simp only [evs] at h
  exact h M _ H R .nil
theorem s_cons {a : Ex} {b : Exs} (ha : PE X (un a) (rd L E a)) (hb : PA X (uns b) (rdA L E b)) : PA X (uns (.cons a b)) (rdA L E (.cons a b)) := by
  refine PA_imp (pa_cons ha hb (un_star a _ _)) ?_
  rintro σ H Q ⟨B, M, ρ, ω, R, h⟩
  simp only [evs] at h
  refine ⟨B, M, ρ, ω, R, ev_mono a h (fun x ρ1 ω1 h1 M1 v1 H1 R1 V1 => ?_) fun _ _ h => h⟩
  obtain ⟨M1', R1', r1, _⟩ := R1.share V1
  refine ⟨B.hd v1 x.d, M1', ρ1, ω1, R1'.holdIn r1, evs_mono b h1 (fun ds ρ2 ω2 h2 M2 vs H2 R2 rs => ?_) fun _ _ => PX.hd⟩
  obtain ⟨R3, r1'⟩ := R2.holdOut
  exact h2 M2 _ H2 R3 (.cons r1' rs)
theorem evs_len : ∀ (t : Exs) {ρ : En} {ω : Om} {Q : List D → En → Om → Prop} {E : KX}, evs L t ρ ω Q E → evs L t ρ ω (fun ds ρ ω => ds.length = t.len ∧ Q ds ρ ω) E
  | .nil, _, _, _, _, h => by simp only [evs] at h ⊢; exact ⟨rfl, h⟩
  | .cons a b, _, _, _, _, h => by
    simp only [evs] at h ⊢
    exact ev_mono a h (fun x ρ ω h => evs_mono b (evs_len b h) (fun ds ρ ω h => ⟨by simp [Exs.len, h.1], h.2⟩) fun _ _ h => h) fun _ _ h => h
theorem call_go {f n : Nat} {B : Bx} {M : Addr → Prop} {σ : Sg} {H : Hp} {ρ : En} {ω : Om} {vs : List V} {ds : List D} {Q : VK} (R : RS L B M σ H ρ ω) (r : RpA L.K H M vs ds) (l : ds.length = n) (h : L.cl f ds ω (fun x ω => PQ L B σ Q x ρ ω) (PX L B E)) : spF L f n vs H Q E := by
  refine ⟨by rw [r.len, l], ds, M, ω, R.af.am, R.af.fm, R.af.mt, R.af.tbs, r, L.cm (fun x ω' hq M' v H' A hv => ?_) (fun x ω' hx M' H' c d A X' => hx M' H' c d (R.called A).af X') h⟩
  refine hq M' v H' (R.called A) ?_
  cases x with
  | no => exact hv
  | sh d => exact hv
  | ow d =>
    obtain ⟨a, rfl, ⟨o1, o2, o3, o4⟩, _⟩ : ∃ a, v = .ref a ∧ OwA L (.at H ω M) M' H' ω' a d ∧ True := by
      obtain ⟨a, e, o⟩ := hv
      exact ⟨a, e, o, trivial⟩
    have o3 : NwP H a := o3
    refine ⟨a, rfl, ⟨o1, o2, R.af.fresh' o3, o4⟩, fun hd => ?_⟩
    obtain ⟨_, _, _, o, q, nt⟩ := R.held hd
    exact o3 o q nt
theorem s_call (G : Gd L T X E) {p pn : Pos} {x : Str} {f : Nat} {es : Exs} (hg : glB X.env.scope x = true) (hf : T.fN f = some (x, es.len)) (hes : PA X (uns es) (rdA L E es)) : PE X (un (.call p pn x f es)) (rd L E (.call p pn x f es)) := by
  obtain ⟨k, F, hr⟩ := G.fx
  have hr := hr.mono (Nat.le_add_right _ _)
  obtain ⟨a, fd, ps, hm, hk, Fn, hb, _⟩ := F.fn f x _ hf
  obtain ⟨g, gd⟩ := gl_of hg
  have go : ∀ {σ : Sg} {H : Hp} {Q : VK}, rd L E (.call p pn x f es) σ H Q → tCall (spF L f es.len) [] E (rdA L E es) σ H Q := by
    rintro σ H Q ⟨B, M, ρ, ω, R, h⟩
    simp only [ev] at h
    refine ⟨B, M, ρ, ω, R, evs_mono es (evs_len es h) (fun ds ρ1 ω1 h1 M1 vs H1 R1 rs => ?_) fun _ _ h => h⟩
    show spF L f es.len (vs ++ []) H1 Q E
    rw [List.append_nil]
    exact call_go R1 rs h1.1 h1.2
  cases es with
  | nil =>
    refine PE_imp (pe_callG0 (dvs := []) Fn hr G.gr g hm hk hb .nil G.px gd) fun σ H Q h => ?_
    obtain ⟨B, M, ρ, ω, R, h⟩ := go h
    simp only [evs] at h
    exact h M [] H R .nil
  | cons b c => exact PE_imp (pe_callG (dvs := []) Fn hr G.gr g hm hk hb .nil G.px hes gd (un_star b _ _) (uns_star c _ _)) fun σ H Q h => go h
theorem s_callT (G : Gd L T X E) {p pn : Pos} {x : Str} {f : Nat} {es : Exs} (hg : glB X.env.scope x = true) (hf : T.fN f = some (x, es.len)) (hes : PA X (uns es) (rdA L E es)) : PE X (un (.call p pn x f es)) (tActL L f es E) := by
  obtain ⟨k, F, hr⟩ := G.fx
  have hr := hr.mono (Nat.le_add_right _ _)
  obtain ⟨a, fd, ps, hm, hk, Fn, hb, _⟩ := F.fn f x _ hf
  obtain ⟨g, gd⟩ := gl_of hg
  cases es with
  | nil =>
    refine PE_imp (pe_callG0 (dvs := []) Fn hr G.gr g hm hk hb .nil G.px gd) fun σ H Q h => ?_
    obtain ⟨B, M, ρ, ω, R, h⟩ := h
    simp only [evs] at h
    exact h M [] H R .nil
  | cons b c =>
    refine PE_imp (pe_callG (dvs := []) Fn hr G.gr g hm hk hb .nil G.px hes gd (un_star b _ _) (uns_star c _ _)) fun σ H Q h => ?_
    obtain ⟨B, M, ρ, ω, R, h⟩ := h
    refine ⟨B, M, ρ, ω, R, evs_mono (.cons b c) h (fun ds ρ ω h M vs H R r => ?_) fun x ω h M H c d A X => (h M H c d A X).elim⟩
    show spF L f _ (vs ++ []) H Q E
    rw [List.append_nil]
    exact h M vs H R r
theorem s_callK (G : Gd L T X E) {p pn pk : Pos} {x y : Str} {f : Nat} {e : Ex} (hg : glB X.env.scope x = true) (hf : T.fN f = some (x, 1)) (hy : T.fP f = some y) (he : PE X (un e) (rd L E e)) : PE X (un (.callK p pn x f y pk e)) (rd L E (.callK p pn x f y pk e)) := by
  obtain ⟨k, F, hr⟩ := G.fx
  have hr := hr.mono (Nat.le_add_right _ _)
  obtain ⟨a, fd, ps, hm, hk, Fn, _, hb⟩ := F.fn f x _ hf
  have hb := hb rfl y hy
  obtain ⟨g, gd⟩ := gl_of hg
  have hp : PE X (un (.callK p pn x f y pk e)) (fun σ H Q => tCons (rd L E e) tNil σ H fun zs H1 => spF L f 1 zs H1 Q E) := by
    refine ⟨fun pins s σ H Q I h => ?_⟩
    refine wpAny_Call_Name_kw (ld_glob I g hm ?_ gd)
    refine PySem.W.callWith_KW0 (h₀ := X.base) I.ok.mod.kin hk rfl (thn ((pk_cons he pk_nil).run p pins s σ H _ I h) fun ws s1 ⟨zs, H1, I1, rz, q⟩ => ⟨I1.kIn, ?_⟩)
    exact run_fnkG Fn hr G.gr hb G.px I1 .nil rz q
  refine PE_imp hp ?_
  rintro σ H Q ⟨B, M, ρ, ω, R, h⟩
  simp only [ev] at h
  refine ⟨B, M, ρ, ω, R, ev_mono e h (fun x ρ1 ω1 h1 M1 v1 H1 R1 V1 => ?_) fun _ _ h => h⟩
  obtain ⟨M1', R1', r1, _⟩ := R1.share V1
  exact call_go R1' (.cons r1 .nil) rfl h1
theorem s_bi (hK : X.K = L.K) (hc : X.calm = true) (bn : ∀ x ∈ bNames, X.mg x = none) {p pn : Pos} {b : Bf} {es : Exs} (hg : glB X.env.scope b.name = true) (hb : b ≠ .gcd) (hl : es.len ≠ 0) (hes : PA X (uns es) (rdA L E es)) : PE X (un (.bi p pn b es)) (rd L E (.bi p pn b es)) := by
  obtain ⟨r, hr, hq⟩ := bif_s (L := L) hK hc b
  obtain ⟨g, gd⟩ := gl_of hg
  have go : ∀ {σ : Sg} {H : Hp} {Q : VK}, rd L E (.bi p pn b es) σ H Q → tCB r (rdA L E es) σ H Q := by
    rintro σ H Q ⟨B, M, ρ, ω, R, h⟩
    simp only [ev] at h
    exact ⟨B, M, ρ, ω, R, evs_mono es h (fun ds ρ1 ω1 ⟨c, e, h1⟩ M1 vs H1 R1 rs => hq R1 rs e fun M v H R V => h1 M v H R V) fun _ _ h => h⟩
  cases es with
  | nil => exact absurd rfl hl
  | cons c es =>
    have s1 := un_star c (uns es) X.env
    have s2 : ∀ pos, (backTo pos (starEach (uns es) X.env)).any (·.1) = false := fun pos => uns_star es X.env pos
    cases b with
    | abs => exact PE_imp (pe_callB hr g (bn _ (by decide)) boot_abs hes (by decide) gd s1 (s2 _)) fun σ H Q => go
    | len => exact PE_imp (pe_callB hr g (bn _ (by decide)) PySem.boot_len hes (by decide) gd s1 (s2 _)) fun σ H Q => go
    | all => exact PE_imp (pe_callB hr g (bn _ (by decide)) (by decide +kernel) hes (by decide) gd s1 (s2 _)) fun σ H Q => go
    | any => exact PE_imp (pe_callB hr g (bn _ (by decide)) (by decide +kernel) hes (by decide) gd s1 (s2 _)) fun σ H Q => go
    | int => exact PE_imp (pe_callTy hr g (bn _ (by decide)) boot_int hes (by decide) gd s1 (s2 _)) fun σ H Q => go
    | str => exact PE_imp (pe_callTy hr g (bn _ (by decide)) boot_str hes (by decide) gd s1 (s2 _)) fun σ H Q => go
    | min => exact PE_imp (pe_callB hr g (bn _ (by decide)) boot_min hes (by decide) gd s1 (s2 _)) fun σ H Q => go
    | list => exact PE_imp (pe_callTy hr g (bn _ (by decide)) boot_list hes (by decide) gd s1 (s2 _)) fun σ H Q => go
    | tuple => exact PE_imp (pe_callTy hr g (bn _ (by decide)) boot_tuple hes (by decide) gd s1 (s2 _)) fun σ H Q => go
    | sum => exact PE_imp (pe_callB hr g (bn _ (by decide)) boot_sum hes (by decide) gd s1 (s2 _)) fun σ H Q => go
    | bool => exact PE_imp (pe_callTy hr g (bn _ (by decide)) boot_bool hes (by decide) gd s1 (s2 _)) fun σ H Q => go
    | max => exact PE_imp (pe_callB hr g (bn _ (by decide)) boot_max hes (by decide) gd s1 (s2 _)) fun σ H Q => go
    | gcd => exact absurd rfl hb
    | sorted => exact PE_imp (pe_callB hr g (bn _ (by decide)) boot_sorted hes (by decide) gd s1 (s2 _)) fun σ H Q => go
theorem pe_ty (bn : ∀ x ∈ bNames, X.mg x = none) {T : Ty} {p : Pos} (hg : glB X.env.scope T.name = true) : PE X (.Name T.name p) (tC (.ty T.ty)) := by
  obtain ⟨g, gd⟩ := gl_of hg
  cases T with
  | str => exact pe_bltn g (bn _ (by decide)) boot_str rfl (by decide) gd
  | int => exact pe_bltn g (bn _ (by decide)) boot_int rfl (by decide) gd
  | bool => exact pe_bltn g (bn _ (by decide)) boot_bool rfl (by decide) gd
  | list => exact pe_bltn g (bn _ (by decide)) boot_list rfl (by decide) gd
  | tuple => exact pe_bltn g (bn _ (by decide)) boot_tuple rfl (by decide) gd
  | dict => exact pe_bltn g (bn _ (by decide)) boot_dict rfl (by decide) gd
theorem s_isi (hK : X.K = L.K) (bn : ∀ x ∈ bNames, X.mg x = none) {p pn pt : Pos} {a : Ex} {T : Ty} (hg : glB X.env.scope "isinstance" = true) (hT : glB X.env.scope T.name = true) (ha : PE X (un a) (rd L E a)) : PE X (un (.isi p pn a pt T)) (rd L E (.isi p pn a pt T)) := by
  obtain ⟨g, gd⟩ := gl_of hg
  refine PE_imp (pe_callB call_isi g (bn _ (by decide)) boot_isinstance (pa_cons ha (pa_cons (pe_ty bn hT) pa_nil) (un_star a _ _)) (by decide) gd (un_star a _ _) rfl) ?_
  rintro σ H Q ⟨B, M, ρ, ω, R, h⟩
  simp only [ev] at h
  refine ⟨B, M, ρ, ω, R, ev_mono a h (fun x ρ1 ω1 ⟨b, e, h1⟩ M1 v1 H1 R1 V1 => ?_) fun _ _ h => h⟩
  obtain ⟨M2, R2, r, _⟩ := R1.share V1
  exact ⟨v1, _, _, _, b, rfl, .ty _, hK ▸ r.ty (isD_nd e), isD_kit e, h1 M2 _ H1 R2 (.bl _)⟩
theorem s_isi2 (hK : X.K = L.K) (bn : ∀ x ∈ bNames, X.mg x = none) {p pn pt p1 p2 : Pos} {k : Nat} {a : Ex} {T1 T2 : Ty} (hg : glB X.env.scope "isinstance" = true) (h1 : glB X.env.scope T1.name = true) (h2 : glB X.env.scope T2.name = true) (ha : PE X (un a) (rd L E a)) :
    PE X (un (.isi2 p pn a k pt p1 p2 T1 T2)) (rd L E (.isi2 p pn a k pt p1 p2 T1 T2)) := by
  obtain ⟨g, gd⟩ := gl_of hg
  refine PE_imp (pe_callB call_isiT g (bn _ (by decide)) boot_isinstance (pa_cons ha (pa_cons (pe_tup (pa_cons (pe_ty bn h1) (pa_cons (pe_ty bn h2) pa_nil))) pa_nil) (un_star a _ _)) (by decide) gd (un_star a _ _) rfl) ?_
  rintro σ H Q ⟨B, M, ρ, ω, R, h⟩
  simp only [ev] at h
  refine ⟨B, M, ρ, ω, R, ev_mono a h (fun x ρ1 ω1 ⟨b, e, c, e', h1⟩ M1 v1 H1 R1 V1 => ?_) fun _ _ h => h⟩
  obtain ⟨M2, R2, r, _⟩ := R1.share V1
  refine ⟨by show 2 ≤ sizeLine; rw [sizeLine_eq]; decide, fun t ht => ?_⟩
  have r' : Rp L.K (upd H1 t (.tup [.ty T1.ty, .ty T2.ty])) M2 v1 x.d := r.exd (exd_new ht)
  refine ⟨v1, t, _, _, [.type T1.ty, .type T2.ty], b || c, rfl, upd_same, .cons (.ty _) (.cons (.ty _) .nil), hK ▸ r'.ty (isD_nd e), ?_, h1 M2 _ _ (R2.new ht) (.bl _)⟩
  refine kitAny_cons (isD_kit e) (fun hb => kitAny_cons (isD_kit e') (fun hc => ?_) fun hc => ?_) fun hb => ?_
  · rw [hb, hc]; rfl
  · rw [hb, hc]; rfl
  · rw [hb]; rfl
theorem s_sub (hK : X.K = L.K) {p : Pos} {a b : Ex} (ha : PE X (un a) (rd L E a)) (hb : PE X (un b) (rd L E b)) : PE X (un (.sub p a b)) (rd L E (.sub p a b)) :=
  PE_imp (pe_ix ix_seq ha hb (un_ix b)) fun σ H Q h => two_op (g := subD) (fun R r1 r2 e P => sub_s hK R r1 r2 e P) (by obtain ⟨B, M, ρ, ω, R, h⟩ := h; simp only [ev] at h; exact ⟨B, M, ρ, ω, R, h⟩)
theorem toI_ok {K : PySem.W.Frag} {H : Hp} {M : Addr → Prop} {v : V} {d : D} {i : Int} (r : Rp K H M v d) (h : toI d = some i) : v = .int i := by
  cases d <;> simp only [toI] at h <;> cases h
  cases r
  rfl
theorem s_slL (hK : X.K = L.K) {p q : Pos} {a b : Ex} (ha : PE X (un a) (rd L E a)) (hb : PE X (un b) (rd L E b)) : PE X (un (.slL p q a b)) (rd L E (.slL p q a b)) := by
  refine PE_imp (pe_slice sl_any ha (po_some hb) po_none) ?_
  rintro σ H Q ⟨B, M, ρ, ω, R, h⟩
  simp only [ev] at h
  refine ⟨B, M, ρ, ω, R, ev_mono a h (fun x ρ1 ω1 h1 M1 v1 H1 R1 V1 => ?_) fun _ _ h => h⟩
  obtain ⟨M1', R1', r1, _⟩ := R1.share V1
  refine ⟨B.hd v1 x.d, M1', ρ1, ω1, R1'.holdIn r1, ev_mono b h1 (fun y ρ2 ω2 h2 M2 v2 H2 R2 V2 => ?_) fun _ _ => PX.hd⟩
  obtain ⟨M2', R2', r2, _⟩ := R2.share V2
  obtain ⟨R3, r1'⟩ := R2'.holdOut
  obtain ⟨i, e1, d, e2, q⟩ := h2
  exact ⟨i, toI_ok r2 e1, sl_s hK R3 r1' e2 fun M v H R r => q M v H R r⟩
theorem s_slH (hK : X.K = L.K) {p q : Pos} {a b : Ex} (ha : PE X (un a) (rd L E a)) (hb : PE X (un b) (rd L E b)) : PE X (un (.slH p q a b)) (rd L E (.slH p q a b)) := by
  refine PE_imp (pe_slice sl_any ha po_none (po_some hb)) ?_
  rintro σ H Q ⟨B, M, ρ, ω, R, h⟩
  simp only [ev] at h
  refine ⟨B, M, ρ, ω, R, ev_mono a h (fun x ρ1 ω1 h1 M1 v1 H1 R1 V1 => ?_) fun _ _ h => h⟩
  obtain ⟨M1', R1', r1, _⟩ := R1.share V1
  refine ⟨B.hd v1 x.d, M1', ρ1, ω1, R1'.holdIn r1, ev_mono b h1 (fun y ρ2 ω2 h2 M2 v2 H2 R2 V2 => ?_) fun _ _ => PX.hd⟩
  obtain ⟨M2', R2', r2, _⟩ := R2.share V2
  obtain ⟨R3, r1'⟩ := R2'.holdOut
  obtain ⟨i, e1, d, e2, q⟩ := h2
  exact ⟨i, toI_ok r2 e1, sl_s hK R3 r1' e2 fun M v H R r => q M v H R r⟩
theorem s_slB (hK : X.K = L.K) {p q : Pos} {a b c : Ex} (ha : PE X (un a) (rd L E a)) (hb : PE X (un b) (rd L E b)) (hc : PE X (un c) (rd L E c)) : PE X (un (.slB p q a b c)) (rd L E (.slB p q a b c)) := by
  refine PE_imp (pe_slice sl_any ha (po_some hb) (po_some hc)) ?_
  rintro σ H Q ⟨B, M, ρ, ω, R, h⟩
  simp only [ev] at h
  refine ⟨B, M, ρ, ω, R, ev_mono a h (fun x ρ1 ω1 h1 M1 v1 H1 R1 V1 => ?_) fun _ _ h => h⟩
  obtain ⟨M1', R1', r1, _⟩ := R1.share V1
  refine ⟨B.hd v1 x.d, M1', ρ1, ω1, R1'.holdIn r1, ev_mono b h1 (fun y ρ2 ω2 h2 M2 v2 H2 R2 V2 => ?_) fun _ _ => PX.hd⟩
  obtain ⟨M2', R2', r2, _⟩ := R2.share V2
  obtain ⟨i, e1, h2⟩ := h2
  refine ⟨i, toI_ok r2 e1, B.hd v1 x.d, M2', ρ2, ω2, R2', ev_mono c h2 (fun z ρ3 ω3 h3 M3 v3 H3 R3 V3 => ?_) fun _ _ => PX.hd⟩
  obtain ⟨M3', R3', r3, _⟩ := R3.share V3
  obtain ⟨R4, r1'⟩ := R3'.holdOut
  obtain ⟨j, e2, d, e3, q⟩ := h3
  exact ⟨j, toI_ok r3 e2, sl_s hK R4 r1' e3 fun M v H R r => q M v H R r⟩
theorem s_tup {k : Nat} {p : Pos} {es : Exs} (hes : PA X (uns es) (rdA L E es)) : PE X (un (.tup k p es)) (rd L E (.tup k p es)) := by
  refine PE_imp (pe_tup hes) ?_
  rintro σ H Q ⟨B, M, ρ, ω, R, h⟩
  simp only [ev] at h
  exact ⟨B, M, ρ, ω, R, evs_mono es h (fun ds ρ1 ω1 h1 M1 vs H1 R1 rs => ⟨by rw [rs.len]; exact h1.1, (VPst.sh h1.2).tup R1 rs⟩) fun _ _ h => h⟩
theorem s_lst {p : Pos} {es : Exs} (hes : PA X (uns es) (rdA L E es)) : PE X (un (.lst p es)) (rd L E (.lst p es)) := by
  refine PE_imp (pe_lst hes) ?_
  rintro σ H Q ⟨B, M, ρ, ω, R, h⟩
  simp only [ev] at h
  exact ⟨B, M, ρ, ω, R, evs_mono es h (fun ds ρ1 ω1 h1 M1 vs H1 R1 rs => ⟨by rw [rs.len]; exact h1.1, VPst.own h1.2 R1 rs⟩) fun _ _ h => h⟩
theorem s_join {p pa : Pos} {a b : Ex} (hl : (pa.endLine == p.line) = true) (hs : a.isStr = true) (hb : PE X (un b) (rd L E b)) : PE X (un (.join p pa a b)) (rd L E (.join p pa a b)) := by
  cases a <;> first | cases hs | skip
  rename_i z k pc
  refine PE_imp (pe_join (o := .Constant (.str z) k pc) pe_str hb (un_star b [] X.env) rfl hl) ?_
  rintro σ H Q ⟨B, M, ρ, ω, R, h⟩
  simp only [ev] at h
  refine ⟨⟨z, rfl⟩, B, M, ρ, ω, R, ev_mono b h (fun y ρ2 ω2 h2 M2 v2 H2 R2 V2 => ?_) fun _ _ h => h⟩
  obtain ⟨M2', R2', r2, _⟩ := R2.share V2
  obtain ⟨d, e, q⟩ := h2
  cases hd : y.d <;> rw [hd] at e r2 <;> simp only [joinD, Sl.d, Option.bind_eq_some_iff] at e <;> try contradiction
  obtain ⟨ys, e1, e2⟩ := e
  split at e2 <;> cases e2
  obtain ⟨l, xs, rfl, h1, _, r1⟩ := r2.lsq
  have e3 := toSs_ok r1 e1
  subst e3
  exact ⟨z, l, ys, rfl, rfl, .inl (.of h1), by assumption, q M2' _ H2 R2' (.str _)⟩
theorem s_pop {p pa px : Pos} {i : Nat} {x : Str} (hl : (pa.endLine == p.line) = true) (h : varB X.N X.env.scope i x = true) : PE X (un (.pop p pa px i x)) (rd L E (.pop p pa px i x)) := by
  refine PE_imp (pe_bm0 PySem.F.plainAttrs_list PySem.F.slot_list_pop PySem.F.type_list_pop mt_pop (s_var h) rfl hl) ?_
  rintro σ H Q ⟨B, M, ρ, ω, R, h⟩
  simp only [ev, upV_iff] at h
  obtain ⟨ds, e, d, e2, q⟩ := h
  obtain ⟨a, xs, s1, h1, h2, h3⟩ := R.upd e
  obtain ⟨R', e'⟩ := h3 _ _ h2.dropLast
  have e3 : ds[ds.length - 1]? = some d := by rw [← List.getLast?_eq_getElem?]; exact e2
  obtain ⟨v, g1, g2⟩ := h2.get e3
  refine ⟨_, s1, .inl ⟨rfl, _, .of h1⟩, a, xs, v, rfl, rfl, h1, ?_, ?_⟩
  · rw [h2.len]
    exact g1
  · exact q M v _ R' (g2.exd e')
end
end Ev
namespace Ev
open L2 PyProof.Rows PySem.Calls PySem.Spec PySem
theorem Rp.rfi {K : PySem.W.Frag} {H : Hp} {M : Addr → Prop} {v : V} {a : Addr} (r : Rp K H M v (RF a)) : v = .ref a := by
  generalize e : RF a = d at r
  cases r with
  | rf =>
    unfold RF at e
    simp only [PyData.dict.injEq, List.cons.injEq, Prod.mk.injEq, PyData.list.injEq, PyData.int.injEq, and_true] at e
    have e : a = _ := Int.ofNat.inj e
    rw [e]
  | _ => cases e
theorem FvA.ownM {K : PySem.W.Frag} {H : Hp} {M : Addr → Prop} : ∀ {kvs : List (Str × V)} {fs : List (Str × Fv)}, FvA K H M kvs fs → ∀ (i : Nat) (f : Str) (g : Addr) (d : D), fs[i]? = some (f, Fv.ow g d) → M g
  | _, _, .nil, i, f, g, d, h => by simp at h
  | _, _, .cons r t, 0, f, g, d, h => by
    simp only [List.getElem?_cons_zero, Option.some.injEq, Prod.mk.injEq] at h
    obtain ⟨rfl, rfl⟩ := h
    exact r.2.1
  | _, _, .cons r t, i + 1, f, g, d, h => FvA.ownM t i f g d (by simpa using h)
theorem FvR.exd {K : PySem.W.Frag} {H H' : Hp} {M M' : Addr → Prop} {v : V} {f : Fv} (e : Exd M H M' H') (r : FvR K H M v f) (h : ∀ g d, f = .ow g d → H' g = H g ∧ M' g) : FvR K H' M' v f := by
  cases f with
  | sh d => exact Rp.exd e r
  | ow g d =>
    obtain ⟨k1, k2⟩ := h _ _ rfl
    exact ⟨r.1, k2, r.2.2.exd e k1⟩
theorem FvA.setOw {K : PySem.W.Frag} {H H' : Hp} {M : Addr → Prop} {key : Str} {g : Addr} {d d' : D} (e : Exd M H M H') (hs : ∀ g', g' ≠ g → H' g' = H g') (ho : Own K H' M g d') :
    ∀ {kvs : List (Str × V)} {fs : List (Str × Fv)}, FvA K H M kvs fs → fs.lookup key = some (.ow g d) → (∀ (i j : Nat) (f f' : Str) (d d' : D), fs[i]? = some (f, Fv.ow g d) → fs[j]? = some (f', Fv.ow g d') → i = j) → FvA K H' M kvs (setF fs key (.ow g d'))
  | _, _, .nil, h, _ => by simp at h
  | _, _, .cons (k := k) (f := f) (v := v) (kvs := kvs) (fs := fs) r t, h, n => by
    by_cases q : key = k
    · subst q
      simp only [List.lookup_cons, beq_self_eq_true, Option.some.injEq] at h
      subst h
      simp only [setF, if_true]
      refine .cons ⟨r.1, r.2.1, ho⟩ (t.exd e fun i f g2 d2 z => ⟨hs g2 fun w => ?_, t.ownM i f g2 d2 z⟩)
      subst w
      have := n 0 (i + 1) _ _ _ _ rfl z
      omega
    · have q2 : (key == k) = false := beq_eq_false_iff_ne.mpr q
      simp only [List.lookup_cons, q2] at h
      simp only [setF, if_neg q]
      obtain ⟨w, j, _, _, hj⟩ := t.look h
      refine .cons (FvR.exd e r fun g2 d2 z => ?_) (FvA.setOw e hs ho t h fun i j f f' d d' h1 h2 => by
        have := n (i + 1) (j + 1) f f' d d' h1 h2
        omega)
      subst z
      refine ⟨hs g2 fun w => ?_, r.2.1⟩
      subst w
      have := n 0 (j + 1) _ _ _ _ rfl hj
      omega
theorem owns_setOw {key : Str} {g : Addr} {d d' : D} : ∀ {fs : List (Str × Fv)}, fs.lookup key = some (.ow g d) → ∀ i g', owns (.dct (setF fs key (.ow g d'))) i g' → owns (.dct fs) i g'
  | [], h, _, _, _ => by simp at h
  | (k, f) :: fs, h, i, g', ⟨f', d2, z⟩ => by
    simp only [Cell.fs, setF] at z
    by_cases q : key = k
    · subst q
      simp only [List.lookup_cons, beq_self_eq_true, Option.some.injEq] at h
      subst h
      simp only [if_true] at z
      cases i with
      | zero =>
        simp only [List.getElem?_cons_zero, Option.some.injEq, Prod.mk.injEq, Fv.ow.injEq] at z
        obtain ⟨rfl, rfl, rfl⟩ := z
        exact ⟨_, _, rfl⟩
      | succ i => exact ⟨f', d2, by simpa [Cell.fs] using z⟩
    · have q2 : (key == k) = false := beq_eq_false_iff_ne.mpr q
      simp only [List.lookup_cons, q2] at h
      simp only [if_neg q] at z
      cases i with
      | zero => exact ⟨f', d2, by simpa [Cell.fs] using z⟩
      | succ i =>
        obtain ⟨f2, d3, w⟩ := owns_setOw h i g' ⟨f', d2, by simpa [Cell.fs] using z⟩
        exact ⟨f2, d3, by simpa [Cell.fs] using w⟩
theorem FvA.setSh {K : PySem.W.Frag} {H H' : Hp} {M : Addr → Prop} {key : Str} {v : V} {d : D} (e : Exd M H M H') (hv : Rp K H' M v d) :
    ∀ {kvs : List (Str × V)} {fs : List (Str × Fv)}, FvA K H M kvs fs → (∀ (i : Nat) (f : Str) (g : Addr) (d : D), fs[i]? = some (f, Fv.ow g d) → H' g = H g) → FvA K H' M (kvs.map fun kv => if kv.1 = key then (kv.1, v) else kv) (setA fs key (.sh d))
  | _, _, .nil, _ => .nil
  | _, _, .cons (k := k) (f := f) (v := w) (kvs := kvs) (fs := fs) r t, n => by
    have t' := FvA.setSh (key := key) e hv t fun i f g d z => n (i + 1) f g d z
    simp only [List.map_cons, setA] at t' ⊢
    by_cases q : k = key
    · simp only [if_pos q]
      exact .cons hv t'
    · simp only [if_neg q]
      exact .cons (FvR.exd e r fun g d z => by
        subst z
        exact ⟨n 0 _ _ _ rfl, r.2.1⟩) t'
theorem owns_setSh {key : Str} {d : D} {fs : List (Str × Fv)} : ∀ i g', owns (.dct (setA fs key (.sh d))) i g' → owns (.dct fs) i g' := by
  rintro i g' ⟨f, d2, z⟩
  simp only [Cell.fs, setA, List.getElem?_map, Option.map_eq_some_iff] at z
  obtain ⟨⟨k, x⟩, h1, h2⟩ := z
  split at h2
  · cases h2
  · cases h2
    exact ⟨_, _, h1⟩
section
variable {L : Lv} {T : Tab} {X : Cx} {E : XK}
theorem s_usub {p : Pos} {a : Ex} (ha : PE X (un a) (rd L E a)) : PE X (un (.usub p a)) (rd L E (.usub p a)) := by
  refine PE_imp (pe_un un_neg ha) ?_
  rintro σ H Q ⟨B, M, ρ, ω, R, h⟩
  simp only [ev] at h
  refine ⟨B, M, ρ, ω, R, ev_mono a h (fun x ρ1 ω1 ⟨i, e, q⟩ M1 v1 H1 R1 V1 => ?_) fun _ _ h => h⟩
  obtain ⟨M2, R2, r, _⟩ := R1.share V1
  exact ⟨i, toI_ok r e, q M2 _ H1 R2 (.int _)⟩
theorem s_subv (hK : X.K = L.K) {p px : Pos} {i : Nat} {x : Str} {e : Ex} (hv : varB X.N X.env.scope i x = true) (he : PE X (un e) (rd L E e)) : PE X (un (.subv p px i x e)) (rd L E (.subv p px i x e)) := by
  refine PE_imp (pe_ix ix_list (s_var hv) he (un_ix e)) ?_
  rintro σ H Q ⟨B, M, ρ, ω, R, h⟩
  simp only [ev] at h
  obtain ⟨h0, h⟩ := h
  obtain ⟨v, d, s1, _, _⟩ := R.peek h0
  refine ⟨v, s1, B, M, ρ, ω, R, ev_mono e h (fun y ρ1 ω1 h1 M1 v1 H1 R1 V1 => ?_) fun _ _ h => h⟩
  obtain ⟨M2, R2, r, _⟩ := R1.share V1
  obtain ⟨v', d', s2, ⟨ds, rfl, j, e1, z, e2, q⟩, k⟩ := R2.peek h1
  rw [s1] at s2
  cases s2
  obtain ⟨a, xs, rfl, k1, k2⟩ := k ds rfl
  obtain ⟨n, w, e3, e4, e5⟩ := atI_map k2.len e2 fun q => let ⟨v, q, _⟩ := k2.get q; ⟨v, q⟩
  obtain ⟨w', q1, q2⟩ := k2.get e4
  rw [e5] at q1
  cases q1
  have := toI_ok r e1
  subst this
  exact ⟨a, xs, j, w, rfl, rfl, hK ▸ .of k1, e3, q M2 w H1 R2 q2⟩
theorem kz {key : Str} : V.str key = kV (.inr key) := rfl
theorem pe_dkS (hu : X.A.units + 1 < cLine) {p : Pos} {a : Ex} {kk : Nat} {pk : Pos} {key : Str} (ha : PE X (un a) (rd L E a)) : PE X (.Subscript (un a) (.Constant (.str key) kk pk) p) (tDGet (rd L E a) (tC (.str key))) :=
  pe_dget hu ha pe_str fun _ _ => rfl
theorem s_dk (hu : X.A.units + 1 < cLine) {p : Pos} {a : Ex} {kk : Nat} {pk : Pos} {key : Str} (ha : PE X (un a) (rd L E a)) : PE X (un (.dk p a kk pk key)) (rd L E (.dk p a kk pk key)) := by
  refine PE_imp (pe_dkS hu ha) ?_
  rintro σ H Q ⟨B, M, ρ, ω, R, h⟩
  simp only [ev] at h
  refine ⟨B, M, ρ, ω, R, ev_mono a h (fun x ρ1 ω1 ⟨b, fs, e1, e2, d, e3, q⟩ M1 v1 H1 R1 V1 => ?_) fun _ _ h => h⟩
  obtain ⟨M2, R2, r, _⟩ := R1.share V1
  rw [e1] at r
  obtain rfl := r.rfi
  obtain ⟨kvs, k1, k2⟩ := R2.dctAt e2
  obtain ⟨w, i, l1, l2, l3⟩ := k2.look e3
  exact ⟨b, w, rfl, by rw [← l1]; exact DGet.k (k := .inr key) k1, q M2 w H1 R2 l2⟩
theorem s_dkEmp (hu : X.A.units + 1 < cLine) {neg : Bool} {p ps pl : Pos} {a : Ex} {kk : Nat} {pk : Pos} {key : Str} (ha : PE X (un a) (rd L E a)) :
    ∃ t, PE X (un (.dkEmp neg p ps pl a kk pk key)) t ∧ PT X (un (.dkEmp neg p ps pl a kk pk key)) (tTest t) ∧ ∀ σ H Q, rd L E (.dkEmp neg p ps pl a kk pk key) σ H Q → t σ H Q := by
  have hu' : X.A.units < cLine := by omega
  have go : ∀ {r : R2} {σ : Sg} {H : Hp} {Q : VK}, (∀ {a b xs H}, H a = some (.lst xs) → H b = some (.lst []) → Q (.bl (xs.isEmpty != neg)) H → r (.ref a) (.ref b) H Q) → rd L E (.dkEmp neg p ps pl a kk pk key) σ H Q → tOp r (tDGet (rd L E a) (tC (.str key))) (tLst tNil) σ H Q := by
    rintro r σ H Q hr ⟨B, M, ρ, ω, R, h⟩
    simp only [ev] at h
    refine ⟨B, M, ρ, ω, R, ev_mono a h (fun x ρ1 ω1 ⟨c, fs, e1, e2, g, ds, e3, q⟩ M1 v1 H1 R1 V1 => ?_) fun _ _ h => h⟩
    obtain ⟨M2, R2, r, _⟩ := R1.share V1
    rw [e1] at r
    obtain rfl := r.rfi
    obtain ⟨kvs, k1, k2⟩ := R2.dctAt e2
    obtain ⟨w, i, l1, ⟨rfl, l2, xs, l4, l5⟩, l3⟩ := k2.look e3
    refine ⟨c, _, rfl, by rw [← l1]; exact DGet.k (k := .inr key) k1, Nat.zero_le _, fun b hb => ?_⟩
    have ne : g ≠ b := fun z => by rw [z, hb] at l4; cases l4
    refine hr ((upd_ne ne).trans l4) upd_same ?_
    have e2 : xs.isEmpty = ds.isEmpty := by
      cases l5 <;> rfl
    rw [e2]
    exact q M2 _ _ (R2.new hb) (.bl _)
  cases neg with
  | false =>
    refine ⟨_, pe_cmpR (op_eqEmp hu') (pe_dkS hu ha) (pe_lst pa_nil) rfl, pt_cmpR (op_eqEmp hu') (pe_dkS hu ha) (pe_lst pa_nil) rfl, fun σ H Q => go fun {a b xs H} h1 h2 q => ?_⟩
    simp only [Bool.bne_false] at q
    exact ⟨a, b, xs, rfl, rfl, h1, h2, q⟩
  | true =>
    refine ⟨_, pe_cmpR (op_neEmp hu') (pe_dkS hu ha) (pe_lst pa_nil) rfl, pt_cmpR (op_neEmp hu') (pe_dkS hu ha) (pe_lst pa_nil) rfl, fun σ H Q => go fun {a b xs H} h1 h2 q => ?_⟩
    simp only [Bool.bne_true] at q
    exact ⟨a, b, xs, rfl, rfl, h1, h2, q⟩
theorem s_dkPop0 (hu : X.A.units + 1 < cLine) {p pa ps : Pos} {a : Ex} {kk : Nat} {pk : Pos} {key : Str} {k0 : Nat} {p0 : Pos} (hl : (pa.endLine == p.line) = true) (ha : PE X (un a) (rd L E a)) :
    PE X (un (.dkPop0 p pa ps a kk pk key k0 p0)) (rd L E (.dkPop0 p pa ps a kk pk key k0 p0)) := by
  refine PE_imp (pe_bm PySem.F.plainAttrs_list PySem.F.slot_list_pop PySem.F.type_list_pop mt_popAt (pe_dkS hu ha) (pa_cons pe_int pa_nil) rfl rfl hl) ?_
  rintro σ H Q ⟨B, M, ρ, ω, R, h⟩
  simp only [ev] at h
  refine ⟨B, M, ρ, ω, R, ev_mono a h (fun x ρ1 ω1 ⟨c, fs, e1, e2, g, d, ds, e3, q⟩ M1 v1 H1 R1 V1 => ?_) fun _ _ h => h⟩
  obtain ⟨M2, R2, r, _⟩ := R1.share V1
  rw [e1] at r
  obtain rfl := r.rfi
  obtain ⟨kvs, k1, k2⟩ := R2.dctAt e2
  obtain ⟨w, i, l1, ⟨rfl, l2, xs, l4, l5⟩, l3⟩ := k2.look e3
  cases l5 with
  | cons r t =>
    rename_i v vs
    have ow : owns (.dct fs) i g := ⟨_, _, l3⟩
    have ng : g ≠ c := fun z => by
      have := R2.af.am.own c _ i g e2 ow
      rw [z, e2] at this
      cases this
    have ex : Exf M2 H1 M2 (upd H1 g (.lst vs)) := fun b u h n => ⟨by
      rw [upd_ne (by intro z; subst z; exact n l2)]
      exact h, n⟩
    have R3 := RS.ch (o := .lst vs) (p := g) (c := .dct (setF fs key (.ow g (.list ds)))) mk_lst R2 e2 (owns_setOw e3) (.inr ⟨i, ow⟩) ⟨kvs, (upd_ne (Ne.symm ng)).trans k1,
      FvA.setOw ex.w (fun g' n => upd_ne n) (show Own L.K _ _ g (.list ds) from ⟨vs, upd_same, t.exd ex.w⟩) k2 e3 fun i j f f' d d' h1 h2 => (R2.af.am.dj c _ i g c _ j e2 ⟨_, _, h1⟩ e2 ⟨_, _, h2⟩).2⟩
    exact ⟨c, .ref g, rfl, by rw [← l1]; exact DGet.k (k := .inr key) k1, .inl ⟨rfl, _, .of l4⟩, g, _, 0, 0, v, rfl, rfl, l4, by decide, by decide, by simp [seqIndex?], rfl, q M2 v _ R3.1 (r.exd R3.2.w)⟩
theorem s_lNew {p : Pos} : PE X (un (.lNew p)) (rd L E (.lNew p)) := by
  refine PE_imp (pe_lst pa_nil) ?_
  rintro σ H Q ⟨B, M, ρ, ω, R, h⟩
  simp only [ev] at h
  refine ⟨Nat.zero_le _, fun b hb => ?_⟩
  obtain ⟨R1, V1⟩ := R.newOwn (xs := []) (ds := []) hb .nil
  obtain ⟨a, e, n, R2⟩ := R1.toCell V1
  cases e
  exact h b n _ _ _ R2 .rf
theorem s_cTup (hc : X.calm = true) (bn : ∀ x ∈ bNames, X.mg x = none) (hK : X.K = L.K) {p pn : Pos} {a : Ex} (hg : glB X.env.scope "tuple" = true) (ha : PE X (un a) (rd L E a)) : PE X (un (.cTup p pn a)) (rd L E (.cTup p pn a)) := by
  obtain ⟨g, gd⟩ := gl_of hg
  refine PE_imp (pe_callTy call_tuple_of g (bn _ (by decide)) boot_tuple (pa_cons ha pa_nil (un_star a _ _)) (by decide) gd (un_star a _ _) rfl) ?_
  rintro σ H Q ⟨B, M, ρ, ω, R, h⟩
  simp only [ev] at h
  refine ⟨B, M, ρ, ω, R, ev_mono a h (fun x ρ1 ω1 ⟨c, ds, e1, e2, q⟩ M1 v1 H1 R1 V1 => ?_) fun _ _ h => h⟩
  obtain ⟨M2, R2, r, _⟩ := R1.share V1
  rw [e1] at r
  obtain rfl := r.rfi
  obtain ⟨xs, k1, k2⟩ := R2.lstAt e2
  exact ⟨c, xs, rfl, .inl ⟨.of k1, (VPst.sh q).tup R2 k2⟩⟩
theorem putK_new {κ : Type} [DecidableEq κ] {kvs : List (κ × V)} {k : κ} {v : V} (h : k ∉ kvs.map (·.1)) : putK kvs k v = kvs ++ [(k, v)] := by
  unfold putK
  rw [if_neg]
  intro q
  simp only [List.any_eq_true, decide_eq_true_eq] at q
  obtain ⟨x, h1, h2⟩ := q
  exact h (List.mem_map.mpr ⟨x, h1, h2⟩)
theorem mergeK_new : ∀ (more kvs : List (Key × V)), ((kvs ++ more).map (·.1)).Nodup → mergeK kvs more = kvs ++ more
  | [], kvs, _ => by simp [mergeK]
  | p :: r, kvs, h => by
    have h1 : p.1 ∉ kvs.map (·.1) := fun z => by
      rw [List.map_append, List.nodup_append] at h
      exact h.2.2 _ z _ (by simp) rfl
    show mergeK (putK kvs p.1 p.2) r = _
    rw [putK_new h1, mergeK_new r _ (by simpa using h)]
    simp
def trsOf (L : Lv) (E : XK) : List (Str × Nat × Pos) → Exs → List (TE × TE)
  | k :: ks, .cons e es => (tC (.str k.1), rd L E e) :: trsOf L E ks es
  | _, _ => []
theorem pairs_go : ∀ (es : Exs) (ks : List (Str × Nat × Pos)), ks.length = es.len → ∀ {B : Bx} {M : Addr → Prop} {σ : Sg} {H : Hp} {ρ : En} {ω : Om} {Q : List (V × V) → Hp → Prop}, RS L B M σ H ρ ω → evs L es ρ ω (PL L B σ fun vs H => Q ((ks.zip vs).map fun kv => (V.str kv.1.1, kv.2)) H) (PX L B E) →
    tPairs (trsOf L E ks es) σ H Q
  | .nil, [], _, B, M, σ, H, ρ, ω, Q, R, h => by
    simp only [evs] at h
    exact h M _ H R .nil
  | .nil, _ :: _, l, _, _, _, _, _, _, _, _, _ => by simp [Exs.len] at l
  | .cons _ _, [], l, _, _, _, _, _, _, _, _, _ => by simp [Exs.len] at l
  | .cons a b, k :: ks, l, B, M, σ, H, ρ, ω, Q, R, h => by
    simp only [evs] at h
    refine ⟨B, M, ρ, ω, R, ev_mono a h (fun x ρ1 ω1 h1 M1 v1 H1 R1 V1 => ?_) fun _ _ h => h⟩
    obtain ⟨M1', R1', r1, _⟩ := R1.share V1
    refine pairs_go b ks (by simpa [Exs.len] using l) (Q := fun ps H2 => Q ((V.str k.1, v1) :: ps) H2) (R1'.holdIn r1) (evs_mono b h1 (fun ds ρ2 ω2 h2 M2 vs H2 R2 rs => by
      obtain ⟨R3, r1'⟩ := R2.holdOut
      exact h2 M2 _ H2 R3 (.cons r1' rs)) fun _ _ => PX.hd)
theorem RS.pinNew {B : Bx} {M : Addr → Prop} {σ : Sg} {H : Hp} {ρ : En} {ω : Om} {p : Addr} {o : HO} (nt : Mk o) (R : RS L B M σ H ρ ω) (n : H p = none) : RS L (B.pn p o) (fun b => M b ∨ b = p) σ (L2.upd H p o) ρ ω := by
  have nh : ¬ Held B σ ρ p := fun hb => by
    obtain ⟨_, _, _, o, h4, _⟩ := R.held hb
    rw [n] at h4
    cases h4
  have R1 := R.move (exd_own (o := o) n) (fun b hb => by
    obtain ⟨h1, h2, h3, o, h4, _⟩ := R.held hb
    exact ⟨upd_ne (by intro z; rw [z, n] at h4; cases h4), .inl h1, h2⟩) (R.af.newOwn nt n)
  refine ⟨R1.af.to rfl rfl rfl, R1.ln, R1.sl, R1.ap, fun q hq => ?_, fun q hq j d h e => ?_, R1.ho⟩
  · rcases List.mem_cons.mp hq with z | hq
    · subst z
      exact ⟨upd_same, .inr rfl, (R.af.fresh n).2, (R.af.fresh n).1, nt.nt⟩
    · exact R1.pn q hq
  · rcases List.mem_cons.mp hq with z | hq
    · subst z
      exact nh (.inl ⟨j, d, h, e⟩)
    · exact R1.po q hq j d h e
theorem shA {K : PySem.W.Frag} {H : Hp} {M : Addr → Prop} : ∀ {ks : List (Str × Nat × Pos)} {vs : List V} {ds : List D}, ks.length = vs.length → RpA K H M vs ds → FvA K H M ((ks.zip vs).map fun kv => (kv.1.1, kv.2)) (shF ks ds)
  | [], _, _, _, .nil => .nil
  | _ :: _, _, _, l, .nil => by cases l
  | [], _, _, l, .cons _ _ => by cases l
  | k :: ks, _, _, l, .cons r t => .cons r (shA (by simpa using l) t)
theorem shF_own {ks : List (Str × Nat × Pos)} {ds : List D} {i : Nat} {f : Str} {g : Addr} {d : D} (h : (shF ks ds)[i]? = some (f, Fv.ow g d)) : False := by
  induction ks generalizing ds i with
  | nil => simp [shF] at h
  | cons k ks ih =>
    cases ds with
    | nil => simp [shF] at h
    | cons x ds =>
      cases i with
      | zero => simp [shF] at h
      | succ i => exact ih (by simpa [shF] using h)
theorem s_dNew {p px : Pos} {k0 : Str × Nat × Pos} {i : Nat} {x : Str} {ks : List (Str × Nat × Pos)} {es : Exs} (hv : varB X.N X.env.scope i x = true) (hl : ks.length = es.len) (h14 : ks.length ≤ 14) (hn : (k0.1 :: ks.map (·.1)).Nodup)
    (hp : PPs X p (ks.map kEx) (uns es) (trsOf L E ks es)) : PE X (un (.dNew p k0 px i x ks es)) (rd L E (.dNew p k0 px i x ks es)) := by
  have hu : ∀ es : Exs, (uns es).length = es.len := uns_len
  have hp' : PPs X p (kEx k0 :: ks.map kEx) (.Name x px :: uns es) ((tC (.str k0.1), tVar i) :: trsOf L E ks es) := pps_cons pe_str (s_var hv) hp
  refine PE_imp (pe_disp hp' ?_ (by simp [hu, hl]) (by simp) (by simp; omega)) ?_
  · simp only [List.all_cons, List.all_map, Bool.and_eq_true]
    exact ⟨rfl, List.all_eq_true.mpr fun _ _ => rfl⟩
  rintro σ H Q ⟨B, M, ρ, ω, R, h⟩
  simp only [ev] at h
  obtain ⟨⟨d0, e0⟩, h⟩ := h
  obtain ⟨g, s1, _⟩ := R.temp e0
  intro b hb
  refine ⟨_, s1, ?_⟩
  have R1 := R.pinNew (o := .dK []) mk_dK hb
  have nB : ∀ q ∈ B.pins, q.1 ≠ b := fun q hq z => by
    have := (R.pn q hq).1
    rw [z, hb] at this
    cases this
  refine pairs_go (E := E) es ks hl (B := B.pn b (.dK [])) R1 (evs_mono es (evs_len es h) (fun ds ρ2 ω2 h2 M2 vs H2 R2 rs => ?_) fun x ω h M H c e A q => h M H c e (A.to rfl rfl rfl) q)
  obtain ⟨ld, h2⟩ := h2
  have lv : vs.length = ks.length := by rw [rs.len, ld, hl]
  have main : H2 b = some (.dK []) ∧ Q (.ref b) (L2.upd H2 b (.dK ((.inr k0.1, .ref g) :: (ks.zip vs).map fun kv => (.inr kv.1.1, kv.2)))) := by
    obtain ⟨d, e2, h2⟩ := h2
    obtain ⟨p1, p2, p3, p4, _⟩ := R2.pn (b, .dK []) List.mem_cons_self
    obtain ⟨g', s2, g2, eg, ⟨o1, o2, o3, o4⟩, nh⟩ := R2.temp e2
    rw [s1] at s2
    cases s2
    cases eg
    have ng : g ≠ b := fun z => R2.po (b, .dK []) List.mem_cons_self i d e2 (by rw [s1, z])
    have R3 := R2.forget i
    have R4 : RS L B M2 σ H2 (ρ2.set i .no) ω2 := ⟨R3.af.to rfl rfl rfl, R3.ln, R3.sl, R3.ap, fun q hq => R3.pn q (List.mem_cons_of_mem _ hq), fun q hq => R3.po q (List.mem_cons_of_mem _ hq), R3.ho⟩
    have nh4 : ∀ c, Held B σ (ρ2.set i .no) c → c ≠ b ∧ c ≠ g := fun c hc => by
      constructor
      · intro z
        subst z
        rcases hc with ⟨j, d, h1, h2⟩ | ⟨q, hq, z⟩
        · exact R3.po (c, .dK []) List.mem_cons_self j d h1 h2
        · exact nB q hq z
      · intro z
        subst z
        rcases hc with ⟨j, d, h1, h2⟩ | ⟨q, hq, z⟩
        · exact nh (.inl ⟨j, d, h1, h2⟩)
        · exact nh (.inr ⟨q, List.mem_cons_of_mem _ hq, z⟩)
    refine ⟨p1, ?_⟩
    have ex : Exf M2 H2 M2 (L2.upd H2 b (.dK ((.inr k0.1, .ref g) :: (ks.zip vs).map fun kv => (.inr kv.1.1, kv.2)))) := fun c u h n => ⟨by
      rw [upd_ne (by intro z; subst z; exact n p2)]
      exact h, n⟩
    have nb : ω2 b = none := by
      cases q : ω2 b with
      | none => rfl
      | some c => exact absurd (.inl ⟨c, q⟩) p3
    have own1 : ∀ {j g'}, owns (.dct ((k0.1, .ow g d) :: shF ks ds)) j g' → j = 0 ∧ g' = g := fun {j g'} ⟨f, d', z⟩ => by
      cases j with
      | zero =>
        simp only [Cell.fs, List.getElem?_cons_zero, Option.some.injEq, Prod.mk.injEq, Fv.ow.injEq] at z
        exact ⟨rfl, z.2.1.symm⟩
      | succ j => exact (shF_own (by simpa [Cell.fs] using z)).elim
    have am := R4.af.am.add (c := .dct ((k0.1, .ow g d) :: shF ks ds)) p3 ex.w (fun c f => ⟨upd_ne fun z => p3 (z ▸ f), R4.af.fm c f⟩)
      ⟨(k0.1, .ref g) :: (ks.zip vs).map fun kv => (kv.1.1, kv.2), by rw [upd_same]; simp [dKof, Function.comp_def], .cons ⟨rfl, o1, o4.exd ex.w (upd_ne ng)⟩ ((shA lv.symm rs).exd ex.w fun j f g d q => (shF_own q).elim)⟩
      (fun j g' q => by
        obtain ⟨_, rfl⟩ := own1 q
        exact ⟨o2, ng⟩) fun j j' g' q q' => by rw [(own1 q).1, (own1 q').1]
    refine h2 b g nb M2 _ _ (R4.recell ex am (fun c hc => ⟨upd_ne (nh4 c hc).1, fun f => ?_⟩) (fun c f => ?_) (fun c o q => ?_) fun c q => ?_) .rf
    · rcases fo_add f with f | f | ⟨j, f⟩
      · exact (R4.held hc).2.1 f
      · exact (nh4 c hc).1 f
      · exact (nh4 c hc).2 (own1 f).2
    · rcases fo_add f with f | f | ⟨j, f⟩
      · exact ⟨R4.af.fm c f, .inl f⟩
      · exact ⟨f ▸ p2, .inr (f ▸ p4)⟩
      · obtain ⟨_, rfl⟩ := own1 f
        exact ⟨o1, .inr o3⟩
    · by_cases z : c = b
      · exact ⟨_, by rw [z]; exact upd_same, fun _ => mk_dK, fun _ => nt_dK⟩
      · exact ⟨o, by rw [upd_ne z]; exact q, fun k => k, fun k => k⟩
    · by_cases z : c = b
      · exact .inr (by rw [z]; exact p4)
      · exact absurd (upd_ne z) q
  · obtain ⟨q1, q2⟩ := main
    refine ⟨q1, (.inr k0.1, .ref g) :: (ks.zip vs).map fun kv => (.inr kv.1.1, kv.2), ?_, ?_, ?_⟩
    · simp [kV, Function.comp_def]
    · simp [lv]
      omega
    · rw [mergeK_new _ _ ?_]
      · exact q2
      · have e1 : ((ks.zip vs).map fun kv => ((.inr kv.1.1 : Key), kv.2)).map (·.1) = (ks.map (·.1)).map Sum.inr := by
          rw [List.map_map, List.map_map]
          have : ks = (ks.zip vs).map Prod.fst := (List.map_fst_zip (by omega)).symm
          conv => rhs; rw [this]
          rw [List.map_map]
          rfl
        rw [List.nil_append, List.map_cons, e1]
        have := List.Pairwise.map (S := fun a b : Key => a ≠ b) (Sum.inr : Str → Key) (fun a b (h : a ≠ b) q => h (Sum.inr.inj q)) hn
        exact this
end
end Ev
namespace Ev
open L2 PyProof.Rows PySem.Calls PySem.Spec PySem
section
variable {L : Lv} {T : Tab} {X : Cx} {E : XK}
def gT (K : PySem.W.Frag) : Tg → TG
  | .nm _ i _ => gName i
  | .tup2 _ _ a b => gTup K 2 (gCons (gT K a) (gCons (gT K b) gNil))
theorem locB_ok {x : Str} (h : locB X.env.scope X.fn x = true) : L2.Loc X.env.scope x ∧ (X.fn x = true ∨ X.env.scope.names.lookup x = some .local) := by
  unfold locB at h
  unfold L2.Loc
  split at h
  · rename_i e
    exact ⟨.inl e, .inr e⟩
  · rename_i e
    exact ⟨.inr e, .inl h⟩
  · cases h
theorem unT_each (a : Tg) (es : List Expr) (env : Env) : assignEach (unT a :: es) env = (false, assign (unT a) env) :: assignEach es env := by cases a <;> rfl
theorem s_tg (hc : X.calm = true) (hN : X.N.Nodup) : ∀ (tg : Tg), wfT X.N X.env.scope X.fn tg = true → PG X (unT tg) (gT X.K tg)
  | .nm p i x, h => by
    simp only [wfT, nmB, Bool.and_eq_true, decide_eq_true_eq] at h
    obtain ⟨h1, h2⟩ := locB_ok h.2
    exact pg_name hN h.1 h1 h2
  | .tup2 k p a b, h => by
    simp only [wfT, Bool.and_eq_true] at h
    refine pg_tup hc (pgs_cons (s_tg hc hN a h.1) (pgs_cons (s_tg hc hN b h.2) pgs_nil ?_) ?_) ?_ ?_
    · rw [unT_each]; rfl
    · rw [unT_each]; rfl
    · rw [unT_each, unT_each]; rfl
    · rw [unT_each, unT_each]; rfl
theorem wipe_set {σ : Sg} {i : Nat} {x : Option V} : ∀ {vs : List Nat}, i ∈ vs → wipe (σ.set i x) vs = wipe σ vs
  | v :: vs, h => by
    unfold wipe
    by_cases e : v = i
    · subst e
      by_cases m : v ∈ vs
      · rw [wipe_set m]
      · have z : ∀ {vs : List Nat}, v ∉ vs → wipe (σ.set v x) vs = (wipe σ vs).set v x := by
          intro vs
          induction vs with
          | nil => intro _; rfl
          | cons w vs ih =>
            intro hm
            simp only [List.mem_cons, not_or] at hm
            unfold wipe
            rw [ih hm.2, List.set_comm _ _ hm.1]
        rw [z m, List.set_set]
    · rcases List.mem_cons.mp h with q | q
      · exact absurd q.symm e
      · rw [wipe_set q]
theorem wipe_wipe {σ : Sg} {vs : List Nat} : wipe (wipe σ vs) vs = wipe σ vs := by
  have z : ∀ {ws : List Nat}, (∀ v ∈ ws, v ∈ vs) → wipe (wipe σ ws) vs = wipe σ vs := by
    intro ws
    induction ws with
    | nil => intro _; rfl
    | cons w ws ih =>
      intro hm
      show wipe ((wipe σ ws).set w none) vs = _
      rw [wipe_set (hm w List.mem_cons_self), ih fun v hv => hm v (List.mem_cons_of_mem _ hv)]
  exact z fun _ h => h
theorem bind_ok : ∀ (tg : Tg) {d : D} {ρ : En} {k : En → Prop} {B : Bx} {M : Addr → Prop} {σ : Sg} {H : Hp} {ω : Om} {v : V} {Q : Sg → Hp → Prop}, RS L B M σ H ρ ω → Rp L.K H M v d → bindT tg d ρ k →
    (∀ σ' ρ', RS L B M σ' H ρ' ω → k ρ' → (∀ vs : List Nat, (∀ i ∈ tg.ixs, i ∈ vs) → wipe σ' vs = wipe σ vs) → Q σ' H) → gT L.K tg v σ H Q
  | .nm p i x, d, ρ, k, B, M, σ, H, ω, v, Q, R, r, h, q => by
    refine q _ _ ?_ h fun vs hv => wipe_set (hv i (by simp [Tg.ixs]))
    by_cases hi : i < σ.length
    · exact R.setS hi r
    · rw [List.set_eq_of_length_le (by omega), List.set_eq_of_length_le (by rw [R.ln]; omega)]
      exact R
  | .tup2 kk p a b, d, ρ, k, B, M, σ, H, ω, v, Q, R, r, ⟨x, y, e, h⟩, q => by
    subst e
    obtain ⟨t, xs, rfl, hq, rs⟩ := r.sqt
    obtain ⟨v1, v2, rfl, r1, r2⟩ := rs.two
    refine ⟨t, [v1, v2], rfl, hq, rfl, v1, [v2], rfl, ?_⟩
    refine bind_ok a (R.holdIn r2) r1 h fun σ1 ρ1 R1 h1 w1 => ⟨v2, [], rfl, ?_⟩
    obtain ⟨R1', r2'⟩ := R1.holdOut
    refine bind_ok b R1' r2' h1 fun σ2 ρ2 R2 h2 w2 => ⟨rfl, q _ _ R2 h2 fun vs hv => ?_⟩
    rw [w2 vs fun i hi => hv i (by simp [Tg.ixs, hi]), w1 vs fun i hi => hv i (by simp [Tg.ixs, hi])]
theorem wk_frz {a : Addr} {ds : List D} {K : PySem.W.Frag} : Wk L [(V.ref a, PyData.dict [(.none, .list ds)])] (Itl K a) ds := by
  intro B m i M σ H ρ ω R
  obtain ⟨b, xs, e, h1, _, r⟩ := (R.ho _ (m _ List.mem_cons_self)).fzq
  cases e
  refine ⟨fun d hd => ?_, fun hl => ⟨xs, .inl (.inr h1), by rw [r.len]; exact hl⟩⟩
  obtain ⟨v, e1, r1⟩ := r.get hd
  refine ⟨⟨xs, v, .inl (.inr h1), e1⟩, fun x H' ⟨e2, k⟩ => ?_⟩
  subst e2
  have e3 := k xs (.inl (.inr h1))
  rw [e1] at e3
  cases e3
  exact ⟨M, R, r1⟩
theorem wk_list {a : Addr} {ds : List D} {K : PySem.W.Frag} : Wk L [(V.ref a, PyData.list ds)] (Itl K a) ds := by
  intro B m i M σ H ρ ω R
  obtain ⟨b, xs, e, h1, _, r⟩ := (R.ho _ (m _ List.mem_cons_self)).lsq
  cases e
  refine ⟨fun d hd => ?_, fun hl => ⟨xs, .of h1, by rw [r.len]; exact hl⟩⟩
  obtain ⟨v, e1, r1⟩ := r.get hd
  refine ⟨⟨xs, v, .of h1, e1⟩, fun x H' ⟨e2, k⟩ => ?_⟩
  subst e2
  have e3 := k xs (.of h1)
  rw [e1] at e3
  cases e3
  exact ⟨M, R, r1⟩
theorem wk_tup {a : Addr} {ds : List D} {K : PySem.W.Frag} (hK : K = L.K) : Wk L [(V.ref a, PyData.tuple ds)] (Itt K a) ds := by
  intro B m i M σ H ρ ω R
  subst hK
  obtain ⟨b, xs, e, h1, r⟩ := (R.ho _ (m _ List.mem_cons_self)).sqt
  cases e
  refine ⟨fun d hd => ?_, fun hl => ⟨xs, h1, by rw [r.len]; exact hl⟩⟩
  obtain ⟨v, e1, r1⟩ := r.get hd
  refine ⟨⟨xs, v, h1, e1⟩, fun x H' ⟨e2, k⟩ => ?_⟩
  subst e2
  have e3 := k xs h1
  rw [e1] at e3
  cases e3
  exact ⟨M, R, r1⟩
theorem wk_str {z : Str} : Wk L [] (Its z) (z.cps.toList.map fun c => .str ⟨#[c]⟩) := by
  intro B m i M σ H ρ ω R
  refine ⟨fun d hd => ?_, fun hl => ?_⟩
  · rw [List.getElem?_map] at hd
    cases e : z.cps.toList[i]? with
    | none => rw [e] at hd; cases hd
    | some c =>
      rw [e] at hd
      cases hd
      have e' : z.cps[i]? = some c := by rw [← Array.getElem?_toList]; exact e
      refine ⟨(Array.getElem?_eq_some_iff.mp e').1, fun x H' ⟨e2, c', e3, e4⟩ => ?_⟩
      subst e2 e4
      rw [e'] at e3
      cases e3
      exact ⟨M, R, .str _⟩
  · have hl : z.cps.toList.length ≤ i := by simpa using hl
    show z.cps.size ≤ i
    simpa using hl
theorem wk_rng {n : Nat} : Wk L [] (Itr 0 n) ((List.range n).map fun i => .int (i : Nat)) := by
  intro B m i M σ H ρ ω R
  refine ⟨fun d hd => ?_, fun hl => (by simpa using hl : n ≤ i)⟩
  rw [List.getElem?_map] at hd
  cases e : (List.range n)[i]? with
  | none => rw [e] at hd; cases hd
  | some c =>
    rw [e] at hd
    cases hd
    obtain ⟨h1, h2⟩ := List.getElem?_eq_some_iff.mp e
    simp only [List.length_range] at h1
    simp only [List.getElem_range] at h2
    subst h2
    refine ⟨h1, fun x H' ⟨e2, e3⟩ => ?_⟩
    subst e2 e3
    refine ⟨M, R, ?_⟩
    rw [Int.zero_add]
    exact .int _
def iAny (K : PySem.W.Frag) (te : TE) : TI := fun σ H R => te σ H fun x H1 => (∃ a, x = .ref a ∧ (∃ xs, SqL K H1 a xs) ∧ R (Itl K a) H1) ∨ (∃ a, x = .ref a ∧ (∃ xs, SqT K H1 a xs) ∧ R (Itt K a) H1) ∨ ∃ z, x = .str z ∧ R (Its z) H1
theorem pi_any {tg l : Expr} {tl : TE} (hl : PE X l tl) : PI X tg l (iAny X.K tl) := by
  refine ⟨fun pins s σ H R I h => ?_⟩
  refine thn (hl.run pins s σ H _ I h) fun v s1 ⟨x, H1, I1, r1, q1⟩ => ?_
  rcases q1 with ⟨a, e, ⟨xs, hq⟩, q⟩ | ⟨a, e, ⟨xs, hq⟩, q⟩ | ⟨z, e, q⟩
  · subst e
    cases r1
    obtain ⟨its, rv, p, hz⟩ := I1.list hq
    refine wpAny_pyIter_list p.isList ?_
    refine ⟨s1.heap.objs.size, [s1.heap.objs.size], _, _, H1, rfl, I1.kept (t' := s1.toks) fun b o e => Heap.get?_push_of_some _ e, turn_list a _, ⟨_, Heap.get?_push_size _ rfl, rfl, rfl⟩, fun b hb => ?_, q⟩
    have e : b = s1.heap.objs.size := by simpa using hb
    subst e
    exact I1.fpOk (Nat.le_refl _) (I1.hok.fresh (Nat.le_refl _))
  · subst e
    cases r1
    obtain ⟨its, rv, p, hz⟩ := I1.tuple hq
    refine wpAny_pyIter_tuple (show s1.heap.IsTuple a its.toArray from p) ?_
    refine ⟨s1.heap.objs.size, [s1.heap.objs.size], _, _, H1, rfl, I1.kept (t' := s1.toks) fun b o e => Heap.get?_push_of_some _ e, turn_tuple a _, ⟨_, Heap.get?_push_size _ rfl, rfl, rfl⟩, fun b hb => ?_, q⟩
    have e : b = s1.heap.objs.size := by simpa using hb
    subst e
    exact I1.fpOk (Nat.le_refl _) (I1.hok.fresh (Nat.le_refl _))
  · subst e
    obtain ⟨t, rfl⟩ := r1
    cases ha : z.cps.all (· < 128)
    · exact wpAny_pyIter_wide ha (pi_one (tk := s1.toks) I1 _ (turn_str _ z t "str_iterator" (.inr rfl)) ⟨_, Heap.get?_push_size _ rfl, rfl, rfl⟩ q)
    · exact wpAny_pyIter_ascii ha (pi_one (tk := s1.toks) I1 _ (turn_str _ z t "str_ascii_iterator" (.inl rfl)) ⟨_, Heap.get?_push_size _ rfl, rfl, rfl⟩ q)
theorem items_some {d : D} {ds : List D} (h : itemsD d = some ds) : (∃ z : Str, d = .str z ∧ ds = z.cps.toList.map fun c => .str ⟨#[c]⟩) ∨ d = .list ds ∨ d = .tuple ds ∨ d = .dict [(.none, .list ds)] := by
  unfold itemsD at h
  split at h
  · cases h; exact .inr (.inl rfl)
  · cases h; exact .inr (.inr (.inl rfl))
  · cases h; exact .inl ⟨_, rfl, rfl⟩
  · cases h; exact .inr (.inr (.inr rfl))
  · cases h
theorem s_val (hK : X.K = L.K) {tg : Expr} {e : Ex} (he : PE X (un e) (rd L E e)) : PI X tg (un e) (rdI L E (.val e)) := by
  refine PI_imp (pi_any he) ?_
  rintro σ H R ⟨B, M, ρ, ω, RR, h⟩
  simp only [evI] at h
  refine ⟨B, M, ρ, ω, RR, ev_mono e h (fun x ρ1 ω1 ⟨ds, e1, h1⟩ M1 v1 H1 R1 V1 => ?_) fun _ _ h => h⟩
  obtain ⟨M2, R2, r, _⟩ := R1.share V1
  rcases items_some e1 with ⟨z, hd, rfl⟩ | hd | hd | hd <;> rw [hd] at r
  · cases r
    exact .inr (.inr ⟨_, rfl, h1 [] M2 _ H1 R2 wk_str⟩)
  rotate_left 2
  · obtain ⟨a, xs, e, g1, g2, g3⟩ := r.fzq
    subst e
    exact .inl ⟨a, rfl, ⟨xs, .inl (.inr g1)⟩, h1 [(_, _)] M2 _ H1 (R2.holdIn r) wk_frz⟩
  · obtain ⟨a, xs, e, g1, g2, g3⟩ := r.lsq
    subst e
    exact .inl ⟨a, rfl, ⟨xs, .of g1⟩, h1 [(_, _)] M2 _ H1 (R2.holdIn r) wk_list⟩
  · obtain ⟨a, xs, e, g1, g3⟩ := r.sqt
    subst e
    exact .inr (.inl ⟨a, rfl, ⟨xs, hK ▸ g1⟩, h1 [(_, _)] M2 _ H1 (R2.holdIn r) (wk_tup hK)⟩)
theorem s_rng (bn : ∀ x ∈ bNames, X.mg x = none) {tg : Expr} {p pn : Pos} {e : Ex} (hg : glB X.env.scope "range" = true) (he : PE X (un e) (rd L E e)) : PI X tg (unI (.rng p pn e)) (rdI L E (.rng p pn e)) := by
  refine PI_imp (pi_range1 (gl_of hg).1 (bn _ (by decide)) (pa_cons he pa_nil (un_star e _ _)) (un_star e _ _)) ?_
  rintro σ H R ⟨B, M, ρ, ω, RR, h⟩
  simp only [evI] at h
  refine ⟨B, M, ρ, ω, RR, ev_mono e h (fun x ρ1 ω1 ⟨j, e1, ⟨b1, b2⟩, h1⟩ M1 v1 H1 R1 V1 => ?_) fun _ _ h => h⟩
  obtain ⟨M2, R2, r, _⟩ := R1.share V1
  have e2 := toI_ok r e1
  subst e2
  exact ⟨j, rfl, b1, b2, h1 [] M2 _ H1 R2 wk_rng⟩
theorem RS.wipe {B : Bx} {M : Addr → Prop} {σ : Sg} {H : Hp} {ρ : En} {ω : Om} (R : RS L B M σ H ρ ω) : ∀ vs : List Nat, RS L B M (L2.wipe σ vs) H (wipeE ρ vs) ω := by
  have g : ∀ (vs : List Nat) {i : Nat} {x : Sl}, (wipeE ρ vs)[i]? = some x → x = .no ∨ (ρ[i]? = some x ∧ i ∉ vs) := by
    intro vs
    induction vs with
    | nil => intro i x h; exact .inr ⟨h, by simp⟩
    | cons v vs ih =>
      intro i x h
      rcases get_set (show ((wipeE ρ vs).set v .no)[i]? = some x from h) with ⟨_, e, _⟩ | ⟨n, e⟩
      · exact .inl e
      · rcases ih e with z | ⟨z1, z2⟩
        · exact .inl z
        · exact .inr ⟨z1, by simp only [List.mem_cons, not_or]; exact ⟨fun q => n q.symm, z2⟩⟩
  have k : ∀ (vs : List Nat) {i : Nat}, i ∉ vs → (L2.wipe σ vs)[i]? = σ[i]? := by
    intro vs
    induction vs with
    | nil => intro i _; rfl
    | cons v vs ih =>
      intro i hi
      simp only [List.mem_cons, not_or] at hi
      show ((L2.wipe σ vs).set v none)[i]? = _
      rw [List.getElem?_set_ne (fun q => hi.1 q.symm), ih hi.2]
  have lw : ∀ vs : List Nat, (wipeE ρ vs).length = ρ.length := by
    intro vs
    induction vs with
    | nil => rfl
    | cons v vs ih => show ((wipeE ρ vs).set v .no).length = _; rw [List.length_set, ih]
  intro vs
  refine ⟨R.af, by rw [lw, wipe_length]; exact R.ln, fun i x h => ?_, fun i j a d e h1 h2 h3 h4 => ?_, R.pn, fun p hp i d h => ?_, R.ho⟩
  · rcases g vs h with z | ⟨z1, z2⟩
    · subst z
      trivial
    · have s := R.sl i x z1
      cases x with
      | no => trivial
      | sh d =>
        obtain ⟨v, s1, s2⟩ := s
        exact ⟨v, (k vs z2).trans s1, s2⟩
      | ow d =>
        obtain ⟨v, s1, s2⟩ := s
        exact ⟨v, (k vs z2).trans s1, s2⟩
  · rcases g vs h1 with z | ⟨z1, z2⟩
    · cases z
    · rcases g vs h2 with z | ⟨z3, z4⟩
      · cases z
      · rw [k vs z2] at h3
        rw [k vs z4] at h4
        exact R.ap i j a d e z1 z3 h3 h4
  · rcases g vs h with z | ⟨z1, z2⟩
    · cases z
    · rw [k vs z2]
      exact R.po p hp i d z1
theorem RS.unwipe {B : Bx} {M : Addr → Prop} {σ : Sg} {H : Hp} {ρ : En} {ω : Om} {vs : List Nat} (R : RS L B M (L2.wipe σ vs) H ρ ω) : RS L B M σ H ρ ω := by
  have l := R.ln
  rw [wipe_length] at l
  have at_ : ∀ {i : Nat} {d : D}, ρ[i]? = some (.ow d) → ∀ {a : Addr}, σ[i]? = some (some (.ref a)) → (L2.wipe σ vs)[i]? = some (some (.ref a)) := by
    intro i d h a e
    obtain ⟨b, s1, _⟩ := R.sl i _ h
    have z := (wipe_some s1).1
    rw [e] at z
    cases z
    exact s1
  refine ⟨R.af, l, fun i x h => ?_, fun i j a d e h1 h2 h3 h4 => R.ap i j a d e h1 h2 (at_ h1 h3) (at_ h2 h4), R.pn, fun p hp i d h e => R.po p hp i d h (at_ h e), R.ho⟩
  have s := R.sl i x h
  cases x with
  | no => trivial
  | sh d =>
    obtain ⟨v, s1, s2⟩ := s
    exact ⟨v, (wipe_some s1).1, s2⟩
  | ow d =>
    obtain ⟨v, s1, s2⟩ := s
    exact ⟨v, (wipe_some s1).1, s2⟩
theorem RS.grow {B : Bx} {M : Addr → Prop} {σ : Sg} {H : Hp} {ρ : En} {ω : Om} {a : Addr} {ds : List D} {xs : List V} {v : V} {d : D} (R : RS L B M σ H ρ ω) (V : VR L B M σ H ρ ω (.ref a) (.ow (.list ds))) (hx : H a = some (.lst xs)) (r : Rp L.K H M v d) :
    RS L B M σ (L2.upd H a (.lst (xs ++ [v]))) ρ ω ∧ VR L B M σ (L2.upd H a (.lst (xs ++ [v]))) ρ ω (.ref a) (.ow (.list (ds ++ [d]))) ∧ RpA L.K (L2.upd H a (.lst (xs ++ [v]))) M (xs ++ [v]) (ds ++ [d]) := by
  obtain ⟨a', ea, ⟨o1, o2, o3, ys, w1, w2⟩, nh⟩ := V
  cases ea
  rw [hx] at w1
  cases w1
  have e : Exf M H M (L2.upd H a (.lst (xs ++ [v]))) := fun b o hb m => ⟨by
    rw [upd_ne (by intro z; subst z; exact m o1)]
    exact hb, m⟩
  have rr : RpA L.K (L2.upd H a (.lst (xs ++ [v]))) M (xs ++ [v]) (ds ++ [d]) := (w2.append (.cons r .nil)).exd e
  refine ⟨R.move e (fun b hb => ?_) (R.af.own mk_lst o1 o2 o3), ⟨a, rfl, ⟨o1, o2, o3, _, upd_same, rr⟩, nh⟩, rr⟩
  obtain ⟨k1, k2, _⟩ := R.held hb
  exact ⟨upd_ne (fun z => nh (z ▸ hb)), k1, k2⟩
def rdIf (L : Lv) (t : Exs) : TT := fun σ H Q => ∃ B M ρ ω, RS L B M σ H ρ ω ∧ evIf L t ρ ω fun k ρ ω => ∀ M H, RS L B M σ H ρ ω → Q k H
theorem s_if0 : PTs X (uns .nil) (rdIf L .nil) := by
  refine ⟨fun pins s σ H Q I ⟨B, M, ρ, ω, R, h⟩ => pts_nil.run pins s σ H Q I ?_⟩
  simp only [evIf] at h
  exact h M H R
theorem s_if1 {a : Ex} (ha : PT X (un a) (rdT L E0 a)) : PTs X (uns (.cons a .nil)) (rdIf L (.cons a .nil)) := by
  refine ⟨fun pins s σ H Q I ⟨B, M, ρ, ω, R, h⟩ => (pts_one ha).run pins s σ H Q I ?_⟩
  simp only [evIf] at h
  exact ⟨B, M, ρ, ω, R, ev_mono a h (fun x ρ ω h => h) fun _ _ z => z.elim⟩
theorem hold_out {B : Bx} {h : List (V × D)} {M : Addr → Prop} {σ : Sg} {H : Hp} {ρ : En} {ω : Om} (R : RS L { B with hold := h ++ B.hold } M σ H ρ ω) : RS L B M σ H ρ ω :=
  ⟨R.af.to rfl rfl rfl, R.ln, R.sl, R.ap, R.pn, R.po, fun q hq => R.ho q (List.mem_append_right _ hq)⟩
theorem s_lc (hK : X.K = L.K) (hc : X.calm = true) (hN : X.N.Nodup) {p : Pos} {sc : Scope} {own : List (Str × Nat)} {tg : Tg} {it : It'} {ifs : Exs} {elt : Ex} (hi : PI X (unT tg) (unI it) (rdI L E it)) (ok : BlkOk X.N X.env.scope sc own)
    (hg : ∀ (s : Shared) (H : Hp) (C : Addr) (cl : List (Str × Addr)) (fp : List Addr), PG (X.blk s H sc (compEnvC sc cl C X.env) fp) (unT tg) (gT X.K tg))
    (ht : ∀ (s : Shared) (H : Hp) (C : Addr) (cl : List (Str × Addr)) (fp : List Addr), PTs (X.blk s H sc (compEnvC sc cl C X.env) fp) (uns ifs) (rdIf L ifs))
    (he : ∀ (s : Shared) (H : Hp) (C : Addr) (cl : List (Str × Addr)) (fp : List Addr), PE (X.blk s H sc (compEnvC sc cl C X.env) fp) (un elt) (rd L E0 elt)) (hix : ∀ i ∈ tg.ixs, i ∈ own.map (·.2)) :
    ∃ t, PE X (un (.lc p sc own tg it ifs elt)) t ∧ (∀ {i : Nat} {y : Str} {py spos : Pos}, X.N[i]? = some y → X.env.scope.names.lookup y = some .local →
        swapsWith (un (.lc p sc own tg it ifs elt)) (some (.Name y py)) spos.line X.env = pure true → PS X (.Assign [.Name y py] (un (.lc p sc own tg it ifs elt)) spos) (tAsg t (gName i))) ∧
      ∀ σ H Q, rd L E (.lc p sc own tg it ifs elt) σ H Q → t σ H Q := by
  refine ⟨_, pe_lc hc hN hi ok hg ht he (unI_fold it X.env), fun h1 h2 h3 => ps_setLc hc hN h1 h2 h3 hi ok hg ht he (unI_fold it X.env), ?_⟩
  rintro σ H Q ⟨B, M, ρ, ω, R, h⟩
  simp only [ev] at h
  refine ⟨B, M, ρ, ω, R, evI_mono it h (fun ds ρ1 ω1 h1 hh M1 J H1 R1 W => ?_) fun _ _ h => h⟩
  clear h R
  generalize hvs : own.map (·.2) = vs at *
  intro D hD
  generalize hB1 : ({ B with hold := hh ++ B.hold } : Bx) = B1 at R1
  have nd : ∀ p ∈ B1.pins, p.1 ≠ D := fun p hp z => by
    have q := (R1.pn p hp).1
    rw [z, hD] at q
    cases q
  have hsub : ∀ q ∈ hh, q ∈ B1.hold := fun q hq => by
    rw [← hB1]
    exact List.mem_append_left _ hq
  refine ⟨fun i m H => m = ds.length - i ∧ i ≤ ds.length ∧ ∃ M acc xs ρ ω, RS L ((B1.hds xs acc).pn D (.lst xs)) M (L2.wipe σ vs) H (wipeE ρ vs) ω ∧ xs.length = acc.length ∧
    lcGo (fun d ρ ω k => bindT tg d (wipeE ρ vs) fun ρ => evIf L ifs ρ ω fun b ρ ω => if b = true then ev L elt ρ ω (fun x ρ ω => k (some x.d) ρ ω) (fun _ _ => False) else k none ρ ω) (ds.drop i) acc ρ ω
      fun acc ρ ω => PQ L B σ Q (.ow (.list acc)) (wipeE ρ vs) ω, ⟨ds.length, rfl, Nat.zero_le _, ?_⟩, ?_⟩
  · obtain ⟨R2, V2⟩ := (R1.wipe vs).newOwn (xs := []) (ds := []) hD .nil
    obtain ⟨a, xs, e, r, R3⟩ := R2.pinIn V2
    cases e
    cases r
    exact ⟨_, [], [], ρ1, ω1, R3, rfl, h1⟩
  · rintro i m H ⟨rfl, hi, M, acc, xs, ρ, ω, R, hx, hgo⟩
    have sub : ∀ q ∈ hh, q ∈ ((B1.hds xs acc).pn D (.lst xs)).hold := fun q hq => List.mem_append_right _ (hsub q hq)
    by_cases hlt : i < ds.length
    · have ed : ds.drop i = ds[i] :: ds.drop (i + 1) := List.drop_eq_getElem_cons hlt
      rw [ed] at hgo
      obtain ⟨go, yl⟩ := (W _ sub i M _ H _ ω R).1 ds[i] (List.getElem?_eq_getElem hlt)
      refine .inr ⟨go, fun H' => i + 1 ≤ ds.length ∧ ∃ M acc xs ρ ω, RS L ((B1.hds xs acc).pn D (.lst xs)) M (L2.wipe σ vs) H' (wipeE ρ vs) ω ∧ xs.length = acc.length ∧
        lcGo (fun d ρ ω k => bindT tg d (wipeE ρ vs) fun ρ => evIf L ifs ρ ω fun b ρ ω => if b = true then ev L elt ρ ω (fun x ρ ω => k (some x.d) ρ ω) (fun _ _ => False) else k none ρ ω) (ds.drop (i + 1)) acc ρ ω
          fun acc ρ ω => PQ L B σ Q (.ow (.list acc)) (wipeE ρ vs) ω, fun H' h => ⟨_, by omega, rfl, h⟩, fun x H' y => ?_⟩
      obtain ⟨M', R', r⟩ := yl x H' y
      rw [hK]
      simp only [lcGo] at hgo
      refine bind_ok tg R' r hgo fun σ2 ρ2 R2 h2 w2 => ⟨(w2 vs hix).trans wipe_wipe, _, M', ρ2, ω, R2, evIf_mono ifs h2 fun b ρ3 ω3 h3 M3 H3 R3 => ?_⟩
      have ew : L2.wipe σ2 vs = L2.wipe σ vs := (w2 vs hix).trans wipe_wipe
      cases b with
      | false =>
        simp only [Bool.false_eq_true, if_false] at h3 ⊢
        exact ⟨hlt, M3, acc, xs, ρ3, ω3, by rw [← ew]; exact R3.wipe vs, hx, h3⟩
      | true =>
        simp only [if_true] at h3 ⊢
        refine ⟨_, M3, ρ3, ω3, R3, ev_mono elt h3 (fun x' ρ4 ω4 h4 M4 v4 H4 R4 V4 => ?_) fun _ _ z => z.elim⟩
        obtain ⟨M5, R5, r5, _⟩ := R4.share V4
        have hD4 := (R5.pn _ List.mem_cons_self).1
        refine ⟨xs, hD4, by rw [hx]; exact h4.1, hlt, M5, acc ++ [x'.d], xs ++ [v4], ρ4, ω4, ?_, by simp [hx], h4.2⟩
        have R6 := R5.wipe vs
        rw [ew] at R6
        have rs : RpA L.K H4 M5 xs acc := .ofMem hx fun q hq => R6.ho q (List.mem_append_left _ hq)
        obtain ⟨R7, V7⟩ := R6.pinOut rs nd
        obtain ⟨R8, V8, r8⟩ := R7.grow V7 hD4 r5
        obtain ⟨R9, _⟩ := R8.holdsOut hx
        have V9 : VR L B1 M5 (L2.wipe σ vs) (L2.upd H4 D (.lst (xs ++ [v4]))) (wipeE ρ4 vs) ω4 (.ref D) (.ow (.list (acc ++ [x'.d]))) := V8
        have R10 := R9.holdsIn r8
        obtain ⟨a, ys, e, _, R11⟩ := R10.pinIn (show VR L (B1.hds (xs ++ [v4]) (acc ++ [x'.d])) _ _ _ _ _ _ _ from V9)
        cases e
        have e2 := (R11.pn _ List.mem_cons_self).1
        rw [upd_same] at e2
        cases e2
        exact R11
    · have e : i = ds.length := by omega
      subst e
      rw [List.drop_length] at hgo
      simp only [lcGo] at hgo
      refine .inl ⟨(W _ sub _ M _ H _ ω R).2 (Nat.le_refl _), ?_⟩
      have rs : RpA L.K H M xs acc := .ofMem hx fun q hq => R.ho q (List.mem_append_left _ hq)
      obtain ⟨R7, V7⟩ := R.pinOut rs nd
      obtain ⟨R8, _⟩ := R7.holdsOut hx
      have R9 := R8
      rw [← hB1] at R9
      have R10 := hold_out R9
      refine hgo M _ H R10.unwipe ?_
      obtain ⟨a, e, o, nh⟩ := V7
      rw [← hB1] at o nh
      refine ⟨a, e, o, fun hd => nh ?_⟩
      rcases hd with ⟨j, d, k1, k2⟩ | hd
      · obtain ⟨b, s1, _⟩ := R10.sl j _ k1
        have z := (wipe_some s1).1
        rw [k2] at z
        cases z
        exact .inl ⟨j, d, k1, s1⟩
      · exact .inr hd
end
end Ev
namespace Ev
open L2 PyProof.Rows PySem.Calls PySem.Spec PySem RT
section
variable {prog : Program} {w : World} {A : Around} {E : Value → Shared → Prop} {s : Shared}
theorem nextOf_rt_item {it t : Addr} {i : Nat} {items : Array Value} {x : Value} {Q : Value → Shared → Prop} (hit : IsRt s.heap it t (i : Int)) (ht : IsTup s.heap t items) (hx : items[i]? = some x) (hsz : items.size ≤ sizeLine)
    (hQ : ∀ h', IsRt h' it t ((i : Int) - 1) → Heap.SameBut it s.heap h' → Q x { s with heap := h', toks := s.toks + 1 }) : wpAny (model prog w) A (Builtin.SmallTypes.nextOf (.ref it)) Q E s := by
  obtain ⟨o, ho, hc, hd⟩ := id hit
  have hi : i < items.size := (Array.getElem?_eq_some_iff.mp hx).1
  have hT : s.TypeIs (.ref t) "tuple" := IsTup.typeOf' ht
  rw [sizeLine_eq] at hsz
  unfold Builtin.SmallTypes.nextOf
  refine wpAny_bind (wpAny_callSpecial?_slot (name := Str.ofString "__next__") hit.typeIs slot_rt_next
    (wpAny_call_entry slot_rt_next hit.typeIs entry_rt_next ?_ (args_rt_next _)))
  unfold Builtin.«reversed.__next__»
  refine wpAny_bind (wpAny_of_eq (a := (Value.ref it, [])) rfl ?_)
  try dsimp only
  refine wpAny_bind (wpAny_field ho hd (x := .ref t) rfl ?_)
  try dsimp only
  refine wpAny_bind (wpAny_field ho hd (x := rawInt (i : Int)) rfl ?_)
  show wpAny _ _ (if (i : Int) < 0 then _ else _) _ _ s
  rw [if_neg (by omega)]
  try dsimp only
  refine wpAny_bind (wpAny_specialOf hT get_tuple ?_)
  try dsimp only
  try rw [if_neg (by decide)]
  try dsimp only
  refine wpAny_bind (wpAny_mkInt ?_)
  refine wpAny_bind (wpAny_attempt ?_)
  have fin : seqIndex? (i : Int) items.size = some i := seqIndex_of (by omega) (by omega)
  refine PyProof.Rows.getItem_tuple (s := { s with toks := s.toks + 1 }) ht (by omega) (by omega) fin hx ?_
  try dsimp only
  refine wpAny_bind (wpAny_field (s := { s with toks := s.toks + 1 }) ho hd (x := rawInt (i : Int)) rfl ?_)
  try dsimp only
  refine wpAny_bind (wpAny_setField (s := { s with toks := s.toks + 1 }) ho hd (by simp) ?_)
  first
  | refine wpAny_pure ⟨x, rfl, wpAny_pure (hQ _ ?_ (Heap.SameBut.update ..))⟩
  | refine wpAny_bind (wpAny_pure (wpAny_pure ⟨x, rfl, wpAny_pure (hQ _ ?_ (Heap.SameBut.update ..))⟩))
  exact ⟨_, Heap.get?_update_self _ ho (Obj.isFreed_of_fields (Obj.data_mapFields hd _)), (Obj.cls_mapFields ..).trans hc, by
    rw [Obj.data_mapFields hd]; simp⟩
theorem nextOf_rt_end {it t : Addr} {Q : Value → Shared → Prop} (hh : A.handled = none) (hit : IsRt s.heap it t (-1))
    (hE : ∀ h' e, Heap.ExtBut it s.heap h' → (∃ o, h'.get? e = some o ∧ o.cls = .type "StopIteration") → E (.ref e) { s with heap := h' }) : wpAny (model prog w) A (Builtin.SmallTypes.nextOf (.ref it)) Q E s := by
  obtain ⟨o, ho, hc, hd⟩ := id hit
  unfold Builtin.SmallTypes.nextOf
  refine wpAny_bind (wpAny_callSpecial?_slot (name := Str.ofString "__next__") hit.typeIs slot_rt_next
    (wpAny_call_entry slot_rt_next hit.typeIs entry_rt_next ?_ (args_rt_next _)))
  unfold Builtin.«reversed.__next__»
  refine wpAny_bind (wpAny_of_eq (a := (Value.ref it, [])) rfl ?_)
  try dsimp only
  refine wpAny_bind (wpAny_field ho hd (x := .ref t) rfl ?_)
  try dsimp only
  refine wpAny_bind (wpAny_field ho hd (x := rawInt (-1)) rfl ?_)
  show wpAny _ _ (if (-1 : Int) < 0 then _ else _) _ _ s
  rw [if_pos (by decide)]
  try dsimp only
  refine wpAny_bind (wpAny_rule ?_)
  refine wpAny_bind ?_
  wp_delta
  refine wpAny_bind (wpAny_setField ho hd (by simp) ?_)
  have ho2 := Heap.get?_update_self (Obj.mapFields (·.setIfInBounds 1 (rawInt (-1)))) ho (Obj.isFreed_of_fields (Obj.data_mapFields hd _))
  refine wpAny_setField (s := { s with heap := s.heap.update it (Obj.mapFields (·.setIfInBounds 1 (rawInt (-1)))) }) ho2 (Obj.data_mapFields hd _) (by simp) ?_
  try dsimp only
  first
  | show wpAny _ _ (newExc (.type "StopIteration") [] >>= _) _ _ _
  | (refine wpAny_bind ?_; show wpAny _ _ (newExc (.type "StopIteration") [] >>= _) _ _ _)
  | (refine wpAny_bind ?_; wp_delta; show wpAny _ _ (newExc (.type "StopIteration") [] >>= _) _ _ _)
  refine wpAny_bind ?_
  simp only [newExc, newTuple]
  refine wpAny_bind (wpAny_newObj_type ?_ (by size_fits))
  refine wpAny_bind (m := firstArgMember _ _) (wpAny_of_eq (a := Value.none) (by first | rfl | (simp only [firstArgMember]; rfl)) ?_)
  refine wpAny_newObj_type ?_ (by size_fits)
  simp only [raiseNew]
  refine wpAny_bind (wpAny_handled ?_)
  first | rw [show A.in1.handled = none from hh] | rw [hh]
  refine wpAny_bind (wpAny_pure (wpAny_throw ?_))
  refine hE _ _ ?_ ⟨_, Heap.get?_push_size _ rfl, rfl⟩
  refine ((?_ : Heap.ExtBut it s.heap _).push _).push _
  exact fun b ob hb e => (Heap.get?_update_other _ _ (Ne.symm hb)).trans ((Heap.get?_update_other _ _ (Ne.symm hb)).trans e)
theorem enum_rt_item {e it l : Addr} {i j : Nat} {items : Array Value} {x old : Value} {Q : Value → Shared → Prop}
    (he : IsEnum s.heap e it i old) (hit : IsRt s.heap it l (j : Int)) (hl : IsTup s.heap l items) (hsz : items.size ≤ sizeLine) (hx : items[j]? = some x) (hne : e ≠ it)
    (hQ : ∀ h', IsEnumOut h' e it ((i : Int) + 1) x s.heap.objs.size → IsRt h' it l ((j : Int) - 1) →
      h'.get? s.heap.objs.size = some { cls := .type "tuple", data := .seq #[.int i (s.toks + 1), x] } → h'.objs.size = s.heap.objs.size + 1 →
      (∀ b o, b ≠ e → b ≠ it → s.heap.get? b = some o → h'.get? b = some o) → Q (.ref s.heap.objs.size) { s with heap := h', toks := s.toks + 1 + 1 }) :
    wpAny (model prog w) A (Builtin.«enumerate.__next__» ⟨[.ref e], []⟩) (fun fin s' => ∃ v, fin = .done (.ret v) ∧ Q v s') E s := by
  obtain ⟨hp, g, d, tk, os⟩ := s
  show wpAny _ _ (field (.ref e) 2 >>= _) _ _ _
  refine wpAny_bind (wpAny_field he rfl (x := .ref it) rfl ?_)
  refine wpAny_bind (nextOf_rt_item hit hl hx hsz fun h₁ hit₁ hs₁ => ?_)
  replace hs₁ : Heap.SameBut it hp h₁ := hs₁
  have he₁ : IsEnum h₁ e it i old := (hs₁.2 e hne).trans he
  show wpAny _ _ (field (.ref e) 3 >>= _) _ _ ⟨h₁, g, d, tk + 1, os⟩
  refine wpAny_bind (wpAny_field he₁ rfl (x := rawInt i) rfl ?_)
  show wpAny _ _ (field (.ref e) 4 >>= _) _ _ ⟨h₁, g, d, tk + 1, os⟩
  refine wpAny_bind (wpAny_field he₁ rfl (x := .none) rfl ?_)
  show wpAny _ _ (mkInt i >>= _) _ _ ⟨h₁, g, d, tk + 1, os⟩
  refine wpAny_bind (wpAny_mkInt ?_)
  show wpAny _ _ (setField (.ref e) 3 (rawInt ((i : Int) + 1)) >>= _) _ _ ⟨h₁, g, d, tk + 1 + 1, os⟩
  refine wpAny_bind (wpAny_setField_rec he₁ (by simp) fun h₂ he₂ hs₂ => ?_)
  replace hs₂ : Heap.SameBut e h₁ h₂ := hs₂
  replace he₂ : IsEnum h₂ e it ((i : Int) + 1) old := he₂
  show wpAny _ _ (setField (.ref e) 4 .none >>= _) _ _ ⟨h₂, g, d, tk + 1 + 1, os⟩
  refine wpAny_bind (wpAny_setField_rec he₂ (by simp) fun h₃ he₃ hs₃ => ?_)
  replace hs₃ : Heap.SameBut e h₂ h₃ := hs₃
  replace he₃ : IsEnum h₃ e it ((i : Int) + 1) old := he₃
  show wpAny _ _ (newTuple [.int i (tk + 1), x] >>= _) _ _ ⟨h₃, g, d, tk + 1 + 1, os⟩
  refine wpAny_bind (wpAny_newTuple ?_)
  have he₄ : IsEnum (h₃.push { cls := .type "tuple", data := .seq #[.int i (tk + 1), x] }) e it ((i : Int) + 1) old := Heap.get?_push_of_some _ he₃
  generalize hh₄ : h₃.push { cls := .type "tuple", data := .seq #[.int i (tk + 1), x] } = h₄ at he₄
  have hsz' : h₃.objs.size = hp.objs.size := by rw [hs₃.1, hs₂.1, hs₁.1]
  have hel : e < hp.objs.size := Heap.lt_size he
  have ht₄ : h₄.get? hp.objs.size = some { cls := .type "tuple", data := .seq #[.int i (tk + 1), x] } := by rw [← hh₄, ← hsz']; exact Heap.get?_push_size _ rfl
  have hz₄ : h₄.objs.size = hp.objs.size + 1 := by rw [← hh₄, Heap.size_push, hsz']
  have hk₄ : ∀ b o, b ≠ e → b ≠ it → hp.get? b = some o → h₄.get? b = some o := fun b o hbe hbi hb => by
    rw [← hh₄]; exact Heap.get?_push_of_some _ (hs₃.extBut b o hbe (hs₂.extBut b o hbe (hs₁.extBut b o hbi hb)))
  have hit₄ : IsRt h₄ it l ((j : Int) - 1) := by
    rw [← hh₄]
    exact hit₁.at fun o ho => Heap.get?_push_of_some _ (hs₃.extBut it o (Ne.symm hne) (hs₂.extBut it o (Ne.symm hne) ho))
  show wpAny _ _ (Builtin.SmallTypes.ownedTupleIsFree (.ref e) >>= _) _ _ ⟨h₄, g, d, tk + 1 + 1, os⟩
  rw [hsz']
  clear hh₄ he₃ hs₃ he₂ hs₂ he₁ hs₁ hit₁ hsz' h₃ h₂ h₁
  refine wpAny_bind ?_
  · unfold Builtin.SmallTypes.ownedTupleIsFree
    refine wpAny_bind (wpAny_field he₄ rfl (x := .none) rfl (wpAny_pure ?_))
    simp only [if_true]
    refine wpAny_bind (wpAny_rule ?_)
    refine wpAny_bind (wpAny_field he₄ rfl (x := old) rfl ?_)
    refine wpAny_bind (wpAny_setField_rec he₄ (by simp) fun h₅ he₅ hs₅ => ?_)
    replace hs₅ : Heap.SameBut e h₄ h₅ := hs₅
    replace he₅ : IsEnum h₅ e it ((i : Int) + 1) x := he₅
    show wpAny _ _ (Builtin.SmallTypes.ownedTupleHandOut (.ref e) (.ref hp.objs.size) >>= _) _ _ ⟨h₅, g, d, tk + 1 + 1, os⟩
    refine wpAny_bind ?_
    · unfold Builtin.SmallTypes.ownedTupleHandOut
      refine wpAny_bind (wpAny_setField_rec he₅ (by simp) fun h₆ he₆ hs₆ => ?_)
      replace hs₆ : Heap.SameBut e h₅ h₆ := hs₆
      replace he₆ : IsEnumOut h₆ e it ((i : Int) + 1) x hp.objs.size := he₆
      refine wpAny_setField_rec he₆ (by simp) fun h₇ he₇ hs₇ => ?_
      replace hs₇ : Heap.SameBut e h₆ h₇ := hs₇
      replace he₇ : IsEnumOut h₇ e it ((i : Int) + 1) x hp.objs.size := he₇
      refine wpAny_bind (wpAny_letGo (wpAny_pure ⟨_, rfl, hQ h₇ he₇ ?_ ?_ ?_ ?_⟩))
      · exact hit₄.at fun o ho => hs₇.extBut it o (Ne.symm hne) (hs₆.extBut it o (Ne.symm hne) (hs₅.extBut it o (Ne.symm hne) ho))
      · exact hs₇.extBut _ _ (Nat.ne_of_gt hel) (hs₆.extBut _ _ (Nat.ne_of_gt hel) (hs₅.extBut _ _ (Nat.ne_of_gt hel) ht₄))
      · rw [hs₇.1, hs₆.1, hs₅.1, hz₄]
      · exact fun b o hbe hbi hb => hs₇.extBut b o hbe (hs₆.extBut b o hbe (hs₅.extBut b o hbe (hk₄ b o hbe hbi hb)))
theorem pyNext_ert_item {e it l : Addr} {i j : Nat} {items : Array Value} {x old : Value} {Q : Option Value → Shared → Prop}
    (he : IsEnum s.heap e it i old) (hit : IsRt s.heap it l (j : Int)) (hl : IsTup s.heap l items) (hsz : items.size ≤ sizeLine) (hx : items[j]? = some x) (hne : e ≠ it)
    (hQ : ∀ h', IsEnumOut h' e it ((i : Int) + 1) x s.heap.objs.size → IsRt h' it l ((j : Int) - 1) →
      h'.get? s.heap.objs.size = some { cls := .type "tuple", data := .seq #[.int i (s.toks + 1), x] } → h'.objs.size = s.heap.objs.size + 1 →
      (∀ b o, b ≠ e → b ≠ it → s.heap.get? b = some o → h'.get? b = some o) → Q (some (.ref s.heap.objs.size)) { s with heap := h', toks := s.toks + 1 + 1 }) :
    wpAny (model prog w) A (pyNext (.ref e)) Q E s := by
  have hT : s.TypeIs (.ref e) "enumerate" := ⟨_, he, rfl⟩
  unfold pyNext
  exact wpAny_bind (wpAny_attempt (wpAny_callSpecial?_slot (name := Str.ofString "__next__") hT F.slot_enumerate_next
    (wpAny_call_entry F.slot_enumerate_next hT F.entry_enumerate_next
      (enum_rt_item he hit hl hsz hx hne fun h' a b c d k => wpAny_pure (hQ h' a b c d k)) (F.args_enumerate_next_1 _))))
theorem pyNext_ert_end {e it l : Addr} {i : Int} {old : Value} {Q : Option Value → Shared → Prop} (hh : A.handled = none)
    (he : IsEnum s.heap e it i old) (hit : IsRt s.heap it l (-1))
    (hQ : ∀ h', Heap.ExtBut it s.heap h' → Q none { s with heap := h' }) : wpAny (model prog w) A (pyNext (.ref e)) Q E s := by
  have hT : s.TypeIs (.ref e) "enumerate" := ⟨_, he, rfl⟩
  unfold pyNext
  refine wpAny_bind (wpAny_attempt (wpAny_callSpecial?_slot (name := Str.ofString "__next__") hT F.slot_enumerate_next
    (wpAny_call_entry F.slot_enumerate_next hT F.entry_enumerate_next ?_ (F.args_enumerate_next_1 _))))
  show wpAny _ _ (field (.ref e) 2 >>= _) _ _ _
  refine wpAny_bind (wpAny_field he rfl (x := .ref it) rfl ?_)
  refine wpAny_bind (nextOf_rt_end hh hit fun h' x he' hx' => ?_)
  obtain ⟨o, ho, hc⟩ := hx'
  refine wpAny_bind (wpAny_isInstance (T := "StopIteration") (b := true) ⟨o, ho, hc⟩ isSubtype_stop ?_)
  exact wpAny_pure (hQ _ he')
theorem meets_enum_rt (it t : Addr) (i : Int) :
    Meets (Builtin.«enumerate.__new__» ⟨[.type "enumerate", .ref it], []⟩) (fun _ R s => IsRt s.heap it t i ∧
      R (.ok (.ret (.ref s.heap.objs.size))) { s with heap := s.heap.push { cls := .type "enumerate", data := .fields #[.none, .bool false, .ref it, rawInt 0, .none, .none] } }) :=
  .of_wp fun prog w A R s h => by
    obtain ⟨hp, g, d, tk, os⟩ := s; obtain ⟨hl, h⟩ := h
    have hsub := sub_enumerate
    have hT : Shared.TypeIs ⟨hp, g, d, tk, os⟩ (.ref it) "reversed" := IsRt.typeIs (s := ⟨hp, g, d, tk, os⟩) hl
    wp_walk
    refine wpAny_stack_any fun st => wpAny_pure ?_
    split
    · rename_i c _ _ _ _ _
      cases (c == Value.type "enumerate")
      · wp_walk using iter_rt hl
        exact ⟨_, rfl, h⟩
      · wp_walk using iter_rt hl
        exact ⟨_, rfl, h⟩
    · wp_walk using iter_rt hl
      exact ⟨_, rfl, h⟩
theorem call_enum_rt {it t : Addr} {i : Int} {Q : Value → Shared → Prop} (hit : IsRt s.heap it t i)
    (h : ∀ h', IsEnum h' s.heap.objs.size it 0 .none → IsRt h' it t i → (∀ b o, s.heap.get? b = some o → h'.get? b = some o) → Q (.ref s.heap.objs.size) { s with heap := h' }) :
    wpAny (model prog w) A (call (.type "enumerate") [.ref it]) Q E s := by
  refine callType_new F.called_enumerate (by decide) (F.typeCall_enumerate_1 _) (F.newCall_enumerate_1 _) (fun obj => F.args_object_init_2 obj _) F.entry_enumerate_new
    (meets_enum_rt it t i) ⟨hit, ?_⟩
  have he : IsEnum (s.heap.push { cls := .type "enumerate", data := .fields #[.none, .bool false, .ref it, rawInt 0, .none, .none] }) s.heap.objs.size it 0 .none := Heap.get?_push_size _ rfl
  exact ⟨⟨_, he, rfl⟩, h _ he (hit.at fun o ho => Heap.get?_push_of_some _ ho) fun b o x => Heap.get?_push_of_some _ x⟩
end
def IteR (K : PySem.W.Frag) (a : Addr) (n : Nat) : It :=
  ⟨fun i H => i < n ∧ ∃ (xs : List V) (x : V), SqT K H a xs ∧ xs[n - 1 - i]? = some x, fun i H v H' => ∃ T x, v = .ref T ∧ H T = none ∧ H' = upd H T (.tup [.int (i : Nat), x]) ∧ ∀ xs, SqT K H a xs → xs[n - 1 - i]? = some x, fun i _ => n ≤ i⟩
theorem turn_ert {P : Program} {w : World} {K : PySem.W.Frag} {elts : List Expr} {kk : Nat} {tpos : Pos} (a e it : Addr) (n : Nat) :
    Turn P w K (.Tuple elts kk tpos) (IteR K a n) [e, it] e (fun i h => i ≤ n ∧ (∃ old, IsEnum h e it ((i : Nat) : Int) old) ∧ IsRt h it a ((n : Int) - 1 - (i : Nat)) ∧ e ≠ it) where
  mem := by simp
  obj := fun i h st b hb => by
    obtain ⟨_, ⟨old, he⟩, ⟨o, ho, hc, hd⟩, _⟩ := st
    have e' : b = e ∨ b = it := by simpa using hb
    rcases e' with z | z
    · rw [z]; exact ⟨_, he, fun v q => nomatch q⟩
    · rw [z]; exact ⟨o, ho, fun v q => by rw [hd] at q; cases q⟩
  keep := fun i h h' st k => let ⟨hn, ⟨old, he⟩, hi, hne⟩ := st; ⟨hn, ⟨old, k e (by simp) _ he⟩, hi.at fun o q => k it (by simp) o q, hne⟩
  item := by
    intro X hP hw hK hc i pins s σ H E I hf st hg
    subst hP hw hK
    obtain ⟨hn, ⟨old, he⟩, hit, hne⟩ := st
    obtain ⟨hin, xs, x, hq, hx⟩ := hg
    obtain ⟨its, rv, p, hz⟩ := I.tuple hq
    obtain ⟨u, hu, ru⟩ := rv.get hx
    have hel : e < s.heap.objs.size := Heap.lt_size he
    have hil : it < s.heap.objs.size := by obtain ⟨_, q, _⟩ := hit; exact Heap.lt_size q
    have e1 : (n : Int) - 1 - ((i : Nat) : Int) = ((n - 1 - i : Nat) : Int) := by omega
    rw [e1] at hit
    have hz' : its.toArray.size ≤ sizeLine := by rw [List.size_toArray, ← rv.length]; exact hz
    refine pyNext_ert_item he hit p hz' (x := u) (by simpa using hu) hne fun h' ho hit' hT hsz hk => ?_
    refine ⟨_, rfl, wpAny_letOwnedTupleGo_enum (s := { s with heap := h', toks := s.toks + 1 + 1 }) ho fun h'' he' sb => ?_⟩
    have hT2 : h''.get? s.heap.objs.size = some { cls := .type "tuple", data := .seq #[.int i (s.toks + 1), u] } := (sb.2 _ (Nat.ne_of_gt hel)).trans hT
    have new : ObjOk X.prog X.w (upd H s.heap.objs.size (.tup [.int (i : Nat), x])) h'' s.heap.objs.size (.tup [.int (i : Nat), x]) :=
      ⟨by show 2 ≤ sizeLine; decide, [.int i (s.toks + 1), u], .cons ⟨_, rfl⟩ (.cons ru .nil), ⟨_, hT2, rfl, _, rfl⟩⟩
    have I1 : L2.Inv X pins σ (upd H s.heap.objs.size (.tup [.int (i : Nat), x])) { s with heap := h'', toks := s.toks + 1 + 1 } :=
      I.turnedNew (ch := [e, it]) (fun b ob hb q => (sb.2 b (fun z => hb (by simp [z]))).trans (hk b ob (fun z => hb (by simp [z])) (fun z => hb (by simp [z])) q)) hf (Nat.le_refl _) new
    refine ⟨.ref s.heap.objs.size, _, I1, rfl, ⟨_, x, rfl, I.hok.fresh (Nat.le_refl _), rfl, fun ys hy => by rw [I.tuple_inj hy hq]; exact hx⟩, ⟨hin, ⟨u, ?_⟩, ?_, hne⟩, fun b hb => ?_⟩
    · have e1 : ((i + 1 : Nat) : Int) = (i : Int) + 1 := by omega
      rw [e1]; exact he'
    · have e2 : ((n - 1 - i : Nat) : Int) - 1 = (n : Int) - 1 - ((i + 1 : Nat) : Int) := by omega
      rw [e2] at hit'
      exact hit'.at fun o q => (sb.2 it (Ne.symm hne)).trans q
    · have hb' : b < s.heap.objs.size := by
        have e' : b = e ∨ b = it := by simpa using hb
        rcases e' with z | z
        · rw [z]; exact hel
        · rw [z]; exact hil
      rw [upd_ne (Nat.ne_of_lt hb')]
      exact (hf b hb).1
  done := by
    intro X hP hw hK hc i pins s σ H E I hf st hg
    subst hP hw hK
    obtain ⟨hn, ⟨old, he⟩, hit, hne⟩ := st
    obtain ⟨f0, f1, f2, f3, f4, f5⟩ := hf it (by simp)
    have hge : n ≤ i := hg
    have e1 : (n : Int) - 1 - ((i : Nat) : Int) = -1 := by omega
    rw [e1] at hit
    exact pyNext_ert_end (I.ok.hd hc) he hit fun h' eb => ⟨rfl, I.turned (t' := s.toks) (fun b o hb q => eb b o hb q) f0 f1 f3 f4 f5⟩
  self := fun A i s Q E st h => let ⟨_, ⟨_, he⟩, _⟩ := st; wpAny_pyIter_enum he h
def iEnumRev (K : PySem.W.Frag) (te : TE) : TI := fun σ H R => te σ H fun v H1 => ∃ (a : Addr) (xs : List V), v = .ref a ∧ SqT K H1 a xs ∧ R (IteR K a xs.length) H1
theorem pi_enumRev {X : Cx} {e : Expr} {te : TE} {p pr pm pos tpos : Pos} {elts : List Expr} {kk : Nat} (hg : Gl X "enumerate") (hm : X.mg "enumerate" = none) (hg2 : Gl X "reversed") (hm2 : X.mg "reversed" = none) (he : PE X e te) (hs : starEach [e] X.env = (false, eval e X.env) :: starEach [] X.env) :
    PI X (.Tuple elts kk tpos) (.Call (.Name "enumerate" p) [.Call (.Name "reversed" pr) [e] [] pm] [] pos) (iEnumRev X.K te) := by
  refine ⟨fun pins s σ H R I h => ?_⟩
  refine Call_ (ld_blt I hg hm boot_enumerate (PyProof.Rows.callWith_type1 (args_cons ?_ rfl) rfl rfl))
  refine Call_ (ld_blt I hg2 hm2 PyProof.Rows.boot_reversed (PyProof.Rows.callWith_type1 (args_cons (thn (he.run pins s σ H _ I h) fun u s1 ⟨v, H1, I1, r1, q1⟩ => args_nil ?_) hs) hs rfl))
  obtain ⟨a, xs, ev, hq, q⟩ := q1
  subst ev
  obtain rfl : u = Value.ref a := r1
  obtain ⟨its, rv, p', hz⟩ := I1.tuple hq
  have hl := rv.length
  have hn := line63
  have e1 : ((its.toArray.size : Nat) : Int) - 1 = (xs.length : Int) - 1 - ((0 : Nat) : Int) := by simp only [List.size_toArray]; omega
  refine call_reversed_tup p' (fun A E Q k => len_tuple p' (by simp only [List.size_toArray] <;> omega) k) (args_nil ?_)
  have I2 : L2.Inv X pins σ H1 { s1 with heap := s1.heap.push (rtObj a ((its.toArray.size : Int) - 1)), toks := s1.toks + 1 + 1 } := I1.kept (t' := s1.toks + 1 + 1) fun b ob q => Heap.get?_push_of_some _ q
  have hrt : IsRt (s1.heap.push (rtObj a ((its.toArray.size : Int) - 1))) s1.heap.objs.size a ((its.toArray.size : Int) - 1) := ⟨_, Heap.get?_push_size _ rfl, rfl, rfl⟩
  refine call_enum_rt (s := { s1 with heap := s1.heap.push (rtObj a ((its.toArray.size : Int) - 1)), toks := s1.toks + 1 + 1 }) hrt fun h' hen hrt' hk => wpAny_pyIter_enum hen ?_
  have I3 : L2.Inv X pins σ H1 { s1 with heap := h', toks := s1.toks + 1 + 1 } := I2.kept (t' := s1.toks + 1 + 1) hk
  have hsz : (s1.heap.push (rtObj a ((its.toArray.size : Int) - 1))).objs.size = s1.heap.objs.size + 1 := Heap.size_push ..
  refine ⟨_, [(s1.heap.push (rtObj a ((its.toArray.size : Int) - 1))).objs.size, s1.heap.objs.size], _, _, H1, rfl, I3, turn_ert a _ s1.heap.objs.size xs.length, ⟨Nat.zero_le _, ⟨.none, hen⟩, ?_, by rw [hsz]; exact Nat.succ_ne_self _⟩, fun b hb => ?_, q⟩
  · rw [← e1]
    exact hrt'
  · have hle : s1.heap.objs.size ≤ b := by
      have e' : b = (s1.heap.push (rtObj a ((its.toArray.size : Int) - 1))).objs.size ∨ b = s1.heap.objs.size := by simpa using hb
      rcases e' with z | z
      · rw [z, hsz]; exact Nat.le_add_right _ _
      · rw [z]; exact Nat.le_refl _
    exact I1.fpOk hle (I1.hok.fresh hle)
section
variable {L : Lv} {X : Cx} {E : XK}
theorem enumD_get : ∀ (ds : List D) (n i : Nat), (enumD n ds)[i]? = (ds[i]?).map fun d => .tuple [.int ((n + i : Nat)), d]
  | [], n, i => by simp [enumD]
  | d :: ds, n, 0 => by simp [enumD]
  | d :: ds, n, i + 1 => by
    simp only [enumD, List.getElem?_cons_succ]
    rw [enumD_get ds (n + 1) i]
    have e : n + 1 + i = n + (i + 1) := by omega
    rw [e]
theorem enumD_len : ∀ (ds : List D) (n : Nat), (enumD n ds).length = ds.length
  | [], n => rfl
  | d :: ds, n => by simp [enumD, enumD_len ds (n + 1)]
theorem wk_ert {a : Addr} {ds : List D} {K : PySem.W.Frag} (hK : K = L.K) : Wk L [(V.ref a, PyData.tuple ds)] (IteR K a ds.length) (enumD 0 ds.reverse) := by
  intro B m i M σ H ρ ω R
  subst hK
  obtain ⟨b, xs, e, h1, r⟩ := (R.ho _ (m _ List.mem_cons_self)).sqt
  cases e
  refine ⟨fun d hd => ?_, fun hl => by rw [enumD_len, List.length_reverse] at hl; exact hl⟩
  rw [enumD_get] at hd
  cases e : ds.reverse[i]? with
  | none => rw [e] at hd; cases hd
  | some d' =>
    rw [e] at hd
    cases hd
    obtain ⟨hi, _⟩ := List.getElem?_eq_some_iff.mp e
    simp only [List.length_reverse] at hi
    rw [List.getElem?_reverse hi] at e
    obtain ⟨v, e1, r1⟩ := r.get e
    refine ⟨⟨hi, xs, v, h1, e1⟩, fun x H' ⟨T, y, e2, e3, e4, k⟩ => ?_⟩
    subst e2 e4
    have e5 := k xs h1
    rw [e1] at e5
    cases e5
    refine ⟨M, R.new e3, .tup upd_same ?_ (.cons ?_ (.cons (r1.exd (exd_new e3)) .nil))⟩
    · intro mm
      obtain ⟨o, q, _⟩ := R.af.mt _ mm
      rw [e3] at q
      cases q
    · rw [Nat.zero_add]
      exact .int _
theorem s_enumRev (hK : X.K = L.K) (bn : ∀ x ∈ bNames, X.mg x = none) {tg : Tg} {p pn pm pr : Pos} {e : Ex} (ht : tg.isTup = true) (h1 : glB X.env.scope "enumerate" = true) (h2 : glB X.env.scope "reversed" = true) (he : PE X (un e) (rd L E e)) :
    PI X (unT tg) (unI (.enumRev p pn pm pr e)) (rdI L E (.enumRev p pn pm pr e)) := by
  cases tg with
  | nm => cases ht
  | tup2 k q a b =>
    refine PI_imp (pi_enumRev (gl_of h1).1 (bn _ (by decide)) (gl_of h2).1 (bn _ (by decide)) he (un_star e _ _)) ?_
    rintro σ H R ⟨B, M, ρ, ω, RR, h⟩
    simp only [evI] at h
    refine ⟨B, M, ρ, ω, RR, ev_mono e h (fun x ρ1 ω1 ⟨ds, e1, h1⟩ M1 v1 H1 R1 V1 => ?_) fun _ _ h => h⟩
    obtain ⟨M2, R2, r, _⟩ := R1.share V1
    rw [e1] at r
    obtain ⟨a, xs, e2, g1, g2⟩ := r.sqt
    subst e2
    refine ⟨a, xs, rfl, hK ▸ g1, ?_⟩
    rw [g2.len]
    exact h1 [(_, _)] _ _ _ (R2.holdIn r) (wk_ert hK)
end
end Ev
namespace Ev
open L2 PyProof.Rows PySem.Calls PySem.Spec PySem
section
variable {L : Lv} {T : Tab}
theorem pt_of {X : Cx} {E : XK} {t : Ex} (he : PE X (un t) (rd L E t)) (hs : ∀ whole, isTrue (un t) X.env whole = (do let v ← whole; standAt (un t).pos; holding [v] (truthy v))) : PT X (un t) (rdT L E t) :=
  PT_imp (pt_val he hs) fun σ H Q h => rdT_ev h
theorem blk_gd {X : Cx} {E : XK} (G : Gd L T X E) (s : Shared) (H : Hp) (sc : Scope) (ce : Env) (fp : List Addr) : Gd L T.off (X.blk s H sc ce fp) E0 :=
  ⟨G.calm, G.nd, G.gr, fun pins σ H s e s' I h => by
    obtain ⟨_, _, _, _, _, _, _, _, _, _, _, _, z⟩ := h
    exact z, PassesOwn.never, let ⟨k, F, hr⟩ := G.fx; ⟨k, F.off, hr.mono (Nat.le_add_right _ _)⟩, fun x h => nomatch (show (none : Option Str) = some x from h)⟩
theorem pe_both {X : Cx} {E : XK} {t : Ex} {t0 : TE} (h : ∃ t0, PE X (un t) t0 ∧ PT X (un t) (tTest t0) ∧ ∀ σ H Q, rd L E t σ H Q → t0 σ H Q) : PE X (un t) (rd L E t) ∧ PT X (un t) (rdT L E t) := by
  obtain ⟨t0, h1, h2, h3⟩ := h
  exact ⟨PE_imp h1 h3, PT_imp h2 fun σ H Q q => h3 _ _ _ (rdT_ev q)⟩
mutual
theorem Rp.dpN {K : PySem.W.Frag} {H : Hp} {M : Addr → Prop} : ∀ {v : V} {d : D}, Rp K H M v d → d.hasDict = false → Dp K H v d
  | _, _, .non, _ => .non
  | _, _, .bl b, _ => .bl b
  | _, _, .int i, _ => .int i
  | _, _, .str x, _ => .str x
  | _, _, .lst h n r, z => .lst (.inl (.inl h)) (RpA.dpN r (by simpa [PyData.hasDict] using z))
  | _, _, .tup h n r, z => .tup (.inl (.inl h)) (RpA.dpN r (by simpa [PyData.hasDict] using z))
  | _, _, .tupK h r, z => .tup (.inr h) (RpA.dpN r (by simpa [PyData.hasDict] using z))
  | _, _, .rf, z => by simp [RF, PyData.hasDict] at z
  | _, _, .fz _ _ _, z => by simp [FZ, PyData.hasDict] at z
theorem RpA.dpN {K : PySem.W.Frag} {H : Hp} {M : Addr → Prop} : ∀ {vs : List V} {ds : List D}, RpA K H M vs ds → PyData.hasDictAll ds = false → DpAll K H vs ds
  | _, _, .nil, _ => .nil
  | _, _, .cons r t, z => by
    simp only [PyData.hasDictAll, Bool.or_eq_false_iff] at z
    exact .cons (Rp.dpN r z.1) (RpA.dpN t z.2)
end
def rRepr (K : PySem.W.Frag) : List V → Hp → VK → Prop := fun vs H Q => ∃ v d, vs = [v] ∧ Dp K H v d ∧ shows d = true ∧ Q (.str d.shown) H
theorem call_reprD {X : Cx} (hg : X.A.guards = some []) (hu : X.A.units + 66 < cLine) : CallR X (.builtin "repr") (rRepr X.K) := by
  intro pins s σ H vs us Q I r h
  obtain ⟨v, d, rfl, hd, hs, q⟩ := h
  obtain ⟨u, rfl, ru⟩ := vals1 r
  obtain ⟨as, rd⟩ := Dp.reads I d v u hd ru
  simp only [shows, Bool.and_eq_true, Bool.not_eq_true', decide_eq_true_eq] at hs
  obtain ⟨⟨⟨s1, s2⟩, s3⟩, s4⟩ := hs
  have big : ∀ {a : Addr}, u = .ref a → wpAny (model X.prog X.w) X.A (call (.builtin "repr") [u]) (EP X pins σ Q) X.xe s := by
    intro a e
    subst e
    exact repr_of_reads' rd s1 (PyData.noDict_hsm s2) hg (by omega) (fun _ _ e => e) (fun h' u tk hk => ⟨.str d.shown, H, I.kept hk, ⟨u, rfl⟩, q⟩) s4
  cases hd with
  | non =>
    cases ru
    exact PySem.P.repr_of_none ⟨.str _, H, I.tok _, ⟨_, rfl⟩, q⟩
  | bl b =>
    cases ru
    refine PySem.P.repr_of_bool ⟨.str (if b then "True" else "False"), H, I.tok _, ⟨_, rfl⟩, ?_⟩
    cases b <;> exact q
  | int i =>
    obtain ⟨t, rfl⟩ := ru
    simp only [PyData.showable, decide_eq_true_eq] at s1
    exact PySem.P.repr_of_int s1 ⟨.str _, H, I.tok _, ⟨_, rfl⟩, q⟩
  | str x =>
    obtain ⟨t, rfl⟩ := ru
    exact PySem.P.repr_of_str ⟨.str _, H, I.tok _, ⟨_, rfl⟩, q⟩ s4
  | lst h1 h2 =>
    cases ru
    exact big rfl
  | tup h1 h2 =>
    cases ru
    exact big rfl
theorem s_reprEq {X : Cx} {E : XK} (hK : X.K = L.K) (hgu : X.A.guards = some []) (hu : X.A.units + 66 < cLine) (bn : ∀ x ∈ bNames, X.mg x = none) {p p1 p2 q1 q2 : Pos} {a b : Ex} (hg : glB X.env.scope "repr" = true) (ha : PE X (un a) (rd L E a)) (hb : PE X (un b) (rd L E b)) :
    ∃ t, PE X (un (.reprEq p p1 p2 q1 q2 a b)) t ∧ PT X (un (.reprEq p p1 p2 q1 q2 a b)) (tTest t) ∧ ∀ σ H Q, rd L E (.reprEq p p1 p2 q1 q2 a b) σ H Q → t σ H Q := by
  obtain ⟨g, gd⟩ := gl_of hg
  have ca : PE X (.Call (.Name "repr" q1) [un a] [] p1) _ := pe_callB (call_reprD hgu hu) g (bn _ (by decide)) boot_repr (pa_cons ha pa_nil (un_star a _ _)) (by decide) gd (un_star a _ _) rfl
  have cb : PE X (.Call (.Name "repr" q2) [un b] [] p2) _ := pe_callB (call_reprD hgu hu) g (bn _ (by decide)) boot_repr (pa_cons hb pa_nil (un_star b _ _)) (by decide) gd (un_star b _ _) rfl
  refine ⟨_, pe_cmpR op_eq ca cb rfl, pt_cmpR op_eq ca cb rfl, ?_⟩
  rintro σ H Q ⟨B, M, ρ, ω, R, h⟩
  simp only [ev] at h
  refine ⟨B, M, ρ, ω, R, ev_mono a h (fun x ρ1 ω1 ⟨hs, h1⟩ M1 v1 H1 R1 V1 => ?_) fun _ _ h => h⟩
  obtain ⟨M1', R1', r1, _⟩ := R1.share V1
  have nd : x.d.hasDict = false := by
    have z := hs
    simp only [shows, Bool.and_eq_true, Bool.not_eq_true'] at z
    exact z.1.1.2
  refine ⟨v1, x.d, rfl, hK ▸ r1.dpN nd, hs, B, M1', ρ1, ω1, R1', ev_mono b h1 (fun y ρ2 ω2 ⟨e, q⟩ M2 v2 H2 R2 V2 => ?_) fun _ _ h => h⟩
  obtain ⟨M2', R2', r2, _⟩ := R2.share V2
  rw [← e] at r2
  refine ⟨v2, x.d, rfl, hK ▸ r2.dpN nd, hs, rfl, ?_⟩
  rw [decide_eq_true rfl]
  exact q M2' _ H2 R2' (.bl true)
mutual
theorem snd_e : ∀ (t : Ex) (T : Tab) (X : Cx) (E : XK), Gd L T X E → wf X.N T X.env.scope X.fn t = true → PE X (un t) (rd L E t) ∧ PT X (un t) (rdT L E t)
  | .var p i x, T, X, E, G, h => by
    simp only [wf] at h
    have he : PE X (un (.var p i x)) (rd L E (.var p i x)) := PE_imp (s_var h) fun σ H Q q => r_var q
    exact ⟨he, pt_of he fun _ => rfl⟩
  | .non k p, T, X, E, G, h => by
    have he : PE X (un (.non k p)) (rd L E (.non k p)) := PE_imp pe_non fun σ H Q q => r_con (fun h => by simp only [ev] at h; exact h) (fun _ _ => .non) q
    exact ⟨he, pt_of he fun _ => rfl⟩
  | .bl b k p, T, X, E, G, h => by
    have he : PE X (un (.bl b k p)) (rd L E (.bl b k p)) := PE_imp pe_bl fun σ H Q q => r_con (fun h => by simp only [ev] at h; exact h) (fun _ _ => .bl b) q
    exact ⟨he, pt_of he fun _ => rfl⟩
  | .int i k p, T, X, E, G, h => by
    have he : PE X (un (.int i k p)) (rd L E (.int i k p)) := PE_imp pe_int fun σ H Q q => r_con (fun h => by simp only [ev] at h; exact h) (fun _ _ => .int i) q
    exact ⟨he, pt_of he fun _ => rfl⟩
  | .str s k p, T, X, E, G, h => by
    have he : PE X (un (.str s k p)) (rd L E (.str s k p)) := PE_imp pe_str fun σ H Q q => r_con (fun h => by simp only [ev] at h; exact h) (fun _ _ => .str s) q
    exact ⟨he, pt_of he fun _ => rfl⟩
  | .gc p x g, T, X, E, G, h => by
    simp only [wf, Bool.and_eq_true, decide_eq_true_eq] at h
    obtain ⟨g1, gd⟩ := gl_of h.1
    obtain ⟨k, F, hr⟩ := G.fx
    have he : PE X (un (.gc p x g)) (rd L E (.gc p x g)) := by
      cases q : L.gv g with
      | none =>
        refine ⟨fun pins s σ H Q I ⟨B, M, ρ, ω, R, z⟩ => ?_⟩
        simp only [ev] at z
        obtain ⟨d, e, _⟩ := z
        rw [q] at e
        cases e
      | some d =>
        obtain ⟨u, v, hm, r, rp⟩ := F.gc g x d h.2 q
        refine PE_imp (pe_glob g1 hm r gd) fun σ H Q z => r_con (d := d) (fun h => ?_) rp z
        simp only [ev] at h
        obtain ⟨d', e, h⟩ := h
        rw [q] at e
        cases e
        exact h
    exact ⟨he, pt_of he fun _ => rfl⟩
  | .bin op p a b, T, X, E, G, h => by
    simp only [wf, Bool.and_eq_true] at h
    obtain ⟨k, F, hr⟩ := G.fx
    have ha := (snd_e a T X E G h.1).1
    have hb := (snd_e b T X E G h.2).1
    have he : PE X (un (.bin op p a b)) (rd L E (.bin op p a b)) := by
      obtain ⟨r, ho, hr⟩ := op_s (L := L) F.hK op
      refine PE_imp (pe_op ho ha hb) fun σ H Q z => two_op (g := binD op) hr ?_
      obtain ⟨B, M, ρ, ω, R, z⟩ := z
      simp only [ev] at z
      exact ⟨B, M, ρ, ω, R, z⟩
    exact ⟨he, pt_of he fun _ => rfl⟩
  | .cmp op p a b, T, X, E, G, h => by
    simp only [wf, Bool.and_eq_true] at h
    obtain ⟨k, F, hr⟩ := G.fx
    have hu : X.A.units + 65 < cLine := by have := hr.un; omega
    have ha := (snd_e a T X E G h.1).1
    have hb := (snd_e b T X E G h.2).1
    obtain ⟨r, ho, hr⟩ := cmp_s (L := L) F.hK hu op
    have go : ∀ σ H Q, rd L E (.cmp op p a b) σ H Q → tOp r (rd L E a) (rd L E b) σ H Q := fun σ H Q z => by
      refine two_op (g := cmpD op) hr ?_
      obtain ⟨B, M, ρ, ω, R, z⟩ := z
      simp only [ev] at z
      exact ⟨B, M, ρ, ω, R, z⟩
    exact ⟨PE_imp (pe_cmpR ho ha hb (un_mark op b)) go, PT_imp (pt_cmpR ho ha hb (un_mark op b)) fun σ H Q q => go _ _ _ (rdT_ev q)⟩
  | .cmp2 o1 o2 p a b c, T, X, E, G, h => by
    simp only [wf, Bool.and_eq_true] at h
    obtain ⟨k, F, hr⟩ := G.fx
    have hu : X.A.units + 65 < cLine := by have := hr.un; omega
    exact pe_both (t0 := tNotN (tC .non)) (s_cmp2 F.hK hu (snd_e a T X E G h.1.1).1 (snd_e b T X E G h.1.2).1 (snd_e c T X E G h.2).1)
  | .isN neg p k q a, T, X, E, G, h => by
    simp only [wf] at h
    exact pe_both (t0 := tNotN (tC .non)) (s_isN (snd_e a T X E G h).1)
  | .emp neg p px pl i x, T, X, E, G, h => by
    simp only [wf] at h
    obtain ⟨k, F, hr⟩ := G.fx
    exact pe_both (t0 := tNotN (tC .non)) (s_emp (by have := hr.un; omega) h)
  | .and p .nil, T, X, E, G, h => by
    refine ⟨⟨fun pins s σ H Q I ⟨B, M, ρ, ω, R, z⟩ => ?_⟩, ⟨fun pins s σ H Q I ⟨B, M, ρ, ω, R, z⟩ => ?_⟩⟩ <;> (simp only [ev, evAnd] at z)
  | .and p (.cons a b), T, X, E, G, h => by
    simp only [wf] at h
    obtain ⟨_, h2, _⟩ := snd_s (.cons a b) T X E G h
    obtain ⟨q1, _, q2, _⟩ := h2 a b rfl p
    refine ⟨PE_imp q1 fun σ H Q z => ?_, PT_imp q2.pt fun σ H Q z => ?_⟩ <;> (obtain ⟨B, M, ρ, ω, R, z⟩ := z; simp only [ev] at z; exact ⟨B, M, ρ, ω, R, z⟩)
  | .or p .nil, T, X, E, G, h => by
    refine ⟨⟨fun pins s σ H Q I ⟨B, M, ρ, ω, R, z⟩ => ?_⟩, ⟨fun pins s σ H Q I ⟨B, M, ρ, ω, R, z⟩ => ?_⟩⟩ <;> (simp only [ev, evOr] at z)
  | .or p (.cons a b), T, X, E, G, h => by
    simp only [wf] at h
    obtain ⟨_, h2, _⟩ := snd_s (.cons a b) T X E G h
    obtain ⟨_, q1, _, q2⟩ := h2 a b rfl p
    refine ⟨PE_imp q1 fun σ H Q z => ?_, PT_imp q2.pt fun σ H Q z => ?_⟩ <;> (obtain ⟨B, M, ρ, ω, R, z⟩ := z; simp only [ev] at z; exact ⟨B, M, ρ, ω, R, z⟩)
  | .not p a, T, X, E, G, h => by
    simp only [wf] at h
    obtain ⟨h1, h2⟩ := snd_e a T X E G h
    exact ⟨s_not h1, t_not h2⟩
  | .ife p c a b, T, X, E, G, h => by
    simp only [wf, Bool.and_eq_true] at h
    obtain ⟨_, c2⟩ := snd_e c T X E G h.1.1
    obtain ⟨a1, a2⟩ := snd_e a T X E G h.1.2
    obtain ⟨b1, b2⟩ := snd_e b T X E G h.2
    exact ⟨s_ife c2 a1 b1, t_ife c2 a2 b2⟩
  | .call p pn x f es, T, X, E, G, h => by
    simp only [wf, Bool.and_eq_true, decide_eq_true_eq] at h
    have he := s_call (p := p) (pn := pn) G h.1.1 h.1.2 (snd_s es T X E G h.2).1
    exact ⟨he, pt_of he fun _ => rfl⟩
  | .callK p pn x f k pk e, T, X, E, G, h => by
    simp only [wf, Bool.and_eq_true, decide_eq_true_eq] at h
    have he := s_callK (p := p) (pn := pn) (pk := pk) G h.1.1.1 h.1.1.2 h.1.2 (snd_e e T X E G h.2).1
    exact ⟨he, pt_of he fun _ => rfl⟩
  | .bi p pn b es, T, X, E, G, h => by
    simp only [wf, Bool.and_eq_true, Bool.not_eq_true', decide_eq_false_iff_not] at h
    obtain ⟨k, F, hr⟩ := G.fx
    have he := s_bi (p := p) (pn := pn) F.hK G.calm F.bn h.1.1.1 h.1.1.2 h.1.2 (snd_s es T X E G h.2).1
    exact ⟨he, pt_of he fun _ => rfl⟩
  | .isi p pn a pt T', T, X, E, G, h => by
    simp only [wf, Bool.and_eq_true] at h
    obtain ⟨k, F, hr⟩ := G.fx
    have he := s_isi (p := p) (pn := pn) (pt := pt) F.hK F.bn h.1.1 h.1.2 (snd_e a T X E G h.2).1
    exact ⟨he, pt_of he fun _ => rfl⟩
  | .isi2 p pn a k pt p1 p2 T1 T2, T, X, E, G, h => by
    simp only [wf, Bool.and_eq_true] at h
    obtain ⟨k', F, hr⟩ := G.fx
    have he := s_isi2 (p := p) (pn := pn) (pt := pt) (p1 := p1) (p2 := p2) (k := k) F.hK F.bn h.1.1.1 h.1.1.2 h.1.2 (snd_e a T X E G h.2).1
    exact ⟨he, pt_of he fun _ => rfl⟩
  | .sub p a b, T, X, E, G, h => by
    simp only [wf, Bool.and_eq_true] at h
    obtain ⟨k, F, hr⟩ := G.fx
    have he := s_sub (p := p) F.hK (snd_e a T X E G h.1).1 (snd_e b T X E G h.2).1
    exact ⟨he, pt_of he fun _ => rfl⟩
  | .slL p q a b, T, X, E, G, h => by
    simp only [wf, Bool.and_eq_true] at h
    obtain ⟨k, F, hr⟩ := G.fx
    have he := s_slL (p := p) (q := q) F.hK (snd_e a T X E G h.1).1 (snd_e b T X E G h.2).1
    exact ⟨he, pt_of he fun _ => rfl⟩
  | .slH p q a b, T, X, E, G, h => by
    simp only [wf, Bool.and_eq_true] at h
    obtain ⟨k, F, hr⟩ := G.fx
    have he := s_slH (p := p) (q := q) F.hK (snd_e a T X E G h.1).1 (snd_e b T X E G h.2).1
    exact ⟨he, pt_of he fun _ => rfl⟩
  | .slB p q a b c, T, X, E, G, h => by
    simp only [wf, Bool.and_eq_true] at h
    obtain ⟨k, F, hr⟩ := G.fx
    have he := s_slB (p := p) (q := q) F.hK (snd_e a T X E G h.1.1).1 (snd_e b T X E G h.1.2).1 (snd_e c T X E G h.2).1
    exact ⟨he, pt_of he fun _ => rfl⟩
  | .tup k p es, T, X, E, G, h => by
    simp only [wf] at h
    have he := s_tup (p := p) (k := k) (snd_s es T X E G h).1
    exact ⟨he, pt_of he fun _ => rfl⟩
  | .lst p es, T, X, E, G, h => by
    simp only [wf] at h
    have he := s_lst (p := p) (snd_s es T X E G h).1
    exact ⟨he, pt_of he fun _ => rfl⟩
  | .join p pa a b, T, X, E, G, h => by
    simp only [wf, Bool.and_eq_true] at h
    have he := s_join h.1.1.1 h.1.1.2 (snd_e b T X E G h.2).1
    exact ⟨he, pt_of he fun _ => rfl⟩
  | .pop p pa px i x, T, X, E, G, h => by
    simp only [wf, Bool.and_eq_true] at h
    have he := s_pop (L := L) (E := E) (px := px) h.1 h.2
    exact ⟨he, pt_of he fun _ => rfl⟩
  | .reprEq p p1 p2 q1 q2 a b, T, X, E, G, h => by
    simp only [wf, Bool.and_eq_true] at h
    obtain ⟨k, F, hr⟩ := G.fx
    exact pe_both (t0 := tNotN (tC .non)) (s_reprEq F.hK G.gr (by have := hr.un; omega) F.bn h.1.1 (snd_e a T X E G h.1.2).1 (snd_e b T X E G h.2).1)
  | .bad p f es ks, T, X, E, G, h => by
    refine ⟨⟨fun pins s σ H Q I ⟨B, M, ρ, ω, R, z⟩ => ?_⟩, ⟨fun pins s σ H Q I ⟨B, M, ρ, ω, R, z⟩ => ?_⟩⟩ <;> (simp only [ev] at z)
  | .usub p a, T, X, E, G, h => by
    simp only [wf] at h
    have he := s_usub (p := p) (snd_e a T X E G h).1
    exact ⟨he, pt_of he fun _ => rfl⟩
  | .subv p px i x e, T, X, E, G, h => by
    simp only [wf, Bool.and_eq_true] at h
    obtain ⟨k, F, hr⟩ := G.fx
    have he := s_subv (p := p) (px := px) F.hK h.1 (snd_e e T X E G h.2).1
    exact ⟨he, pt_of he fun _ => rfl⟩
  | .dk p a kk pk key, T, X, E, G, h => by
    simp only [wf] at h
    obtain ⟨k, F, hr⟩ := G.fx
    have he := s_dk (p := p) (kk := kk) (pk := pk) (key := key) (by have := hr.un; omega) (snd_e a T X E G h).1
    exact ⟨he, pt_of he fun _ => rfl⟩
  | .dkEmp neg p ps pl a kk pk key, T, X, E, G, h => by
    simp only [wf] at h
    obtain ⟨k, F, hr⟩ := G.fx
    exact pe_both (t0 := tNotN (tC .non)) (s_dkEmp (neg := neg) (p := p) (ps := ps) (pl := pl) (kk := kk) (pk := pk) (key := key) (by have := hr.un; omega) (snd_e a T X E G h).1)
  | .dkPop0 p pa ps a kk pk key k0 p0, T, X, E, G, h => by
    simp only [wf, Bool.and_eq_true] at h
    obtain ⟨k, F, hr⟩ := G.fx
    have he := s_dkPop0 (p := p) (pa := pa) (ps := ps) (kk := kk) (pk := pk) (key := key) (k0 := k0) (p0 := p0) (by have := hr.un; omega) h.1 (snd_e a T X E G h.2).1
    exact ⟨he, pt_of he fun _ => rfl⟩
  | .dNew p k0 px i x ks es, T, X, E, G, h => by
    simp only [wf, Bool.and_eq_true, decide_eq_true_eq] at h
    have he := s_dNew (p := p) (px := px) (k0 := k0) h.1.1.1.1 h.1.1.1.2 h.1.1.2 h.1.2 ((snd_s es T X E G h.2).2.2.2 p ks h.1.1.1.2)
    exact ⟨he, pt_of he fun _ => rfl⟩
  | .lNew p, T, X, E, G, h => ⟨s_lNew, pt_of s_lNew fun _ => rfl⟩
  | .word p pn x sc lp bp bpn bx f es, T, X, E, G, h => by
    simp only [wf, Bool.and_eq_true, decide_eq_true_eq] at h
    obtain ⟨⟨⟨⟨⟨h1, h2⟩, h3⟩, h4⟩, h5⟩, h6⟩ := h
    obtain ⟨k, F, hr⟩ := G.fx
    have w5 : T.w5 = 5 := by
      unfold Tab.w5
      rw [h2]
    rw [w5] at hr
    have he : PE X (un (.word p pn x sc lp bp bpn bx f es)) (rd L E (.word p pn x sc lp bp bpn bx f es)) := by
      refine PE_imp (F.wd x h2 X E f es sc p pn lp bp bpn bx rfl rfl rfl rfl rfl G.calm G.nd G.gr hr (gl_of h1).1 (G.lm x h2) (LamX.lamS_by h3) fun A outer s H E' fa ca hg hr' => ?_) fun σ H Q z => ?_
      · have G' : Gd L T.off (LamX.lamCx X A outer s H E' sc fa ca) E' := ⟨rfl, G.nd, hg, passes_call (takes_of rfl rfl rfl rfl) fun _ _ _ _ h => h, passes_of rfl, ⟨k, F.off, hr'⟩, fun x h => nomatch (show (none : Option Str) = some x from h)⟩
        exact s_callT G' h4 h5 (snd_s es T.off (LamX.lamCx X A outer s H E' sc fa ca) E' G' h6).1
      · obtain ⟨B, M, ρ, ω, R, z⟩ := z
        simp only [ev] at z
        exact ⟨B, M, ρ, ω, R, z⟩
    exact ⟨he, pt_of he fun _ => rfl⟩
  | .cTup p pn a, T, X, E, G, h => by
    simp only [wf, Bool.and_eq_true] at h
    obtain ⟨k, F, hr⟩ := G.fx
    have he := s_cTup (p := p) (pn := pn) G.calm F.bn F.hK h.1 (snd_e a T X E G h.2).1
    exact ⟨he, pt_of he fun _ => rfl⟩
  | .lc p sc own tg it ifs elt, T, X, E, G, h => by
    simp only [wf, Bool.and_eq_true] at h
    obtain ⟨⟨⟨⟨⟨h1, h2⟩, h3⟩, h4⟩, h5⟩, h6⟩ := h
    obtain ⟨k, F, hr⟩ := G.fx
    obtain ⟨t, q1, _, q3⟩ := s_lc (L := L) (E := E) (p := p) F.hK G.calm G.nd (snd_i it T X E G tg h3) (blkOk_by h1)
      (fun s H C cl fp => s_tg (X := X.blk s H sc (compEnvC sc cl C X.env) fp) G.calm G.nd tg h4)
      (fun s H C cl fp => (snd_s ifs T.off (X.blk s H sc (compEnvC sc cl C X.env) fp) E0 (blk_gd G s H sc _ fp) h5).2.2.1 rfl)
      (fun s H C cl fp => (snd_e elt T.off (X.blk s H sc (compEnvC sc cl C X.env) fp) E0 (blk_gd G s H sc _ fp) h6).1)
      (fun i hi => by
        have z := List.all_eq_true.mp h2 i hi
        simpa using z)
    have he : PE X (un (.lc p sc own tg it ifs elt)) (rd L E (.lc p sc own tg it ifs elt)) := PE_imp q1 q3
    exact ⟨he, pt_of he fun _ => rfl⟩
theorem snd_s : ∀ (es : Exs) (T : Tab) (X : Cx) (E : XK), Gd L T X E → wfs X.N T X.env.scope X.fn es = true → PA X (uns es) (rdA L E es) ∧
    (∀ a b, es = .cons a b → ∀ p, PE X (.BoolOp .And (uns es) p) (rdQ L E (evAnd L es)) ∧ PE X (.BoolOp .Or (uns es) p) (rdQ L E (evOr L es)) ∧ PW X (.BoolOp .And (uns es) p) (rdTQ L E (evAnd L es)) ∧ PW X (.BoolOp .Or (uns es) p) (rdTQ L E (evOr L es))) ∧
    (E = E0 → PTs X (uns es) (rdIf L es)) ∧ ∀ (pos : Pos) (ks : List (Str × Nat × Pos)), ks.length = es.len → PPs X pos (ks.map kEx) (uns es) (trsOf L E ks es)
  | .nil, T, X, E, G, h => ⟨s_nil, (fun a b e => Exs.noConfusion e), fun _ => s_if0, fun pos ks l => by
    cases ks with
    | nil => exact pps_nil
    | cons k ks => simp [Exs.len] at l⟩
  | .cons a .nil, T, X, E, G, h => by
    simp only [wfs, Bool.and_eq_true] at h
    obtain ⟨a1, a2⟩ := snd_e a T X E G h.1
    refine ⟨s_cons a1 s_nil, fun _ _ _ p => ⟨s_and1 a1, s_or1 a1, w_and1 a2, w_or1 a2⟩, fun e => ?_, fun pos ks l => ?_⟩
    · subst e
      exact s_if1 a2
    · match ks, l with
      | [k], _ => exact pps_cons pe_str a1 pps_nil
  | .cons a (.cons b c), T, X, E, G, h => by
    have h' := h
    simp only [wfs, Bool.and_eq_true] at h
    obtain ⟨a1, a2⟩ := snd_e a T X E G h.1
    obtain ⟨b1, b2, _, b4⟩ := snd_s (.cons b c) T X E G (by simp only [wfs, Bool.and_eq_true]; exact h.2)
    refine ⟨s_cons a1 b1, fun _ _ _ p => ?_, fun e => ⟨fun pins s σ H Q I ⟨B, M, ρ, ω, R, z⟩ => by simp only [evIf] at z⟩, fun pos ks l => ?_⟩
    · obtain ⟨c1, c2, c3, c4⟩ := b2 b c rfl p
      exact ⟨s_and2 a1 c1, s_or2 a1 c2, w_and2 a2 c3, w_or2 a2 c4⟩
    · match ks, l with
      | k :: ks, l => exact pps_cons pe_str a1 (b4 pos ks (by simpa [Exs.len] using l))
theorem snd_i : ∀ (it : It') (T : Tab) (X : Cx) (E : XK), Gd L T X E → ∀ (tg : Tg), wfI X.N T X.env.scope X.fn tg.isTup it = true → PI X (unT tg) (unI it) (rdI L E it)
  | .val e, T, X, E, G, tg, h => by
    simp only [wfI] at h
    obtain ⟨k, F, hr⟩ := G.fx
    exact s_val F.hK (snd_e e T X E G h).1
  | .rng p pn e, T, X, E, G, tg, h => by
    simp only [wfI, Bool.and_eq_true] at h
    obtain ⟨k, F, hr⟩ := G.fx
    exact s_rng F.bn h.1 (snd_e e T X E G h.2).1
  | .enumRev p pn pm pr e, T, X, E, G, tg, h => by
    simp only [wfI, Bool.and_eq_true] at h
    obtain ⟨k, F, hr⟩ := G.fx
    exact s_enumRev F.hK F.bn h.1.1.1 h.1.1.2 h.1.2 (snd_e e T X E G h.2).1
end
end
end Ev
namespace Ev
open L2 PyProof.Rows PySem.Calls PySem.Spec PySem
section
variable {L : Lv} {T : Tab}
structure FlLe (F F' : Fl) : Prop where
  nx : ∀ ρ ω, F.nx ρ ω → F'.nx ρ ω
  rt : ∀ x ω, F.rt x ω → F'.rt x ω
  bk : ∀ ρ ω, F.bk ρ ω → F'.bk ρ ω
  ct : ∀ ρ ω, F.ct ρ ω → F'.ct ρ ω
  ex : ∀ x ω, F.ex x ω → F'.ex x ω
theorem forGo_mono {bd : D → En → Om → Fl → Prop} (hb : ∀ d ρ ω F F', bd d ρ ω F → FlLe F F' → bd d ρ ω F') : ∀ (ds : List D) (ρ : En) (ω : Om) (F F' : Fl), forGo bd ds ρ ω F → FlLe F F' → forGo bd ds ρ ω F'
  | [], ρ, ω, F, F', h, k => k.nx _ _ h
  | d :: ds, ρ, ω, F, F', h, k => hb _ _ _ _ _ h ⟨fun _ _ h => forGo_mono hb _ _ _ _ _ h k, k.rt, k.nx, fun _ _ h => forGo_mono hb _ _ _ _ _ h k, k.ex⟩
theorem whGo_mono {tst : En → Om → (Bool → En → Om → Prop) → KX → Prop} {bd : En → Om → Fl → Prop} (ht : ∀ ρ ω Q Q' E E', tst ρ ω Q E → (∀ b ρ ω, Q b ρ ω → Q' b ρ ω) → (∀ x ω, E x ω → E' x ω) → tst ρ ω Q' E')
    (hb : ∀ ρ ω F F', bd ρ ω F → FlLe F F' → bd ρ ω F') : ∀ (n : Nat) (ρ : En) (ω : Om) (F F' : Fl), whGo tst bd n ρ ω F → FlLe F F' → whGo tst bd n ρ ω F'
  | 0, ρ, ω, F, F', h, k => h
  | n + 1, ρ, ω, F, F', h, k => ht _ _ _ _ _ _ h (fun b ρ ω h => by
      cases b with
      | true =>
        simp only [if_true] at h ⊢
        exact hb _ _ _ _ h ⟨fun _ _ h => whGo_mono ht hb _ _ _ _ _ h k, k.rt, k.nx, fun _ _ h => whGo_mono ht hb _ _ _ _ _ h k, k.ex⟩
      | false =>
        simp only [Bool.false_eq_true, if_false] at h ⊢
        exact k.nx _ _ h) k.ex
mutual
theorem ex_mono : ∀ (t : St') {ρ : En} {ω : Om} {F F' : Fl}, ex L t ρ ω F → FlLe F F' → ex L t ρ ω F'
  | .asg _ _ i _ e, ρ, ω, F, F', h, k => by simp only [ex] at h ⊢; exact ev_mono e h (fun x ρ ω h => k.nx _ _ h) k.ex
  | .par _ _ _ _ _ _ _ i j _ _ a b, ρ, ω, F, F', h, k => by simp only [ex] at h ⊢; exact ev_mono a h (fun x ρ ω h => ev_mono b h (fun y ρ ω h => k.nx _ _ h) k.ex) k.ex
  | .aug _ _ i _ op e, ρ, ω, F, F', h, k => by
    simp only [ex] at h ⊢
    obtain ⟨z, e1, n, m, e2, h⟩ := h
    exact ⟨z, e1, n, m, e2, ev_mono e h (fun y ρ ω h => ⟨h.1, h.2.1, k.nx _ _ h.2.2⟩) k.ex⟩
  | .ret _ e, ρ, ω, F, F', h, k => by simp only [ex] at h ⊢; exact ev_mono e h (fun x ρ ω h => k.rt _ _ h) k.ex
  | .retV _ _ i _, ρ, ω, F, F', h, k => by
    simp only [ex] at h ⊢
    obtain ⟨z, e1, h⟩ := h
    refine ⟨z, e1, ?_⟩
    cases z with
    | no => exact h
    | sh d => exact k.rt _ _ h
    | ow d => exact k.rt _ _ h
  | .exp _ e, ρ, ω, F, F', h, k => by simp only [ex] at h ⊢; exact ev_mono e h (fun x ρ ω h => k.nx _ _ h) k.ex
  | .app _ _ _ _ i _ e, ρ, ω, F, F', h, k => by
    simp only [ex, upV_iff] at h ⊢
    exact ⟨h.1, ev_mono e h.2 (fun x ρ ω ⟨xs, e1, h⟩ => ⟨xs, e1, h.1, k.nx _ _ h.2⟩) k.ex⟩
  | .ext _ _ _ _ i _ e, ρ, ω, F, F', h, k => by
    simp only [ex, upV_iff] at h ⊢
    exact ⟨h.1, ev_mono e h.2 (fun x ρ ω ⟨xs, e1, ds, h⟩ => ⟨xs, e1, ds, h.1, h.2.1, k.nx _ _ h.2.2⟩) k.ex⟩
  | .raise _ _ _ c _ es, ρ, ω, F, F', h, k => by simp only [ex] at h ⊢; exact evs_mono es h (fun ds ρ ω h => L.cm (fun _ _ h => h) k.ex h) k.ex
  | .ife _ c a b, ρ, ω, F, F', h, k => by
    simp only [ex] at h ⊢
    refine ev_mono c h (fun x ρ ω h => got_imp h fun b h => ?_) k.ex
    cases b with
    | true =>
      simp only [if_true] at h ⊢
      exact exs_mono a h k
    | false =>
      simp only [Bool.false_eq_true, if_false] at h ⊢
      exact exs_mono b h k
  | .whl _ c a, ρ, ω, F, F', h, k => by
    simp only [ex] at h ⊢
    obtain ⟨n, h⟩ := h
    refine ⟨n, ?_⟩
    refine whGo_mono ?_ ?_ _ _ _ _ _ h k
    · intro ρ ω Q Q' E E' h f g
      exact ev_mono c h (fun x ρ ω h => got_imp h fun b h => f _ _ _ h) g
    · intro ρ ω F F' h k
      exact exs_mono a h k
  | .fr _ tg it a, ρ, ω, F, F', h, k => by
    simp only [ex] at h ⊢
    refine evI_mono it h (fun ds ρ ω h => ?_) k.ex
    refine forGo_mono ?_ _ _ _ _ _ h k
    intro d ρ ω F F' h k
    exact bindT_imp h fun ρ h => exs_mono a h k
  | .dkSet _ _ a _ _ _ e, ρ, ω, F, F', h, k => by simp only [ex] at h ⊢; exact ev_mono e h (fun y ρ ω h => ev_mono a h (fun x ρ ω ⟨b, fs, e1, e2, e3, h⟩ => ⟨b, fs, e1, e2, e3, k.nx _ _ h⟩) k.ex) k.ex
  | .cApp _ _ _ a e, ρ, ω, F, F', h, k => by simp only [ex] at h ⊢; exact ev_mono a h (fun x ρ ω h => ⟨h.1, ev_mono e h.2 (fun y ρ ω ⟨b, ds, e1, e2, e3, h⟩ => ⟨b, ds, e1, e2, e3, k.nx _ _ h⟩) k.ex⟩) k.ex
  | .brk _, ρ, ω, F, F', h, k => by simp only [ex] at h ⊢; exact k.bk _ _ h
  | .cont _, ρ, ω, F, F', h, k => by simp only [ex] at h ⊢; exact k.ct _ _ h
theorem exs_mono : ∀ (t : List St') {ρ : En} {ω : Om} {F F' : Fl}, exs L t ρ ω F → FlLe F F' → exs L t ρ ω F'
  | [], ρ, ω, F, F', h, k => by simp only [exs] at h ⊢; exact k.nx _ _ h
  | a :: b, ρ, ω, F, F', h, k => by
    simp only [exs] at h ⊢
    exact ex_mono a h ⟨fun _ _ h => exs_mono b h k, k.rt, k.bk, k.ct, k.ex⟩
end
variable (L) in
def RV (B : Bx) (Q : VK) : Sl → Om → Prop := fun x ω => ∀ M v H, Aft L B H ω M → (match x with
  | .no => False
  | .sh d => Rp L.K H M v d
  | .ow d => ∃ a, v = .ref a ∧ OwA L B M H ω a d) → Q v H
variable (L) in
def PF (B : Bx) (E : XK) (D : Ends) : Fl :=
  { nx := fun ρ ω => ∀ M σ H, RS L B M σ H ρ ω → D.nx σ H
    rt := RV L B D.rt
    bk := fun ρ ω => ∀ M σ H, RS L B M σ H ρ ω → D.bk σ H
    ct := fun ρ ω => ∀ M σ H, RS L B M σ H ρ ω → D.ct σ H
    ex := PX L B E }
variable (L) in
def rdSQ (E : XK) (f : En → Om → Fl → Prop) : TS := fun D σ H => ∃ B M ρ ω, RS L B M σ H ρ ω ∧ f ρ ω (PF L B E D)
theorem rt_of {B : Bx} {M : Addr → Prop} {σ : Sg} {H : Hp} {ρ : En} {ω : Om} {v : V} {x : Sl} {Q : VK} (h : RV L B Q x ω) (R : RS L B M σ H ρ ω) (V : VR L B M σ H ρ ω v x) : Q v H := by
  refine h M v H R.af ?_
  cases x with
  | no => exact V
  | sh d => exact V
  | ow d =>
    obtain ⟨a, e, o, _⟩ := V
    exact ⟨a, e, o⟩
structure Gs (L : Lv) (T : Tab) (X : Cx) (E : XK) : Prop where
  gd : Gd L T X E
  kind : X.env.scope.kind = .function
  tk : Takes X (fun cls d _ H => E cls d H)
  fn : X.fn = fun _ => true
mutual
def wfS (T : Tab) (N : List Str) (sc : Scope) : St' → Bool
  | .asg p px i x e => nmB N i x && locB sc (fun _ => true) x && wf N T sc (fun _ => true) e
  | .par p p1 p2 pa pb k1 k2 i j x y a b => nmB N i x && nmB N j y && !(decide (i = j)) && !(x == y) && decide (sc.names.lookup x = some .local) && decide (sc.names.lookup y = some .local) && (pa.line == pb.line) && !([un a, un b].all (foldedForSure 8)) && !([un a, un b].all (constantsAlone 8)) && wf N T sc (fun _ => true) a && wf N T sc (fun _ => true) b
  | .aug p px i x op e => nmB N i x && locB sc (fun _ => true) x && (decide (op = .Add)) && wf N T sc (fun _ => true) e
  | .ret p e => wf N T sc (fun _ => true) e
  | .retV p px i x => varB N sc i x
  | .exp p e => !e.isLc && wf N T sc (fun _ => true) e
  | .app p pc pa px i x e => (pa.endLine == pc.line) && varB N sc i x && wf N T sc (fun _ => true) e
  | .ext p pc pa px i x e => (pa.endLine == pc.line) && varB N sc i x && wf N T sc (fun _ => true) e
  | .raise p pc pn c x es => glB sc x && decide (T.cN c = some (x, es.len)) && wfs N T sc (fun _ => true) es
  | .ife p c a b => wf N T sc (fun _ => true) c && wfSs T N sc a && wfSs T N sc b
  | .whl p c a => wf N T sc (fun _ => true) c && wfSs T N sc a
  | .fr p tg it a => wfT N sc (fun _ => true) tg && wfI N T sc (fun _ => true) tg.isTup it && wfSs T N sc a
  | .dkSet p ps a kk pk key e => !e.isLc && wf N T sc (fun _ => true) a && wf N T sc (fun _ => true) e
  | .cApp p pc pa a e => a.noSup && (pa.endLine == pc.line) && wf N T sc (fun _ => true) a && wf N T sc (fun _ => true) e
  | .brk p => true
  | .cont p => true
def wfSs (T : Tab) (N : List Str) (sc : Scope) : List St' → Bool
  | [] => true
  | a :: b => wfS T N sc a && wfSs T N sc b
end
variable {X : Cx} {E : XK}
theorem rd_to {e : Ex} {f : Sl → En → Om → Fl → Prop} {σ : Sg} {H : Hp} {D : Ends} {Q : VK} (h : rdSQ L E (fun ρ ω F => ev L e ρ ω (fun x ρ ω => f x ρ ω F) F.ex) D σ H)
    (k : ∀ {B M v H x ρ ω}, RS L B M σ H ρ ω → VR L B M σ H ρ ω v x → f x ρ ω (PF L B E D) → Q v H) : rd L E e σ H Q := by
  obtain ⟨B, M, ρ, ω, R, h⟩ := h
  exact ⟨B, M, ρ, ω, R, ev_mono e h (fun x ρ1 ω1 h1 M1 v1 H1 R1 V1 => k R1 V1 h1) fun _ _ h => h⟩
theorem nx_set {B : Bx} {M : Addr → Prop} {σ : Sg} {H : Hp} {ρ : En} {ω : Om} {v : V} {x : Sl} {i : Nat} {D : Ends} (R : RS L B M σ H ρ ω) (V : VR L B M σ H ρ ω v x) (h : (PF L B E D).nx (ρ.set i x) ω) : D.nx (σ.set i (some v)) H := by
  by_cases hi : i < σ.length
  · exact h M _ H (R.setS hi V)
  · rw [List.set_eq_of_length_le (by rw [R.ln]; omega)] at h
    rw [List.set_eq_of_length_le (by omega)]
    exact h M _ H R
theorem s_asg (G : Gs L T X E) {p px : Pos} {i : Nat} {x : Str} {e : Ex} (h1 : nmB X.N i x = true) (h2 : locB X.env.scope (fun _ => true) x = true) (he : wf X.N T X.env.scope X.fn e = true) : PS X (unS (.asg p px i x e)) (rdSQ L E (ex L (.asg p px i x e))) := by
  simp only [nmB, decide_eq_true_eq] at h1
  obtain ⟨l1, l2⟩ := locB_ok (X := X) (by rw [G.fn]; exact h2)
  have go : ∀ {t : TE}, (∀ σ H Q, rd L E e σ H Q → t σ H Q) → ∀ D σ H, rdSQ L E (ex L (.asg p px i x e)) D σ H → tAsg t (gName i) D σ H := by
    intro t ht D σ H h
    refine ht _ _ _ (rd_to (f := fun x ρ ω F => F.nx (ρ.set i x) ω) (by obtain ⟨B, M, ρ, ω, R, z⟩ := h; simp only [ex] at z; exact ⟨B, M, ρ, ω, R, z⟩) fun R V h => nx_set R V h)
  cases q : e.isLc with
  | false => exact PS_imp (ps_set G.gd.nd h1 l1 (snd_e e T X E G.gd he).1 (un_swap e _ _ _ q) l2) (go fun _ _ _ h => h)
  | true =>
    cases e <;> first | cases q | skip
    rename_i p' sc own tg it ifs elt
    simp only [wf, Bool.and_eq_true] at he
    obtain ⟨⟨⟨⟨⟨w1, w2⟩, w3⟩, w4⟩, w5⟩, w6⟩ := he
    obtain ⟨k, F, hr⟩ := G.gd.fx
    obtain ⟨t, q1, q2, q3⟩ := s_lc (L := L) (E := E) (p := p') F.hK G.gd.calm G.gd.nd (snd_i it T X E G.gd tg w3) (blkOk_by w1)
      (fun s H C cl fp => s_tg (X := X.blk s H sc (compEnvC sc cl C X.env) fp) G.gd.calm G.gd.nd tg w4)
      (fun s H C cl fp => (snd_s ifs T.off (X.blk s H sc (compEnvC sc cl C X.env) fp) E0 (blk_gd G.gd s H sc _ fp) w5).2.2.1 rfl)
      (fun s H C cl fp => (snd_e elt T.off (X.blk s H sc (compEnvC sc cl C X.env) fp) E0 (blk_gd G.gd s H sc _ fp) w6).1)
      (fun i hi => by
        have z := List.all_eq_true.mp w2 i hi
        simpa using z)
    have sw : swapsWith (un (.lc p' sc own tg it ifs elt)) (some (.Name x px)) p.line X.env = pure (X.env.blockKind == .function && X.env.kindOf x == some .local && px.line == p'.line && !(sc.names.any fun (n, k) => n == x && (k == .local || k == .cell))) := rfl
    cases b : (X.env.blockKind == .function && X.env.kindOf x == some .local && px.line == p'.line && !(sc.names.any fun (n, k) => n == x && (k == .local || k == .cell))) with
    | true =>
      rw [b] at sw
      simp only [Bool.and_eq_true] at b
      have hl : X.env.scope.names.lookup x = some .local := by
        have z := b.1.1.2
        exact eq_of_beq z
      exact PS_imp (q2 h1 hl sw) (go q3)
    | false =>
      rw [b] at sw
      exact PS_imp (ps_set G.gd.nd h1 l1 q1 sw l2) (go q3)
theorem s_ret {p : Pos} {e : Ex} (he : PE X (un e) (rd L E e)) : PS X (unS (.ret p e)) (rdSQ L E (ex L (.ret p e))) := by
  refine PS_imp (ps_ret he) fun D σ H h => ?_
  exact rd_to (f := fun x ρ ω F => F.rt x ω) (by obtain ⟨B, M, ρ, ω, R, z⟩ := h; simp only [ex] at z; exact ⟨B, M, ρ, ω, R, z⟩) fun R V h => rt_of h R V
theorem s_retV {p px : Pos} {i : Nat} {x : Str} (hv : varB X.N X.env.scope i x = true) : PS X (unS (.retV p px i x)) (rdSQ L E (ex L (.retV p px i x))) := by
  refine PS_imp (ps_ret (s_var hv)) ?_
  rintro D σ H ⟨B, M, ρ, ω, R, h⟩
  simp only [ex] at h
  obtain ⟨z, e1, h⟩ := h
  have s := R.sl i z e1
  cases z with
  | no => exact h.elim
  | sh d =>
    obtain ⟨v, s1, s2⟩ := s
    exact ⟨v, s1, h M v H R.af s2⟩
  | ow d =>
    obtain ⟨a, s1, s2⟩ := s
    exact ⟨_, s1, h M _ H R.af ⟨a, rfl, s2⟩⟩
theorem s_exp {p : Pos} {e : Ex} (hl : e.isLc = false) (he : PE X (un e) (rd L E e)) : PS X (unS (.exp p e)) (rdSQ L E (ex L (.exp p e))) := by
  refine PS_imp (ps_expr he (un_swap e _ _ _ hl)) fun D σ H h => ?_
  exact rd_to (f := fun x ρ ω F => F.nx ρ ω) (by obtain ⟨B, M, ρ, ω, R, z⟩ := h; simp only [ex] at z; exact ⟨B, M, ρ, ω, R, z⟩) fun R V h => h _ _ _ R
theorem s_app {p pc pa px : Pos} {i : Nat} {x : Str} {e : Ex} (hl : (pa.endLine == pc.line) = true) (hv : varB X.N X.env.scope i x = true) (he : PE X (un e) (rd L E e)) : PS X (unS (.app p pc pa px i x e)) (rdSQ L E (ex L (.app p pc pa px i x e))) := by
  refine PS_imp (ps_expr (pe_bm PySem.F.plainAttrs_list PySem.F.slot_list_append PySem.F.type_list_append mt_append (s_var hv) (pa_cons he pa_nil (un_star e _ _)) rfl (by rw [un_star]; rfl) hl (un_star e _ _) rfl) rfl) ?_
  rintro D σ H ⟨B, M, ρ, ω, R, h⟩
  simp only [ex] at h
  obtain ⟨⟨ds0, e0⟩, h⟩ := h
  obtain ⟨a, xs0, s1, h1, _, _⟩ := R.upd e0
  refine ⟨_, s1, .inl ⟨rfl, _, .of h1⟩, B, M, ρ, ω, R, ev_mono e h (fun y ρ1 ω1 h2 M1 v1 H1 R1 V1 => ?_) fun _ _ h => h⟩
  obtain ⟨M2, R2, r, _⟩ := R1.share V1
  rw [upV_iff] at h2
  obtain ⟨ds, e2, hz, h2⟩ := h2
  obtain ⟨b, xs, s2, k1, k2, k3⟩ := R2.upd e2
  rw [s1] at s2
  cases s2
  obtain ⟨R3, _⟩ := k3 (xs ++ [v1]) (ds ++ [y.d]) (k2.append (.cons r .nil))
  exact ⟨a, xs, v1, rfl, rfl, k1, by rw [k2.len]; exact hz, h2 _ _ _ R3⟩
theorem s_dkSet (hu : X.A.units + 1 < cLine) {p ps pk : Pos} {a e : Ex} {kk : Nat} {key : Str} (hc : e.isLc = false) (ha : PE X (un a) (rd L E a)) (he : PE X (un e) (rd L E e)) : PS X (unS (.dkSet p ps a kk pk key e)) (rdSQ L E (ex L (.dkSet p ps a kk pk key e))) := by
  refine PS_imp (ps_dput hu ha pe_str he (un_swap e _ _ _ hc)) ?_
  rintro D σ H ⟨B, M, ρ, ω, R, h⟩
  simp only [ex] at h
  refine ⟨B, M, ρ, ω, R, ev_mono e h (fun y ρ1 ω1 h1 M1 v1 H1 R1 V1 => ?_) fun _ _ h => h⟩
  obtain ⟨M1', R1', r1, _⟩ := R1.share V1
  refine ⟨B.hd v1 y.d, M1', ρ1, ω1, R1'.holdIn r1, ev_mono a h1 (fun x ρ2 ω2 ⟨b, fs, e1, e2, ⟨⟨d, e3⟩, el⟩, q⟩ M2 v2 H2 R2 V2 => ?_) fun _ _ => PX.hd⟩
  obtain ⟨M2', R2', r2, _⟩ := R2.share V2
  obtain ⟨R3, r1'⟩ := R2'.holdOut
  rw [e1] at r2
  obtain rfl := r2.rfi
  obtain ⟨kvs, k1, k2⟩ := R3.dctAt e2
  obtain ⟨w, i, l1, l2, l3⟩ := k2.look e3
  have e4 : putK (kvs.map fun kv => ((.inr kv.1 : Key), kv.2)) (.inr key) v1 = (kvs.map fun kv => if kv.1 = key then (kv.1, v1) else kv).map fun kv => (.inr kv.1, kv.2) := by
    unfold putK
    rw [if_pos (by rw [valV_any, l1]; rfl), List.map_map, List.map_map]
    refine List.map_congr_left fun kv _ => ?_
    by_cases z : kv.1 = key
    · simp [z]
    · simp [z]
  have ne : ∀ (i : Nat) (f : Str) (g : Addr) (d : PyData), fs[i]? = some (f, Fv.ow g d) → g ≠ b := fun i f g d z w => by
    have := R3.af.am.own b _ i g e2 ⟨f, d, z⟩
    rw [w, e2] at this
    cases this
  have mb : M2' b := R3.af.fm b (.inl ⟨_, e2⟩)
  have ex : Exf M2' H2 M2' (upd H2 b (.dK (putK (kvs.map fun kv => ((.inr kv.1 : Key), kv.2)) (.inr key) v1))) := fun c u h n => ⟨by
    rw [upd_ne (by intro z; subst z; exact n mb)]
    exact h, n⟩
  obtain ⟨R4, _⟩ := RS.ch (o := .dK (putK (kvs.map fun kv => ((.inr kv.1 : Key), kv.2)) (.inr key) v1)) (p := b) (c := .dct (setA fs key (.sh y.d))) mk_dK R3 e2 owns_setSh (.inl rfl)
    ⟨kvs.map fun kv => if kv.1 = key then (kv.1, v1) else kv, by rw [upd_same, dKof, e4], FvA.setSh ex (r1'.exd ex) k2 fun i f g d z => upd_ne (ne i f g d z)⟩
  exact ⟨b, _, rfl, .inl ⟨_, .inr key, k1, rfl, by rw [List.length_map, k2.len, sizeLine_eq]; omega, rfl⟩, q _ _ _ R4⟩
theorem s_cApp {p pc pa : Pos} {a e : Ex} (hs : a.noSup = true) (hl : (pa.endLine == pc.line) = true) (ha : PE X (un a) (rd L E a)) (he : PE X (un e) (rd L E e)) : PS X (unS (.cApp p pc pa a e)) (rdSQ L E (ex L (.cApp p pc pa a e))) := by
  refine PS_imp (ps_expr (pe_bm PySem.F.plainAttrs_list PySem.F.slot_list_append PySem.F.type_list_append mt_append ha (pa_cons he pa_nil (un_star e _ _)) (un_base a _ _ hs) (by rw [un_star]; rfl) hl (un_star e _ _) rfl) rfl) ?_
  rintro D σ H ⟨B, M, ρ, ω, R, h⟩
  simp only [ex] at h
  refine ⟨B, M, ρ, ω, R, ev_mono a h (fun x ρ1 ω1 ⟨⟨b, ds, e1, e2⟩, h1⟩ M1 v1 H1 R1 V1 => ?_) fun _ _ h => h⟩
  obtain ⟨M1', R1', r1, _⟩ := R1.share V1
  rw [e1] at r1 h1
  obtain rfl := r1.rfi
  obtain ⟨xs, k1, k2⟩ := R1'.lstAt e2
  refine ⟨.inl ⟨rfl, _, .of k1⟩, B, M1', ρ1, ω1, R1', ev_mono e h1 (fun y ρ2 ω2 ⟨c, es, e3, e4, e5, q⟩ M2 v2 H2 R2 V2 => ?_) fun _ _ h => h⟩
  obtain ⟨M2', R2', r2, _⟩ := R2.share V2
  have ec : b = c := by
    unfold RF at e3
    simp only [PyData.dict.injEq, List.cons.injEq, Prod.mk.injEq, PyData.list.injEq, PyData.int.injEq, and_true] at e3
    exact Int.ofNat.inj e3
  subst ec
  obtain ⟨ys, k3, k4⟩ := R2'.lstAt e4
  have mb : M2' b := R2'.af.fm b (.inl ⟨_, e4⟩)
  have ex : Exf M2' H2 M2' (upd H2 b (.lst (ys ++ [v2]))) := fun c u h n => ⟨by
    rw [upd_ne (by intro z; subst z; exact n mb)]
    exact h, n⟩
  obtain ⟨R3, _⟩ := RS.ch (o := .lst (ys ++ [v2])) (p := b) (c := .lst (es ++ [y.d])) mk_lst R2' e4 (fun i g ⟨f, d, z⟩ => by simp [Cell.fs] at z) (.inl rfl) ⟨_, upd_same, (k4.append (.cons r2 .nil)).exd ex⟩
  exact ⟨b, ys, v2, rfl, rfl, k3, by rw [k4.len]; exact e5, q _ _ _ R3⟩
theorem s_ifS {p : Pos} {c : Ex} {a b : List St'} (hc : PT X (un c) (rdT L E c)) (ha : PSs X (unSs a) (rdSQ L E (exs L a))) (hb : PSs X (unSs b) (rdSQ L E (exs L b))) : PS X (unS (.ife p c a b)) (rdSQ L E (ex L (.ife p c a b))) := by
  refine PS_imp (ps_if hc ha hb) ?_
  rintro D σ H ⟨B, M, ρ, ω, R, h⟩
  simp only [ex] at h
  refine ⟨B, M, ρ, ω, R, ev_mono c h (fun x ρ1 ω1 ⟨k, e, h1⟩ => ⟨k, e, fun M1 H1 R1 => ?_⟩) fun _ _ h => h⟩
  cases k with
  | true =>
    simp only [if_true] at h1 ⊢
    exact ⟨B, M1, ρ1, ω1, R1, h1⟩
  | false =>
    simp only [Bool.false_eq_true, if_false] at h1 ⊢
    exact ⟨B, M1, ρ1, ω1, R1, h1⟩
theorem s_whl (G : Gs L T X E) {p : Pos} {c : Ex} {a : List St'} (hc : PT X (un c) (rdT L E c)) (ha : PSs X (unSs a) (rdSQ L E (exs L a))) : PS X (unS (.whl p c a)) (rdSQ L E (ex L (.whl p c a))) := by
  refine PS_imp (ps_while G.gd.po hc ha) ?_
  rintro D σ H ⟨B, M, ρ, ω, R, h⟩
  simp only [ex] at h
  obtain ⟨n, h⟩ := h
  refine ⟨fun m σ H => ∃ M ρ ω, RS L B M σ H ρ ω ∧ whGo (fun ρ ω Q E => ev L c ρ ω (fun x ρ ω => got (toB x.d) fun k => Q k ρ ω) E) (fun ρ ω F => exs L a ρ ω F) m ρ ω (PF L B E D), ⟨n, M, ρ, ω, R, h⟩, ?_⟩
  rintro m σ H ⟨M, ρ, ω, R, h⟩
  cases m with
  | zero => exact h.elim
  | succ m =>
    simp only [whGo] at h
    refine ⟨B, M, ρ, ω, R, ev_mono c h (fun x ρ1 ω1 ⟨k, e, h1⟩ => ⟨k, e, fun M1 H1 R1 => ?_⟩) fun _ _ h => h⟩
    cases k with
    | true =>
      simp only [if_true] at h1 ⊢
      refine ⟨fun σ' H' => ∃ M ρ ω, RS L B M σ' H' ρ ω ∧ whGo (fun ρ ω Q E => ev L c ρ ω (fun x ρ ω => got (toB x.d) fun k => Q k ρ ω) E) (fun ρ ω F => exs L a ρ ω F) m ρ ω (PF L B E D), fun σ' H' h => ⟨m, Nat.lt_succ_self m, h⟩, B, M1, ρ1, ω1, R1, exs_mono a h1 ⟨fun ρ ω h M σ H R => ⟨M, ρ, ω, R, h⟩, fun _ _ h => h, fun _ _ h => h, fun ρ ω h M σ H R => ⟨M, ρ, ω, R, h⟩, fun _ _ h => h⟩⟩
    | false =>
      simp only [Bool.false_eq_true, if_false] at h1 ⊢
      exact h1 M1 _ H1 R1
theorem s_fr (G : Gs L T X E) {p : Pos} {tg : Tg} {it : It'} {a : List St'} (hK : X.K = L.K) (hi : PI X (unT tg) (unI it) (rdI L E it)) (hg : PG X (unT tg) (gT X.K tg)) (ha : PSs X (unSs a) (rdSQ L E (exs L a))) : PS X (unS (.fr p tg it a)) (rdSQ L E (ex L (.fr p tg it a))) := by
  refine PS_imp (ps_for G.gd.po G.gd.calm hi hg ha (unI_fold it X.env)) ?_
  rintro D σ H ⟨B, M, ρ, ω, R, h⟩
  simp only [ex] at h
  refine ⟨B, M, ρ, ω, R, evI_mono it h (fun ds ρ1 ω1 h1 hh M1 J H1 R1 W => ?_) fun _ _ h => h⟩
  clear h R
  generalize hB1 : ({ B with hold := hh ++ B.hold } : Bx) = B1 at R1
  have hsub : ∀ q ∈ hh, q ∈ B1.hold := fun q hq => by
    rw [← hB1]
    exact List.mem_append_left _ hq
  have out : ∀ {M : Addr → Prop} {σ : Sg} {H : Hp} {ρ : En} {ω : Om}, RS L B1 M σ H ρ ω → RS L B M σ H ρ ω := fun {M σ H ρ ω} R => by
    rw [← hB1] at R
    exact hold_out R
  have af : ∀ {H : Hp} {ω : Om} {M : Addr → Prop}, Aft L B1 H ω M → Aft L B H ω M := fun A => A.to (by rw [← hB1]) (by rw [← hB1]) (by rw [← hB1])
  refine ⟨fun i m σ H => m = ds.length - i ∧ i ≤ ds.length ∧ ∃ M ρ ω, RS L B1 M σ H ρ ω ∧ forGo (fun d ρ ω F => bindT tg d ρ fun ρ => exs L a ρ ω F) (ds.drop i) ρ ω (PF L B E D), ⟨ds.length, rfl, Nat.zero_le _, M1, ρ1, ω1, R1, h1⟩, ?_⟩
  rintro i m σ H ⟨rfl, hi, M, ρ, ω, R, hgo⟩
  by_cases hlt : i < ds.length
  · rw [List.drop_eq_getElem_cons hlt] at hgo
    obtain ⟨go, yl⟩ := (W B1 hsub i M σ H ρ ω R).1 ds[i] (List.getElem?_eq_getElem hlt)
    refine .inr ⟨go, fun σ' H' => i + 1 ≤ ds.length ∧ ∃ M ρ ω, RS L B1 M σ' H' ρ ω ∧ forGo (fun d ρ ω F => bindT tg d ρ fun ρ => exs L a ρ ω F) (ds.drop (i + 1)) ρ ω (PF L B E D), fun σ' H' h => ⟨_, by omega, rfl, h⟩, fun x H' y => ?_⟩
    obtain ⟨M', R', r⟩ := yl x H' y
    rw [hK]
    simp only [forGo] at hgo
    refine bind_ok tg R' r hgo fun σ2 ρ2 R2 h2 _ => ⟨B1, M', ρ2, ω, R2, exs_mono a h2 ⟨fun ρ ω h M σ H R => ⟨hlt, M, ρ, ω, R, h⟩, fun x ω h M v H A V => h M v H (af A) ?_, fun ρ ω h M σ H R => h M σ H (out R), fun ρ ω h M σ H R => ⟨hlt, M, ρ, ω, R, h⟩, fun x ω h M H c d A q => h M H c d (af A) q⟩⟩
    cases x with
    | no => exact V
    | sh d => exact V
    | ow d =>
      obtain ⟨a, e, o⟩ := V
      rw [← hB1] at o
      exact ⟨a, e, o⟩
  · have e : i = ds.length := by omega
    subst e
    rw [List.drop_length] at hgo
    exact .inl ⟨(W B1 hsub _ M σ H ρ ω R).2 (Nat.le_refl _), hgo M σ H (out R)⟩
theorem s_raise (G : Gs L T X E) {p pc pn : Pos} {c : Nat} {x : Str} {es : Exs} (hg : glB X.env.scope x = true) (hf : T.cN c = some (x, es.len)) (hes : PA X (uns es) (rdA L E es)) : PS X (unS (.raise p pc pn c x es)) (rdSQ L E (ex L (.raise p pc pn c x es))) := by
  obtain ⟨k, F, hr⟩ := G.gd.fx
  have hr := hr.mono (Nat.le_add_right _ _)
  refine PS_imp (F.rs c x _ hf X E _ es p pc pn rfl rfl rfl rfl G.gd.calm hr G.tk (gl_of hg).1 rfl hes) ?_
  rintro D σ H ⟨B, M, ρ, ω, R, h⟩
  simp only [ex] at h
  refine ⟨B, M, ρ, ω, R, evs_mono es h (fun ds ρ1 ω1 h1 M1 vs H1 R1 rs => ?_) fun _ _ h => h⟩
  exact ⟨ds, M1, ω1, R1.af.am, R1.af.fm, R1.af.mt, R1.af.tbs, rs, L.cm (fun _ _ h => h) (fun x ω' hx M' H' c d A X' => hx M' H' c d (R1.called A).af X') h1⟩
end
end Ev
namespace Ev
open L2 PyProof.Rows PySem.Calls PySem.Spec PySem
theorem un_starred (a : Ex) : (match un a with | .Starred _ _ => true | _ => false) = false := by cases a <;> rfl
theorem sw_par {env : Env} {x y : Str} {p1 p2 pa pb : Pos} {k1 k2 : Nat} {a b : Ex} (hk : env.scope.kind = .function) (hx : env.scope.names.lookup x = some .local) (hy : env.scope.names.lookup y = some .local) (hl : (pa.line == pb.line) = true) (ne : (x == y) = false)
    (h1 : [un a, un b].all (foldedForSure 8) = false) (h2 : [un a, un b].all (constantsAlone 8) = false) :
    swappedStores [.Tuple [.Name x pa, .Name y pb] k1 p1] (.Tuple [un a, un b] k2 p2) env = pure (some [x, y]) := by
  have bk : env.blockKind = .function := by unfold Env.blockKind; rw [hk]; rfl
  have kx : env.kindOf x = some .local := hx
  have ky : env.kindOf y = some .local := hy
  have l2 : pb.line = pa.line := (eq_of_beq hl).symm
  have s : ([un a, un b].any fun | .Starred .. => true | _ => false) = false := by
    have e1 := un_starred a
    have e2 := un_starred b
    simp only [List.any_cons, List.any_nil, Bool.or_false, Bool.or_eq_false_iff]
    exact ⟨e1, e2⟩
  have yx : (y == x) = false := by
    cases q : y == x with
    | false => rfl
    | true => rw [eq_of_beq q] at ne; simp at ne
  have d : [x, y].eraseDups.length = 2 := by
    have e : [x, y].eraseDups = [x, y] := by
      simp [List.eraseDups_cons, yx]
    rw [e]
    rfl
  have e1 := un_starred a
  have e2 := un_starred b
  unfold swappedStores
  simp only [bk, h1, h2]
  simp [d, Expr.pos, l2, kx, ky, List.filterMap_cons, List.filterMap_nil]
  intro z
  exfalso
  rcases z with z | z
  · cases a <;> cases z
  · cases b <;> cases z
theorem list_extT (l : Addr) (items : Array Value) (n : Nat) (b : Addr) (items2 : Array Value) (n2 : Nat) (dd : Option Addr) (sl : Array (Option Value)) (hs0 : ¬(!items.isEmpty && Builtin.List.listTooLong (items.size + items2.size)) = true) (hs1 : items.size ≤ sizeLine) (hs2 : items.size + items2.size ≤ sizeLine + 1 := by seq_fits) :
    Meets (Builtin.«list.extend» ⟨[.ref l, .ref b], []⟩) (fun _ R s => s.heap.get? l = some { cls := .type "list", dict := none, data := .seq items n, slots := #[] } ∧ s.heap.get? b = some { cls := .type "tuple", dict := dd, data := .seq items2 n2, slots := sl } ∧ R (.ok (.ret Value.none)) { s with heap := s.heap.update l (Obj.mapSeq fun x => x ++ items2), toks := s.toks }) := by
  exact .of_wp fun prog w A R s h => by
    obtain ⟨hp, g, d, tk, os⟩ := s; obtain ⟨hl, hb, h⟩ := h; have f1 := AutoSeq1.idx_int; have f2 := AutoSeq1.sub_tuple_tuple; have f3 := AutoSeq1.sub_list_list; have f4 := AutoSeq1.sub_tuple_list; have f5 := AutoSeq1.sub_list_tuple;
    have hz' : (items ++ items2).size ≤ sizeLine + 1 := by rw [Array.size_append]; exact hs2
    wp_walk using (wpAny_updateSeq hl rfl (hz := hs1) (_hz' := hz')), AutoSeq1.wpAny_loadPart' hl, AutoSeq1.wpAny_loadPart' hb; exact ⟨_, rfl, h⟩
section
variable {L : Lv} {T : Tab} {X : Cx} {E : XK}
def rExtendT (K : PySem.W.Frag) : V → List V → Hp → VK → Prop := fun x vs H Q => ∃ l b xs zs, x = .ref l ∧ vs = [.ref b] ∧ H l = some (.lst xs) ∧ SqT K H b zs ∧ xs.length + zs.length ≤ sizeLine ∧ Q .non (upd H l (.lst (xs ++ zs)))
theorem mt_extendT : MtM X "list.extend" (rExtendT X.K) := by
  intro pins s σ H x vs v us Q I rx rv h
  obtain ⟨l, b, xs, zs, rfl, rfl, hH, hB, hz, q⟩ := h
  cases rx
  obtain ⟨u, rfl, ru⟩ := rv.one
  cases ru
  obtain ⟨z, its, n, r, hl, e⟩ := I.lstM hH
  obtain ⟨its2, r2, p2, hl2⟩ := I.tuple hB
  obtain ⟨⟨cls, dd, data, sl⟩, e2, hc, n2, hd⟩ := p2
  simp only at hc hd
  subst hc hd
  have l2 := r2.length
  have hsz : its.toArray.size + its2.toArray.size ≤ sizeLine := by rw [List.size_toArray, List.size_toArray]; omega
  have hlong : ¬ (!its.toArray.isEmpty && Builtin.List.listTooLong (its.toArray.size + its2.toArray.size)) = true := by
    rw [notLongL hsz, Bool.and_false]
    exact Bool.false_ne_true
  refine call_meets F.slot_list_extend ⟨_, e, rfl⟩ F.entry_list_extend (F.args_list_extend_2 _ _)
    (list_extT l its.toArray n b its2.toArray n2 dd sl hlong (by rw [List.size_toArray]; omega) (by omega)) ⟨e, e2, ?_⟩
  refine ⟨.non, _, I.lset (its' := its ++ its2) hH e (by simp) (r.append r2) ?_, rfl, q⟩
  rw [List.length_append]
  omega
theorem mtm_or {id : String} {r r' : V → List V → Hp → VK → Prop} (h : MtM X id r) (h' : MtM X id r') : MtM X id (fun x xs H Q => r x xs H Q ∨ r' x xs H Q) := by
  intro pins s σ H x xs v us Q I rx rs q
  rcases q with q | q
  · exact h pins s σ H x xs v us Q I rx rs q
  · exact h' pins s σ H x xs v us Q I rx rs q
theorem s_ext (hK : X.K = L.K) {p pc pa px : Pos} {i : Nat} {x : Str} {e : Ex} (hl : (pa.endLine == pc.line) = true) (hv : varB X.N X.env.scope i x = true) (he : PE X (un e) (rd L E e)) : PS X (unS (.ext p pc pa px i x e)) (rdSQ L E (ex L (.ext p pc pa px i x e))) := by
  refine PS_imp (ps_expr (pe_bm PySem.F.plainAttrs_list PySem.F.slot_list_extend PySem.F.type_list_extend (mtm_or mt_extend mt_extendT) (s_var hv) (pa_cons he pa_nil (un_star e _ _)) rfl (by rw [un_star]; rfl) hl (un_star e _ _) rfl) rfl) ?_
  rintro D σ H ⟨B, M, ρ, ω, R, h⟩
  simp only [ex] at h
  obtain ⟨⟨ds0, e0⟩, h⟩ := h
  obtain ⟨a, xs0, s1, h1, _, _⟩ := R.upd e0
  refine ⟨_, s1, .inl ⟨rfl, _, .of h1⟩, B, M, ρ, ω, R, ev_mono e h (fun y ρ1 ω1 h2 M1 v1 H1 R1 V1 => ?_) fun _ _ h => h⟩
  obtain ⟨M2, R2, r, _⟩ := R1.share V1
  rw [upV_iff] at h2
  obtain ⟨ds, e2, es, hk, hz, h2⟩ := h2
  obtain ⟨b, xs, s2, k1, k2, k3⟩ := R2.upd e2
  rw [s1] at s2
  cases s2
  rcases hk with hk | hk
  · rw [hk] at r
    obtain ⟨c, zs, rfl, g1, _, g2⟩ := r.lsq
    obtain ⟨R3, _⟩ := k3 (xs ++ zs) (ds ++ es) (k2.append g2)
    exact .inl ⟨a, c, xs, zs, rfl, rfl, k1, g1, by rw [k2.len, g2.len]; exact hz, h2 _ _ _ R3⟩
  · rw [hk] at r
    obtain ⟨c, zs, rfl, g1, g2⟩ := r.sqt
    obtain ⟨R3, _⟩ := k3 (xs ++ zs) (ds ++ es) (k2.append g2)
    exact .inr ⟨a, c, xs, zs, rfl, rfl, k1, hK ▸ g1, by rw [k2.len, g2.len]; exact hz, h2 _ _ _ R3⟩
theorem s_aug (G : Gs L T X E) {p px : Pos} {i : Nat} {x : Str} {op : Operator} {e : Ex} (h1 : nmB X.N i x = true) (h2 : locB X.env.scope (fun _ => true) x = true) (ho : op = .Add) (he : PE X (un e) (rd L E e)) : PS X (unS (.aug p px i x op e)) (rdSQ L E (ex L (.aug p px i x op e))) := by
  subst ho
  simp only [nmB, decide_eq_true_eq] at h1
  obtain ⟨l1, l2⟩ := locB_ok (X := X) (by rw [G.fn]; exact h2)
  refine PS_imp (ps_aug G.gd.nd h1 l1 he ip_add l2) ?_
  rintro D σ H ⟨B, M, ρ, ω, R, h⟩
  simp only [ex] at h
  obtain ⟨z, e1, n, m, rfl, h⟩ := h
  obtain ⟨v, s1, s2⟩ := R.sl i _ e1
  cases s2
  refine ⟨_, s1, B, M, ρ, ω, R, ev_mono e h (fun y ρ1 ω1 ⟨_, e2, h2⟩ M1 v1 H1 R1 V1 => ?_) fun _ _ h => h⟩
  obtain ⟨M2, R2, r, _⟩ := R1.share V1
  rw [e2] at r
  cases r
  exact ⟨n, m, rfl, rfl, nx_set (x := .sh (.int (n + m))) R2 (Rp.int (n + m)) h2⟩
theorem own_list {B : Bx} {M : Addr → Prop} {σ : Sg} {H : Hp} {ρ : En} {ω : Om} {v : V} {d : D} (V : VR L B M σ H ρ ω v (.ow d)) : ∃ ds, d = .list ds := by
  obtain ⟨a, _, ⟨_, _, _, o⟩, _⟩ := V
  cases d <;> first | exact o.elim | exact ⟨_, rfl⟩
theorem s_par (G : Gs L T X E) {p p1 p2 pa pb : Pos} {k1 k2 i j : Nat} {x y : Str} {a b : Ex} (hi : nmB X.N i x = true) (hj : nmB X.N j y = true) (hij : i ≠ j) (ne : (x == y) = false) (hx : X.env.scope.names.lookup x = some .local) (hy : X.env.scope.names.lookup y = some .local)
    (hl : (pa.line == pb.line) = true) (h1 : [un a, un b].all (foldedForSure 8) = false) (h2 : [un a, un b].all (constantsAlone 8) = false) (ha : PE X (un a) (rd L E a)) (hb : PE X (un b) (rd L E b)) :
    PS X (unS (.par p p1 p2 pa pb k1 k2 i j x y a b)) (rdSQ L E (ex L (.par p p1 p2 pa pb k1 k2 i j x y a b))) := by
  simp only [nmB, decide_eq_true_eq] at hi hj
  refine PS_imp (ps_par G.gd.calm G.gd.nd hi hj hij hx hy (pa_cons ha (pa_cons hb pa_nil (un_star b _ _)) (un_star a _ _)) (sw_par G.kind hx hy hl ne h1 h2) rfl) ?_
  rintro D σ H ⟨B, M, ρ, ω, R, h⟩
  simp only [ex] at h
  refine ⟨B, M, ρ, ω, R, ev_mono a h (fun u ρ1 ω1 h1 M1 v1 H1 R1 V1 => ?_) fun _ _ h => h⟩
  have fin : ∀ {M : Addr → Prop} {H : Hp} {ρ : En} {ω : Om} {w v : V} {z u : Sl}, RS L B M σ H ρ ω → VR L B M σ H ρ ω v u → VR L B M σ H ρ ω w z → (∀ d e, u = .ow d → z = .ow e → v ≠ w) → (PF L B E D).nx ((ρ.set i u).set j z) ω → D.nx ((σ.set i (some v)).set j (some w)) H := by
    intro M H ρ ω w v z u R V W nw h
    by_cases hi' : i < σ.length
    · have R' := R.setS hi' V
      refine nx_set R' ?_ h
      cases z with
      | no => exact W
      | sh d => exact W
      | ow d =>
        obtain ⟨a, rfl, o, nh⟩ := W
        refine ⟨a, rfl, o, fun hd => ?_⟩
        rcases hd with ⟨k, e, g1, g2⟩ | hd
        · rcases get_set g1 with ⟨rfl, e1, _⟩ | ⟨n1, e1⟩
          · rw [List.getElem?_set_self hi'] at g2
            cases g2
            exact nw e d e1.symm rfl rfl
          · rw [List.getElem?_set_ne n1] at g2
            exact nh (.inl ⟨k, e, e1, g2⟩)
        · exact nh (.inr hd)
    · rw [List.set_eq_of_length_le (l := ρ) (by rw [R.ln]; omega)] at h
      rw [List.set_eq_of_length_le (l := σ) (by omega)]
      exact nx_set R W h
  cases u with
  | no => exact V1.elim
  | sh d =>
    refine ⟨B.hd v1 d, M1, ρ1, ω1, R1.holdIn V1, ev_mono b h1 (fun z ρ2 ω2 h2 M2 v2 H2 R2 V2 => ⟨v1, v2, rfl, ?_⟩) fun _ _ => PX.hd⟩
    obtain ⟨R3, r1⟩ := R2.holdOut
    exact fin (u := .sh d) R3 r1 V2 (fun d e z => nomatch z) h2
  | ow d =>
    obtain ⟨ds, rfl⟩ := own_list V1
    obtain ⟨c, xs, rfl, rs, R1'⟩ := R1.pinIn V1
    have nd : ∀ q ∈ B.pins, q.1 ≠ c := fun q hq z => by
      obtain ⟨c', e, _, nh⟩ := V1
      cases e
      exact nh (.inr ⟨q, hq, z⟩)
    have R1'' : RS L ((B.pn c (.lst xs)).hds xs ds) M1 σ H1 ρ1 ω1 := R1'.holdsIn rs
    refine ⟨_, M1, ρ1, ω1, R1'', ev_mono b h1 (fun z ρ2 ω2 h2 M2 v2 H2 R2 V2 => ⟨_, v2, rfl, ?_⟩) fun x ω hx M H c d A q => hx M H c d (A.to rfl rfl rfl) q⟩
    obtain ⟨R3, rs'⟩ := R2.holdsOut rs.len
    obtain ⟨R4, V4⟩ := R3.pinOut rs' nd
    have V2' : VR L B M2 σ H2 ρ2 ω2 v2 z := by
      cases z with
      | no => exact V2
      | sh d => exact V2
      | ow d =>
        obtain ⟨a, e, o, nh⟩ := V2
        refine ⟨a, e, o, fun hd => nh ?_⟩
        rcases hd with hd | ⟨q, hq, e⟩
        · exact .inl hd
        · exact .inr ⟨q, List.mem_cons_of_mem _ hq, e⟩
    refine fin (u := .ow (.list ds)) R4 V4 V2' (fun d e _ z' => ?_) h2
    subst z'
    obtain ⟨a, ea, o, nh⟩ := V2
    intro q
    cases q
    cases ea
    exact nh (.inr ⟨_, List.mem_cons_self, rfl⟩)
theorem s_nilS : PSs X (unSs []) (rdSQ L E (exs L [])) := by
  refine PSs_imp pss_nil ?_
  rintro D σ H ⟨B, M, ρ, ω, R, h⟩
  simp only [exs] at h
  exact h M σ H R
theorem s_consS {a : St'} {b : List St'} (ha : PS X (unS a) (rdSQ L E (ex L a))) (hb : PSs X (unSs b) (rdSQ L E (exs L b))) : PSs X (unSs (a :: b)) (rdSQ L E (exs L (a :: b))) := by
  refine PSs_imp (pss_cons ha hb) ?_
  rintro D σ H ⟨B, M, ρ, ω, R, h⟩
  simp only [exs] at h
  exact ⟨B, M, ρ, ω, R, ex_mono a h ⟨fun ρ ω h M σ H R => ⟨B, M, ρ, ω, R, h⟩, fun _ _ h => h, fun _ _ h => h, fun _ _ h => h, fun _ _ h => h⟩⟩
mutual
theorem snd_st : ∀ (t : St') (X : Cx) (E : XK), Gs L T X E → wfS T X.N X.env.scope t = true → PS X (unS t) (rdSQ L E (ex L t))
  | .asg p px i x e, X, E, G, h => by
    simp only [wfS, Bool.and_eq_true] at h
    exact s_asg G h.1.1 h.1.2 (by rw [G.fn]; exact h.2)
  | .par p p1 p2 pa pb k1 k2 i j x y a b, X, E, G, h => by
    simp only [wfS, Bool.and_eq_true, Bool.not_eq_true', decide_eq_false_iff_not, decide_eq_true_eq] at h
    obtain ⟨⟨⟨⟨⟨⟨⟨⟨⟨⟨h1, h2⟩, h3⟩, h4⟩, h5⟩, h6⟩, h7⟩, h8⟩, h9⟩, h10⟩, h11⟩ := h
    exact s_par G h1 h2 h3 h4 h5 h6 h7 h8 h9 (snd_e a T X E G.gd (by rw [G.fn]; exact h10)).1 (snd_e b T X E G.gd (by rw [G.fn]; exact h11)).1
  | .aug p px i x op e, X, E, G, h => by
    simp only [wfS, Bool.and_eq_true, decide_eq_true_eq] at h
    exact s_aug G h.1.1.1 h.1.1.2 h.1.2 (snd_e e T X E G.gd (by rw [G.fn]; exact h.2)).1
  | .ret p e, X, E, G, h => by
    simp only [wfS] at h
    exact s_ret (snd_e e T X E G.gd (by rw [G.fn]; exact h)).1
  | .retV p px i x, X, E, G, h => by
    simp only [wfS] at h
    exact s_retV h
  | .exp p e, X, E, G, h => by
    simp only [wfS, Bool.and_eq_true, Bool.not_eq_true'] at h
    exact s_exp h.1 (snd_e e T X E G.gd (by rw [G.fn]; exact h.2)).1
  | .app p pc pa px i x e, X, E, G, h => by
    simp only [wfS, Bool.and_eq_true] at h
    exact s_app h.1.1 h.1.2 (snd_e e T X E G.gd (by rw [G.fn]; exact h.2)).1
  | .ext p pc pa px i x e, X, E, G, h => by
    simp only [wfS, Bool.and_eq_true] at h
    obtain ⟨k, F, hr⟩ := G.gd.fx
    exact s_ext F.hK h.1.1 h.1.2 (snd_e e T X E G.gd (by rw [G.fn]; exact h.2)).1
  | .raise p pc pn c x es, X, E, G, h => by
    simp only [wfS, Bool.and_eq_true, decide_eq_true_eq] at h
    exact s_raise G h.1.1 h.1.2 (snd_s es T X E G.gd (by rw [G.fn]; exact h.2)).1
  | .ife p c a b, X, E, G, h => by
    simp only [wfS, Bool.and_eq_true] at h
    exact s_ifS (snd_e c T X E G.gd (by rw [G.fn]; exact h.1.1)).2 (snd_sts a X E G h.1.2) (snd_sts b X E G h.2)
  | .whl p c a, X, E, G, h => by
    simp only [wfS, Bool.and_eq_true] at h
    exact s_whl G (snd_e c T X E G.gd (by rw [G.fn]; exact h.1)).2 (snd_sts a X E G h.2)
  | .fr p tg it a, X, E, G, h => by
    simp only [wfS, Bool.and_eq_true] at h
    obtain ⟨k, F, hr⟩ := G.gd.fx
    exact s_fr G F.hK (snd_i it T X E G.gd tg (by rw [G.fn]; exact h.1.2)) (s_tg G.gd.calm G.gd.nd tg (by rw [G.fn]; exact h.1.1)) (snd_sts a X E G h.2)
  | .dkSet p ps a kk pk key e, X, E, G, h => by
    simp only [wfS, Bool.and_eq_true, Bool.not_eq_true'] at h
    obtain ⟨k, F, hr⟩ := G.gd.fx
    exact s_dkSet (by have := hr.un; omega) h.1.1 (snd_e a T X E G.gd (by rw [G.fn]; exact h.1.2)).1 (snd_e e T X E G.gd (by rw [G.fn]; exact h.2)).1
  | .cApp p pc pa a e, X, E, G, h => by
    simp only [wfS, Bool.and_eq_true] at h
    exact s_cApp h.1.1.1 h.1.1.2 (snd_e a T X E G.gd (by rw [G.fn]; exact h.1.2)).1 (snd_e e T X E G.gd (by rw [G.fn]; exact h.2)).1
  | .brk p, X, E, G, h => by
    refine PS_imp ps_break ?_
    rintro D σ H ⟨B, M, ρ, ω, R, h⟩
    simp only [ex] at h
    exact h M σ H R
  | .cont p, X, E, G, h => by
    refine PS_imp ps_continue ?_
    rintro D σ H ⟨B, M, ρ, ω, R, h⟩
    simp only [ex] at h
    exact h M σ H R
theorem snd_sts : ∀ (t : List St') (X : Cx) (E : XK), Gs L T X E → wfSs T X.N X.env.scope t = true → PSs X (unSs t) (rdSQ L E (exs L t))
  | [], X, E, G, h => s_nilS
  | a :: b, X, E, G, h => by
    simp only [wfSs, Bool.and_eq_true] at h
    exact s_consS (snd_st a X E G h.1) (snd_sts b X E G h.2)
end
end
end Ev
namespace Ev
open L2 PyProof.Rows PySem.Calls PySem.Spec PySem
abbrev Cl := Nat → List D → Om → (Sl → Om → Prop) → (Xn → Om → Prop) → Prop
def ClMono (c : Cl) : Prop := ∀ {f : Nat} {ds : List D} {ω : Om} {Q Q' : Sl → Om → Prop} {E E' : Xn → Om → Prop}, (∀ x ω, Q x ω → Q' x ω) → (∀ x ω, E x ω → E' x ω) → c f ds ω Q E → c f ds ω Q' E'
structure Fd where
  N : List Str
  np : Nat
  body : List St'
/-- what lies about; the defs; those that are shown otherwise -/
structure Bs where
  K : PySem.W.Frag
  gv : Nat → Option D
  ca : Str → Option Addr
  tb : List (Addr × Str)
  P : Nat → Option Fd
  pr : Cl
  pm : ClMono pr
section
def mkL (b : Bs) (c : Cl) (m : ClMono c) : Lv := ⟨b.K, b.gv, b.ca, b.tb, c, m⟩
def startE (fd : Fd) (ds : List D) : En := ds.map Sl.sh ++ List.replicate (fd.N.length - fd.np) .no
/-- cells that nobody asks for any more may be forgotten -/
def SubO (ω' ω : Om) : Prop := ∀ a c, ω' a = some c → ω a = some c
def dQ (P : Om → Prop) (ω : Om) : Prop := ∃ ω', SubO ω' ω ∧ P ω'
theorem dQ_id {P : Om → Prop} {ω : Om} (h : P ω) : dQ P ω := ⟨ω, fun _ _ h => h, h⟩
theorem dQ_imp {P P' : Om → Prop} {ω : Om} (h : dQ P ω) (f : ∀ ω, P ω → P' ω) : dQ P' ω := let ⟨w, s, q⟩ := h; ⟨w, s, f w q⟩
theorem fo_sub {ω ω' : Om} {a : Addr} (s : SubO ω' ω) (h : fo ω' a) : fo ω a := by
  rcases h with ⟨c, h⟩ | ⟨b, c, i, h, q⟩
  · exact .inl ⟨c, s _ _ h⟩
  · exact .inr ⟨b, c, i, s _ _ h, q⟩
theorem Aft.drop {L : Lv} {B : Bx} {H : Hp} {ω ω' : Om} {M : Addr → Prop} (A : Aft L B H ω M) (s : SubO ω' ω) : Aft L B H ω' M :=
  ⟨⟨fun a c h => A.am.cell a c (s a c h), fun a c i g h q => (by
      have z := A.am.own a c i g (s a c h) q
      cases e : ω' g with
      | none => rfl
      | some d =>
        rw [s g d e] at z
        cases z), fun a c i g a' c' i' h q h' q' => A.am.dj a c i g a' c' i' (s _ _ h) q (s _ _ h') q'⟩, fun a h => A.fm a (fo_sub s h), A.mt, A.m0, A.mx, A.kp, A.dm, fun a h => A.fg a (fo_sub s h), A.t0, A.tbs⟩
def callF (L : Lv) (fd : Fd) (ds : List D) (ω : Om) (Q : Sl → Om → Prop) (E : Xn → Om → Prop) : Prop :=
  ds.length = fd.np ∧ exs L fd.body (startE fd ds) ω ⟨fun _ ω => dQ (Q (.sh .none)) ω, fun x => dQ (Q x), fun _ _ => False, fun _ _ => False, fun x => dQ (E x)⟩
theorem callF_mono (L : Lv) (fd : Fd) {ds : List D} {ω : Om} {Q Q' : Sl → Om → Prop} {E E' : Xn → Om → Prop} (h : callF L fd ds ω Q E) (f : ∀ x ω, Q x ω → Q' x ω) (g : ∀ x ω, E x ω → E' x ω) : callF L fd ds ω Q' E' :=
  ⟨h.1, exs_mono _ h.2 ⟨fun _ ω h => dQ_imp h (f _), fun x ω h => dQ_imp h (f x), fun _ _ h => h, fun _ _ h => h, fun x ω h => dQ_imp h (g x)⟩⟩
def clP (b : Bs) : Nat → { c : Cl // ClMono c }
  | 0 => ⟨fun f ds ω Q E => match b.P f with
      | some _ => False
      | none => b.pr f ds ω Q E, fun {f ds ω Q Q' E E'} hq he h => by
        simp only at h ⊢
        split at h
        · exact h
        · exact b.pm hq he h⟩
  | n + 1 => ⟨fun f ds ω Q E => match b.P f with
      | some fd => callF (mkL b (clP b n).1 (clP b n).2) fd ds ω Q E
      | none => b.pr f ds ω Q E, fun {f ds ω Q Q' E E'} hq he h => by
        simp only at h ⊢
        split at h
        · exact callF_mono _ _ h hq he
        · exact b.pm hq he h⟩
def lv (b : Bs) (n : Nat) : Lv := mkL b (clP b n).1 (clP b n).2
theorem lv_def {b : Bs} {n f : Nat} {fd : Fd} (h : b.P f = some fd) (ds : List D) (ω : Om) (Q : Sl → Om → Prop) (E : Xn → Om → Prop) : (lv b (n + 1)).cl f ds ω Q E = callF (lv b n) fd ds ω Q E := by
  show (match b.P f with
      | some fd => callF (mkL b (clP b n).1 (clP b n).2) fd ds ω Q E
      | none => b.pr f ds ω Q E) = _
  rw [h]
  rfl
theorem lv_pr {b : Bs} {n f : Nat} (h : b.P f = none) (ds : List D) (ω : Om) (Q : Sl → Om → Prop) (E : Xn → Om → Prop) : (lv b n).cl f ds ω Q E = b.pr f ds ω Q E := by
  cases n with
  | zero =>
    show (match b.P f with
      | some _ => False
      | none => b.pr f ds ω Q E) = _
    rw [h]
  | succ n =>
    show (match b.P f with
      | some fd => callF (mkL b (clP b n).1 (clP b n).2) fd ds ω Q E
      | none => b.pr f ds ω Q E) = _
    rw [h]
theorem startE_rs {L : Lv} {fd : Fd} {vs : List V} {ds : List D} {H : Hp} {ω : Om} {M : Addr → Prop} (am : Am L.K ω H M) (fm : ∀ a, fo ω a → M a) (mt : ∀ a, M a → ∃ o, H a = some o ∧ Mk o) (tb : LamX.Tabs L.tb H) (rs : RpA L.K H M vs ds) (hl : ds.length = fd.np) :
    RS L (.at H ω M) M (L2.start fd.N vs) H (startE fd ds) ω := by
  have hv := rs.len
  have noow : ∀ {i : Nat} {d : D}, (startE fd ds)[i]? ≠ some (.ow d) := by
    intro i d h
    unfold startE at h
    by_cases hi : i < (ds.map Sl.sh).length
    · rw [List.getElem?_append_left hi, List.getElem?_map] at h
      cases e : ds[i]? with
      | none => rw [e] at h; cases h
      | some d => rw [e] at h; cases h
    · rw [List.getElem?_append_right (by omega), List.getElem?_replicate] at h
      split at h <;> cases h
  refine ⟨⟨am, fm, mt, fun _ h => h, fun _ h => .inl h, fun _ _ h _ _ => h, fun _ o h n => ⟨o, h, n⟩, fun _ h => .inl h, fun a h => let ⟨o, q, k⟩ := mt a h; ⟨o, q, k.nt⟩, tb⟩, ?_, fun i x h => ?_, fun i j a d e h => absurd h noow, fun p hp => absurd hp (by simp [Bx.at]), fun p hp => absurd hp (by simp [Bx.at]), fun p hp => absurd hp (by simp [Bx.at])⟩
  · unfold startE L2.start
    simp only [List.length_append, List.length_map, List.length_replicate]
    omega
  · cases x with
    | no => trivial
    | ow d => exact absurd h noow
    | sh d =>
      unfold startE at h
      by_cases hi : i < (ds.map Sl.sh).length
      · rw [List.getElem?_append_left hi, List.getElem?_map] at h
        cases e : ds[i]? with
        | none => rw [e] at h; cases h
        | some d' =>
          rw [e] at h
          cases h
          obtain ⟨v, e1, r⟩ := rs.get e
          refine ⟨v, ?_, r⟩
          have hi2 : i < (vs.map some).length := by simpa [hv] using hi
          unfold L2.start
          rw [List.getElem?_append_left hi2, List.getElem?_map, e1]
          rfl
      · rw [List.getElem?_append_right (by omega), List.getElem?_replicate] at h
        split at h <;> cases h
theorem Aft.re {b : Bs} {n m : Nat} {B : Bx} {H : Hp} {ω : Om} {M : Addr → Prop} (A : Aft (lv b n) B H ω M) : Aft (lv b m) B H ω M := ⟨A.am, A.fm, A.mt, A.m0, A.mx, A.kp, A.dm, A.fg, A.t0, A.tbs⟩
theorem lv_tb {b : Bs} {n : Nat} : (lv b n).tb = b.tb := rfl
def lamQ (qual : Str) : Str := qual ++ ".<locals>." ++ "<lambda>"
theorem cxOf_qual {CX : CXT} {P : Program} {w : World} {K : PySem.W.Frag} {mg : Str → Option Value} {base : Heap} {N : List Str} {qual : Str} {scope : Scope} {f : Addr} {cd : Value} {A : Around} {outer : List Env} {s : Shared} {H : Hp} {E : XK} : (cxOf CX P w K mg base N qual scope f cd A outer s H E).env.qual ++ "<lambda>" = lamQ qual := rfl
def cdA (K : PySem.W.Frag) (a : Addr) : Value := match K.lookup a with
  | some ⟨_, _, .func fd, _⟩ => fd.code
  | _ => .none
/-- THE RULE: a def of the text, by its body as the evaluator has it -/
theorem fn_ev {b : Bs} {T : Tab} {P : Program} {w : World} {K : PySem.W.Frag} {mg : Str → Option Value} {base : Heap} {n k f : Nat} {fd : Fd} {x qual : Str} {st : Stmt} {a : Addr} {fdt : FuncData} {ps : List Str}
    (hP : b.P f = some fd) (Fn : Fun K x qual st a fdt) (S : FnScope fd.N ps (defScope st)) (hn : ps.length = fd.np) (hb : unSs fd.body = defBody st) (hw : wfSs T fd.N (defScope st) fd.body = true) (F : Fx (lv b n) T P w K mg base k)
    (lm : ∀ x, T.wN = some x → ∃ c P', cdA K a = .ref c ∧ LamX.TabB base mg c P' ∧ (P', lamQ qual) ∈ b.tb ∧ ∀ p ∈ b.tb, p.1 = P' → p.2 = lamQ qual) :
    FnG P w K mg base (L2.CX P w) (k + T.w5 + 1) a fdt ps (spF (lv b (n + 1)) f fd.np) := by
  obtain ⟨oc, od, kV, doc, pm, an, cdv, ct, osl, rfl, lk, hcd⟩ := Fn.ex
  refine fn_ofG lk hcd S (fun vs H Q E h => h.1.trans hn.symm) fun A outer s H vs Q E hr hgu hsp => ⟨rdSQ (lv b n) E (exs (lv b n) fd.body), ?_, ?_⟩
  · rw [← hb]
    refine snd_sts fd.body _ E ⟨⟨rfl, S.nd, hgu, ?_, ?_, ⟨k, F, hr⟩, fun x hx => ?_⟩, S.kind, ?_, rfl⟩ hw
    · exact passes_call (takes_of rfl rfl rfl rfl) fun _ _ _ _ h => h
    · exact passes_of rfl
    · obtain ⟨c, P', h1, h2, h3, h4⟩ := lm x hx
      have h5 : cdv = .ref c := by
        unfold cdA at h1
        rw [lk] at h1
        exact h1
      refine LmI.mk ⟨c, P', h2, h5, ?_, ?_⟩
      · rw [lv_tb, cxOf_qual]
        exact h3
      · rw [lv_tb, cxOf_qual]
        exact h4
    · exact takes_of rfl rfl rfl rfl
  · obtain ⟨_, ds, M, ω, am, fm, mt, tb, rs, h⟩ := hsp
    rw [lv_def hP] at h
    refine ⟨.at H ω M, M, startE fd ds, ω, startE_rs (L := lv b n) am fm mt tb rs h.1, exs_mono fd.body h.2 ⟨fun ρ ω ⟨ω', s, h⟩ M σ H' R => h M .non H' (R.af.drop s).re .non, fun x ω ⟨ω', s, h⟩ M v H' A V => h M v H' (A.drop s).re ?_, fun _ _ h => h.elim, fun _ _ h => h.elim, fun x ω ⟨ω', s, h⟩ M H' c d A q => h M H' c d (A.drop s).re q⟩⟩
    cases x with
    | no => exact V
    | sh d => exact V
    | ow d =>
      obtain ⟨a, e, o1, o2, o3, o4⟩ := V
      exact ⟨a, e, o1, fun z => o2 (fo_sub s z), o3, o4⟩
end
end Ev
namespace Ev
open L2 PyProof.Rows PySem.Calls PySem.Spec PySem
section
variable {L : Lv} {ρ : En} {ω : Om}
def Fl.sx (F : Fl) (n : En → Om → Prop) : Fl := { F with nx := n }
def Fl.lp (F : Fl) (n : En → Om → Prop) : Fl := { F with nx := n, ct := n, bk := F.nx }
def fl0 (Q : Sl → Om → Prop) (E : Xn → Om → Prop) : Fl := ⟨fun _ ω => dQ (Q (.sh .none)) ω, fun x => dQ (Q x), fun _ _ => False, fun _ _ => False, fun x => dQ (E x)⟩
section
variable {F : Fl} {n : En → Om → Prop} {x : Sl} {e : Xn} {Q : Sl → Om → Prop} {E : Xn → Om → Prop}
theorem Isx_nx (h : n ρ ω) : (F.sx n).nx ρ ω := h
theorem Isx_rt (h : F.rt x ω) : (F.sx n).rt x ω := h
theorem Isx_bk (h : F.bk ρ ω) : (F.sx n).bk ρ ω := h
theorem Isx_ct (h : F.ct ρ ω) : (F.sx n).ct ρ ω := h
theorem Isx_ex (h : F.ex e ω) : (F.sx n).ex e ω := h
theorem Ilp_nx (h : n ρ ω) : (F.lp n).nx ρ ω := h
theorem Ilp_rt (h : F.rt x ω) : (F.lp n).rt x ω := h
theorem Ilp_bk (h : F.nx ρ ω) : (F.lp n).bk ρ ω := h
theorem Ilp_ct (h : n ρ ω) : (F.lp n).ct ρ ω := h
theorem Ilp_ex (h : F.ex e ω) : (F.lp n).ex e ω := h
theorem Ifl_nx (h : Q (.sh .none) ω) : (fl0 Q E).nx ρ ω := dQ_id h
theorem Ifl_rt (h : Q x ω) : (fl0 Q E).rt x ω := dQ_id h
theorem Ifl_ex (h : E e ω) : (fl0 Q E).ex e ω := dQ_id h
end
def br (k : Bool) (a b : Prop) : Prop := if k = true then a else b
theorem br_t {a b : Prop} : br true a b = a := by simp [br]
theorem br_f {a b : Prop} : br false a b = b := by simp [br]
theorem br_i {k : Bool} {a b : Prop} (h1 : k = true → a) (h2 : k = false → b) : br k a b := by
  cases k
  · rw [br_f]; exact h2 rfl
  · rw [br_t]; exact h1 rfl
def loopF (L : Lv) (tg : Tg) (a : List St') : List D → En → Om → Fl → Prop := forGo fun d ρ ω F => bindT tg d ρ fun ρ => exs L a ρ ω F
def loopW (L : Lv) (c : Ex) (a : List St') : Nat → En → Om → Fl → Prop := whGo (fun ρ ω Q E => ev L c ρ ω (fun x ρ ω => got (toB x.d) fun k => Q k ρ ω) E) fun ρ ω F => exs L a ρ ω F
def loopL (L : Lv) (own : List (Str × Nat)) (tg : Tg) (ifs : Exs) (elt : Ex) : List D → List D → En → Om → (List D → En → Om → Prop) → Prop :=
  lcGo fun d ρ ω k => bindT tg d (wipeE ρ (own.map (·.2))) fun ρ => evIf L ifs ρ ω (fun b ρ ω => if b = true then ev L elt ρ ω (fun x ρ ω => k (some x.d) ρ ω) (fun _ _ => False) else k none ρ ω)
theorem ev_var {u1} {i} {u2} {Q : KQ} {E : KX} : ev L (.var u1 i u2) ρ ω Q E = (rdV ρ i fun d ρ' => Q (.sh d) ρ' ω) := by
  simp only [ev, br]
theorem ev_non {u1} {u2} {Q : KQ} {E : KX} : ev L (.non u1 u2) ρ ω Q E = (Q (.sh .none) ρ ω) := by
  simp only [ev, br]
theorem ev_bl {b} {u1} {u2} {Q : KQ} {E : KX} : ev L (.bl b u1 u2) ρ ω Q E = (Q (.sh (.bool b)) ρ ω) := by
  simp only [ev, br]
theorem ev_int {i} {u1} {u2} {Q : KQ} {E : KX} : ev L (.int i u1 u2) ρ ω Q E = (Q (.sh (.int i)) ρ ω) := by
  simp only [ev, br]
theorem ev_str {s} {u1} {u2} {Q : KQ} {E : KX} : ev L (.str s u1 u2) ρ ω Q E = (Q (.sh (.str s)) ρ ω) := by
  simp only [ev, br]
theorem ev_gc {u1} {u2} {g} {Q : KQ} {E : KX} : ev L (.gc u1 u2 g) ρ ω Q E = (got (L.gv g) fun d => Q (.sh d) ρ ω) := by
  simp only [ev, br]
theorem ev_bin {op} {u1} {a} {b} {Q : KQ} {E : KX} : ev L (.bin op u1 a b) ρ ω Q E = (ev L a ρ ω (fun x ρ ω => ev L b ρ ω (fun y ρ ω => got (binD op x.d y.d) fun d => Q (.sh d) ρ ω) E) E) := by
  simp only [ev, br]
theorem ev_cmp {op} {u1} {a} {b} {Q : KQ} {E : KX} : ev L (.cmp op u1 a b) ρ ω Q E = (ev L a ρ ω (fun x ρ ω => ev L b ρ ω (fun y ρ ω => got (cmpD op x.d y.d) fun d => Q (.sh d) ρ ω) E) E) := by
  simp only [ev, br]
theorem ev_cmp2 {o1} {o2} {u1} {a} {b} {c} {Q : KQ} {E : KX} : ev L (.cmp2 o1 o2 u1 a b c) ρ ω Q E = (ev L a ρ ω (fun x ρ ω => ev L b ρ ω (fun y ρ ω => got ((cmpD o1 x.d y.d).bind toB) fun k => br k (ev L c ρ ω (fun z ρ ω => got (cmpD o2 y.d z.d) fun d => Q (.sh d) ρ ω) E) (Q (.sh (.bool false)) ρ ω)) E) E) := by
  simp only [ev, br]
theorem ev_isN {neg} {u1} {u2} {u3} {a} {Q : KQ} {E : KX} : ev L (.isN neg u1 u2 u3 a) ρ ω Q E = (ev L a ρ ω (fun x ρ ω => got (noneD x.d) fun b => Q (.sh (.bool (b != neg))) ρ ω) E) := by
  simp only [ev, br]
theorem ev_emp {neg} {u1} {u2} {u3} {i} {u4} {Q : KQ} {E : KX} : ev L (.emp neg u1 u2 u3 i u4) ρ ω Q E = (pkV ρ i fun d => ∃ xs, d = .list xs ∧ Q (.sh (.bool (xs.isEmpty != neg))) ρ ω) := by
  simp only [ev, br]
theorem ev_and {u1} {es} {Q : KQ} {E : KX} : ev L (.and u1 es) ρ ω Q E = (evAnd L es ρ ω Q E) := by
  simp only [ev, br]
theorem ev_or {u1} {es} {Q : KQ} {E : KX} : ev L (.or u1 es) ρ ω Q E = (evOr L es ρ ω Q E) := by
  simp only [ev, br]
theorem ev_not {u1} {a} {Q : KQ} {E : KX} : ev L (.not u1 a) ρ ω Q E = (ev L a ρ ω (fun x ρ ω => got (toB x.d) fun b => Q (.sh (.bool (!b))) ρ ω) E) := by
  simp only [ev, br]
theorem ev_ife {u1} {c} {a} {b} {Q : KQ} {E : KX} : ev L (.ife u1 c a b) ρ ω Q E = (ev L c ρ ω (fun x ρ ω => got (toB x.d) fun k => br k (ev L a ρ ω Q E) (ev L b ρ ω Q E)) E) := by
  simp only [ev, br]
theorem ev_call {u1} {u2} {u3} {f} {es} {Q : KQ} {E : KX} : ev L (.call u1 u2 u3 f es) ρ ω Q E = (evs L es ρ ω (fun ds ρ ω => L.cl f ds ω (fun x ω => Q x ρ ω) E) E) := by
  simp only [ev, br]
theorem ev_callK {u1} {u2} {u3} {f} {u4} {u5} {e} {Q : KQ} {E : KX} : ev L (.callK u1 u2 u3 f u4 u5 e) ρ ω Q E = (ev L e ρ ω (fun x ρ ω => L.cl f [x.d] ω (fun x ω => Q x ρ ω) E) E) := by
  simp only [ev, br]
theorem ev_bi {u1} {u2} {b} {es} {Q : KQ} {E : KX} : ev L (.bi u1 u2 b es) ρ ω Q E = (evs L es ρ ω (fun ds ρ ω => got (bifD b ds) fun r => Q (if r.1 = true then .ow r.2 else .sh r.2) ρ ω) E) := by
  simp only [ev, br]
theorem ev_isi {u1} {u2} {a} {u3} {T} {Q : KQ} {E : KX} : ev L (.isi u1 u2 a u3 T) ρ ω Q E = (ev L a ρ ω (fun x ρ ω => got (isD T x.d) fun b => Q (.sh (.bool b)) ρ ω) E) := by
  simp only [ev, br]
theorem ev_isi2 {u1} {u2} {a} {u3} {u4} {u5} {u6} {T1} {T2} {Q : KQ} {E : KX} : ev L (.isi2 u1 u2 a u3 u4 u5 u6 T1 T2) ρ ω Q E = (ev L a ρ ω (fun x ρ ω => got (isD T1 x.d) fun b => got (isD T2 x.d) fun c => Q (.sh (.bool (b || c))) ρ ω) E) := by
  simp only [ev, br]
theorem ev_sub {u1} {a} {b} {Q : KQ} {E : KX} : ev L (.sub u1 a b) ρ ω Q E = (ev L a ρ ω (fun x ρ ω => ev L b ρ ω (fun y ρ ω => got (subD x.d y.d) fun d => Q (.sh d) ρ ω) E) E) := by
  simp only [ev, br]
theorem ev_slL {u1} {u2} {a} {lo} {Q : KQ} {E : KX} : ev L (.slL u1 u2 a lo) ρ ω Q E = (ev L a ρ ω (fun x ρ ω => ev L lo ρ ω (fun y ρ ω => got (toI y.d) fun i => got (slD x.d (some i) none) fun d => Q (.sh d) ρ ω) E) E) := by
  simp only [ev, br]
theorem ev_slH {u1} {u2} {a} {hi} {Q : KQ} {E : KX} : ev L (.slH u1 u2 a hi) ρ ω Q E = (ev L a ρ ω (fun x ρ ω => ev L hi ρ ω (fun y ρ ω => got (toI y.d) fun i => got (slD x.d none (some i)) fun d => Q (.sh d) ρ ω) E) E) := by
  simp only [ev, br]
theorem ev_slB {u1} {u2} {a} {lo} {hi} {Q : KQ} {E : KX} : ev L (.slB u1 u2 a lo hi) ρ ω Q E = (ev L a ρ ω (fun x ρ ω => ev L lo ρ ω (fun y ρ ω => got (toI y.d) fun i => ev L hi ρ ω (fun z ρ ω => got (toI z.d) fun j => got (slD x.d (some i) (some j)) fun d => Q (.sh d) ρ ω) E) E) E) := by
  simp only [ev, br]
theorem ev_tup {u1} {u2} {es} {Q : KQ} {E : KX} : ev L (.tup u1 u2 es) ρ ω Q E = (evs L es ρ ω (fun ds ρ ω => ds.length ≤ sizeLine ∧ Q (.sh (.tuple ds)) ρ ω) E) := by
  simp only [ev, br]
theorem ev_lst {u1} {es} {Q : KQ} {E : KX} : ev L (.lst u1 es) ρ ω Q E = (evs L es ρ ω (fun ds ρ ω => ds.length ≤ sizeLine ∧ Q (.ow (.list ds)) ρ ω) E) := by
  simp only [ev, br]
theorem ev_join {u1} {u2} {a} {b} {Q : KQ} {E : KX} : ev L (.join u1 u2 a b) ρ ω Q E = (ev L a ρ ω (fun x ρ ω => ev L b ρ ω (fun y ρ ω => got (joinD x.d y.d) fun d => Q (.sh d) ρ ω) E) E) := by
  simp only [ev, br]
theorem ev_pop {u1} {u2} {u3} {i} {u4} {Q : KQ} {E : KX} : ev L (.pop u1 u2 u3 i u4) ρ ω Q E = (upV ρ i fun xs k => got xs.getLast? fun d => Q (.sh d) (k xs.dropLast) ω) := by
  simp only [ev, br]
theorem ev_reprEq {u1} {u2} {u3} {u4} {u5} {a} {b} {Q : KQ} {E : KX} : ev L (.reprEq u1 u2 u3 u4 u5 a b) ρ ω Q E = (ev L a ρ ω (fun x ρ ω => shows x.d = true ∧ ev L b ρ ω (fun y ρ ω => x.d = y.d ∧ Q (.sh (.bool true)) ρ ω) E) E) := by
  simp only [ev, br]
theorem ev_lc {p : Pos} {sc : Scope} {own : List (Str × Nat)} {tg : Tg} {it : It'} {ifs : Exs} {elt : Ex} {Q : KQ} {E : KX} : ev L (.lc p sc own tg it ifs elt) ρ ω Q E = evI L it ρ ω (fun ds ρ0 ω => loopL L own tg ifs elt ds [] ρ0 ω fun acc ρ ω => Q (.ow (.list acc)) (wipeE ρ (own.map (·.2))) ω) E := by
  simp only [ev, loopL]
theorem ex_asg {u1} {u2} {i} {u3} {e} {F : Fl} : ex L (.asg u1 u2 i u3 e) ρ ω F = (ev L e ρ ω (fun x ρ ω => F.nx (ρ.set i x) ω) F.ex) := by
  simp only [ex, br]
theorem ex_par {u1} {u2} {u3} {u4} {u5} {u6} {u7} {i} {j} {u8} {u9} {a} {b} {F : Fl} : ex L (.par u1 u2 u3 u4 u5 u6 u7 i j u8 u9 a b) ρ ω F = (ev L a ρ ω (fun x ρ ω => ev L b ρ ω (fun y ρ ω => F.nx ((ρ.set i x).set j y) ω) F.ex) F.ex) := by
  simp only [ex, br]
theorem ex_aug {u1} {u2} {i} {u3} {op} {e} {F : Fl} : ex L (.aug u1 u2 i u3 op e) ρ ω F = (look ρ i fun z => ∃ n m, z = .sh (.int n) ∧ ev L e ρ ω (fun y ρ ω => op = .Add ∧ y.d = .int m ∧ F.nx (ρ.set i (.sh (.int (n + m)))) ω) F.ex) := by
  simp only [ex, br]
theorem ex_ret {u1} {e} {F : Fl} : ex L (.ret u1 e) ρ ω F = (ev L e ρ ω (fun x _ ω => F.rt x ω) F.ex) := by
  simp only [ex, br]
theorem rv_s {p px : Pos} {i : Nat} {x : Str} {F : Fl} {d : D} (h : ρ[i]? = some (.sh d)) (q : F.rt (.sh d) ω) : ex L (.retV p px i x) ρ ω F := by
  simp only [ex]
  exact ⟨_, h, q⟩
theorem rv_o {p px : Pos} {i : Nat} {x : Str} {F : Fl} {d : D} (h : ρ[i]? = some (.ow d)) (q : F.rt (.ow d) ω) : ex L (.retV p px i x) ρ ω F := by
  simp only [ex]
  exact ⟨_, h, q⟩
theorem ex_exp {u1} {e} {F : Fl} : ex L (.exp u1 e) ρ ω F = (ev L e ρ ω (fun _ ρ ω => F.nx ρ ω) F.ex) := by
  simp only [ex, br]
theorem ex_app {u1} {u2} {u3} {u4} {i} {u5} {e} {F : Fl} : ex L (.app u1 u2 u3 u4 i u5 e) ρ ω F = ((∃ xs, ρ[i]? = some (.ow (.list xs))) ∧ ev L e ρ ω (fun x ρ ω => upV ρ i fun xs k => xs.length < sizeLine ∧ F.nx (k (xs ++ [x.d])) ω) F.ex) := by
  simp only [ex, br]
theorem ex_ext {u1} {u2} {u3} {u4} {i} {u5} {e} {F : Fl} : ex L (.ext u1 u2 u3 u4 i u5 e) ρ ω F = ((∃ xs, ρ[i]? = some (.ow (.list xs))) ∧ ev L e ρ ω (fun x ρ ω => upV ρ i fun xs k => ∃ ds, (x.d = .list ds ∨ x.d = .tuple ds) ∧ xs.length + ds.length ≤ sizeLine ∧ F.nx (k (xs ++ ds)) ω) F.ex) := by
  simp only [ex, br]
theorem ex_raise {u1} {u2} {u3} {c} {u4} {es} {F : Fl} : ex L (.raise u1 u2 u3 c u4 es) ρ ω F = (evs L es ρ ω (fun ds ρ ω => L.cl c ds ω (fun _ _ => False) F.ex) F.ex) := by
  simp only [ex, br]
theorem ex_ife {u1} {c} {a} {b} {F : Fl} : ex L (.ife u1 c a b) ρ ω F = (ev L c ρ ω (fun x ρ ω => got (toB x.d) fun k => br k (exs L a ρ ω F) (exs L b ρ ω F)) F.ex) := by
  simp only [ex, br]
theorem ex_whl {p : Pos} {c : Ex} {a : List St'} {F : Fl} : ex L (.whl p c a) ρ ω F = ∃ n, loopW L c a n ρ ω F := by
  simp only [ex, loopW]
theorem ex_fr {p : Pos} {tg : Tg} {it : It'} {a : List St'} {F : Fl} : ex L (.fr p tg it a) ρ ω F = evI L it ρ ω (fun ds ρ ω => loopF L tg a ds ρ ω F) F.ex := by
  simp only [ex, loopF]
theorem ex_brk {u1} {F : Fl} : ex L (.brk u1) ρ ω F = (F.bk ρ ω) := by
  simp only [ex, br]
theorem ex_cont {u1} {F : Fl} : ex L (.cont u1) ρ ω F = (F.ct ρ ω) := by
  simp only [ex, br]
theorem evs_nil {Q : List D → En → Om → Prop} {E : KX} : evs L .nil ρ ω Q E = Q [] ρ ω := by
  simp only [evs]
theorem evs_cons {a : Ex} {b : Exs} {Q : List D → En → Om → Prop} {E : KX} : evs L (.cons a b) ρ ω Q E = ev L a ρ ω (fun x ρ ω => evs L b ρ ω (fun ds ρ ω => Q (x.d :: ds) ρ ω) E) E := by
  simp only [evs]
theorem evAnd_1 {a : Ex} {Q : KQ} {E : KX} : evAnd L (.cons a .nil) ρ ω Q E = ev L a ρ ω (fun x ρ ω => got (toB x.d) fun k => Q (.sh (.bool k)) ρ ω) E := by
  simp only [evAnd]
theorem evAnd_2 {a b : Ex} {c : Exs} {Q : KQ} {E : KX} : evAnd L (.cons a (.cons b c)) ρ ω Q E = ev L a ρ ω (fun x ρ ω => got (toB x.d) fun k => br k (evAnd L (.cons b c) ρ ω Q E) (Q (.sh (.bool false)) ρ ω)) E := by
  rw [evAnd]
  rfl
theorem evOr_1 {a : Ex} {Q : KQ} {E : KX} : evOr L (.cons a .nil) ρ ω Q E = ev L a ρ ω (fun x ρ ω => got (toB x.d) fun k => Q (.sh (.bool k)) ρ ω) E := by
  simp only [evOr]
theorem evOr_2 {a b : Ex} {c : Exs} {Q : KQ} {E : KX} : evOr L (.cons a (.cons b c)) ρ ω Q E = ev L a ρ ω (fun x ρ ω => got (toB x.d) fun k => br k (Q (.sh (.bool true)) ρ ω) (evOr L (.cons b c) ρ ω Q E)) E := by
  rw [evOr]
  rfl
theorem evIf_0 {Q : Bool → En → Om → Prop} : evIf L .nil ρ ω Q = Q true ρ ω := by
  simp only [evIf]
theorem evIf_1 {a : Ex} {Q : Bool → En → Om → Prop} : evIf L (.cons a .nil) ρ ω Q = ev L a ρ ω (fun x ρ ω => got (toB x.d) fun k => Q k ρ ω) fun _ _ => False := by
  simp only [evIf]
theorem evI_val {e : Ex} {Q : List D → En → Om → Prop} {E : KX} : evI L (.val e) ρ ω Q E = ev L e ρ ω (fun x ρ ω => got (itemsD x.d) fun ds => Q ds ρ ω) E := by
  simp only [evI]
theorem evI_rng {p pn : Pos} {e : Ex} {Q : List D → En → Om → Prop} {E : KX} : evI L (.rng p pn e) ρ ω Q E = ev L e ρ ω (fun x ρ ω => got (toI x.d) fun j => (-(2 ^ 62) ≤ j ∧ j < 2 ^ 62) ∧ Q ((List.range j.toNat).map fun i => .int (i : Nat)) ρ ω) E := by
  simp only [evI]
theorem evI_er {p pn pm pr : Pos} {e : Ex} {Q : List D → En → Om → Prop} {E : KX} : evI L (.enumRev p pn pm pr e) ρ ω Q E = ev L e ρ ω (fun x ρ ω => ∃ ds, x.d = .tuple ds ∧ Q (enumD 0 ds.reverse) ρ ω) E := by
  simp only [evI]
theorem exs_nil {F : Fl} : exs L [] ρ ω F = F.nx ρ ω := by
  simp only [exs]
theorem exs_cons {a : St'} {b : List St'} {F : Fl} : exs L (a :: b) ρ ω F = ex L a ρ ω (F.sx fun ρ ω => exs L b ρ ω F) := by
  simp only [exs]
  rfl
theorem rdV_0s {d : D} {k : D → En → Prop} : rdV (.sh d :: ρ) 0 k = k d (.sh d :: ρ) := rfl
theorem rdV_0o {d : D} {k : D → En → Prop} : rdV (.ow d :: ρ) 0 k = k d (.sh d :: ρ) := rfl
theorem rdV_s {x : Sl} {i : Nat} {k : D → En → Prop} : rdV (x :: ρ) (i + 1) k = rdV ρ i fun d ρ' => k d (x :: ρ') := by
  unfold rdV
  simp only [List.getElem?_cons_succ, List.set_cons_succ]
theorem pkV_0s {d : D} {k : D → Prop} : pkV (.sh d :: ρ) 0 k = k d := rfl
theorem pkV_0o {d : D} {k : D → Prop} : pkV (.ow d :: ρ) 0 k = k d := rfl
theorem pkV_s {x : Sl} {i : Nat} {k : D → Prop} : pkV (x :: ρ) (i + 1) k = pkV ρ i k := by
  unfold pkV
  simp only [List.getElem?_cons_succ]
theorem upV_0 {xs : List D} {k : List D → (List D → En) → Prop} : upV (.ow (.list xs) :: ρ) 0 k = k xs fun ys => .ow (.list ys) :: ρ := rfl
theorem upV_s {x : Sl} {i : Nat} {k : List D → (List D → En) → Prop} : upV (x :: ρ) (i + 1) k = upV ρ i fun xs f => k xs fun ys => x :: f ys := by
  unfold upV
  simp only [List.getElem?_cons_succ, List.set_cons_succ]
theorem look_0 {x : Sl} {k : Sl → Prop} : look (x :: ρ) 0 k = k x := by
  simp [look]
theorem look_s {x : Sl} {i : Nat} {k : Sl → Prop} : look (x :: ρ) (i + 1) k = look ρ i k := by
  simp [look]
theorem ownL_0 {xs : List D} : (∃ ys, ((.ow (.list xs) :: ρ : En))[0]? = some (.ow (.list ys))) = True := by
  simp
theorem bindT_n {p : Pos} {i : Nat} {x : Str} {d : D} {k : En → Prop} : bindT (.nm p i x) d ρ k = k (ρ.set i (.sh d)) := rfl
theorem bindT_2 {q : Nat} {p : Pos} {a b : Tg} {x y : D} {k : En → Prop} : bindT (.tup2 q p a b) (.tuple [x, y]) ρ k = bindT a x ρ fun ρ' => bindT b y ρ' k := by
  apply propext
  constructor
  · rintro ⟨x', y', e, h⟩
    cases e
    exact h
  · intro h
    exact ⟨x, y, rfl, h⟩
theorem callF_1 {fd : Fd} {ds : List D} {Q : Sl → Om → Prop} {E : Xn → Om → Prop} (h : ds.length = fd.np) : callF L fd ds ω Q E = exs L fd.body (startE fd ds) ω (fl0 Q E) := by
  unfold callF
  rw [eq_true h, true_and]
  rfl
theorem ev_usub {p} {a} {Q : KQ} {E : KX} : ev L (.usub p a) ρ ω Q E = (ev L a ρ ω (fun x ρ ω => got (toI x.d) fun i => Q (.sh (.int (-i))) ρ ω) E) := by
  simp only [ev, br]
theorem ev_subv {p} {px} {i} {x} {e} {Q : KQ} {E : KX} : ev L (.subv p px i x e) ρ ω Q E = ((pkV ρ i fun _ => True) ∧ ev L e ρ ω (fun y ρ ω => pkV ρ i fun d => ∃ ds, d = .list ds ∧ got (toI y.d) fun j => got (atI ds j) fun z => Q (.sh z) ρ ω) E) := by
  simp only [ev, br]
theorem ev_dk {p} {a} {u1} {u2} {key} {Q : KQ} {E : KX} : ev L (.dk p a u1 u2 key) ρ ω Q E = (ev L a ρ ω (fun x ρ ω => dctC ω x.d fun _ fs => ∃ d, fs.lookup key = some (.sh d) ∧ Q (.sh d) ρ ω) E) := by
  simp only [ev, br]
theorem ev_dkEmp {neg} {u1} {u2} {u3} {a} {u4} {u5} {key} {Q : KQ} {E : KX} : ev L (.dkEmp neg u1 u2 u3 a u4 u5 key) ρ ω Q E = (ev L a ρ ω (fun x ρ ω => dctC ω x.d fun _ fs => ∃ g ds, fs.lookup key = some (.ow g (.list ds)) ∧ Q (.sh (.bool (ds.isEmpty != neg))) ρ ω) E) := by
  simp only [ev, br]
theorem ev_dkPop0 {u1} {u2} {u3} {a} {u4} {u5} {key} {u6} {u7} {Q : KQ} {E : KX} : ev L (.dkPop0 u1 u2 u3 a u4 u5 key u6 u7) ρ ω Q E = (ev L a ρ ω (fun x ρ ω => dctC ω x.d fun b fs => ∃ g d ds, fs.lookup key = some (.ow g (.list (d :: ds))) ∧ Q (.sh d) ρ (updO ω b (.dct (setF fs key (.ow g (.list ds)))))) E) := by
  simp only [ev, br]
theorem ev_dNew {u1} {k0} {u2} {i} {u3} {ks} {es} {Q : KQ} {E : KX} : ev L (.dNew u1 k0 u2 i u3 ks es) ρ ω Q E = ((∃ d, ρ[i]? = some (.ow d)) ∧ evs L es ρ ω (fun ds ρ ω => ∃ d, ρ[i]? = some (.ow d) ∧ ∀ a g, ω a = none → Q (.sh (RF a)) (ρ.set i .no) (updO ω a (.dct ((k0.1, .ow g d) :: shF ks ds)))) E) := by
  simp only [ev, br]
theorem ev_lNew {u1} {Q : KQ} {E : KX} : ev L (.lNew u1) ρ ω Q E = (∀ a, ω a = none → Q (.sh (RF a)) ρ (updO ω a (.lst []))) := by
  simp only [ev, br]
theorem ev_cTup {u1} {u2} {a} {Q : KQ} {E : KX} : ev L (.cTup u1 u2 a) ρ ω Q E = (ev L a ρ ω (fun x ρ ω => lstC ω x.d fun _ ds => Q (.sh (.tuple ds)) ρ ω) E) := by
  simp only [ev, br]
theorem ev_word {p pn x sc lp bp bpn bx f es} {Q : KQ} {E : KX} : ev L (.word p pn x sc lp bp bpn bx f es) ρ ω Q E = (evs L es ρ ω (fun ds ρ ω => L.cl f ds ω (fun x ω => Q (.sh x.d) ρ ω) (fun x ω => got (wordD x) fun d => Q (.sh d) ρ ω)) fun _ _ => False) := by
  simp only [ev]
theorem ex_dkSet {u1 u2 a u3 u4 key e} {F : Fl} : ex L (.dkSet u1 u2 a u3 u4 key e) ρ ω F = (ev L e ρ ω (fun y ρ ω => ev L a ρ ω (fun x ρ ω => dctC ω x.d fun b fs => ((∃ d, fs.lookup key = some (.sh d)) ∧ fs.length ≤ 1000) ∧ F.nx ρ (updO ω b (.dct (setA fs key (.sh y.d))))) F.ex) F.ex) := by
  simp only [ex, br]
theorem ex_cApp {u1 u2 u3 a e} {F : Fl} : ex L (.cApp u1 u2 u3 a e) ρ ω F = (ev L a ρ ω (fun x ρ ω => (∃ b ds, x.d = RF b ∧ ω b = some (.lst ds)) ∧ ev L e ρ ω (fun y ρ ω => lstC ω x.d fun b ds => ds.length < sizeLine ∧ F.nx ρ (updO ω b (.lst (ds ++ [y.d])))) F.ex) F.ex) := by
  simp only [ex, br]
theorem Iev_var {u1} {i} {u2} {Q : KQ} {E : KX} (h : (rdV ρ i fun d ρ' => Q (.sh d) ρ' ω)) : ev L (.var u1 i u2) ρ ω Q E := Eq.mpr ev_var h
theorem Iev_non {u1} {u2} {Q : KQ} {E : KX} (h : (Q (.sh .none) ρ ω)) : ev L (.non u1 u2) ρ ω Q E := Eq.mpr ev_non h
theorem Iev_bl {b} {u1} {u2} {Q : KQ} {E : KX} (h : (Q (.sh (.bool b)) ρ ω)) : ev L (.bl b u1 u2) ρ ω Q E := Eq.mpr ev_bl h
theorem Iev_int {i} {u1} {u2} {Q : KQ} {E : KX} (h : (Q (.sh (.int i)) ρ ω)) : ev L (.int i u1 u2) ρ ω Q E := Eq.mpr ev_int h
theorem Iev_str {s} {u1} {u2} {Q : KQ} {E : KX} (h : (Q (.sh (.str s)) ρ ω)) : ev L (.str s u1 u2) ρ ω Q E := Eq.mpr ev_str h
theorem Iev_gc {u1} {u2} {g} {Q : KQ} {E : KX} (h : (got (L.gv g) fun d => Q (.sh d) ρ ω)) : ev L (.gc u1 u2 g) ρ ω Q E := Eq.mpr ev_gc h
theorem Iev_bin {op} {u1} {a} {b} {Q : KQ} {E : KX} (h : (ev L a ρ ω (fun x ρ ω => ev L b ρ ω (fun y ρ ω => got (binD op x.d y.d) fun d => Q (.sh d) ρ ω) E) E)) : ev L (.bin op u1 a b) ρ ω Q E := Eq.mpr ev_bin h
theorem Iev_cmp {op} {u1} {a} {b} {Q : KQ} {E : KX} (h : (ev L a ρ ω (fun x ρ ω => ev L b ρ ω (fun y ρ ω => got (cmpD op x.d y.d) fun d => Q (.sh d) ρ ω) E) E)) : ev L (.cmp op u1 a b) ρ ω Q E := Eq.mpr ev_cmp h
theorem Iev_cmp2 {o1} {o2} {u1} {a} {b} {c} {Q : KQ} {E : KX} (h : (ev L a ρ ω (fun x ρ ω => ev L b ρ ω (fun y ρ ω => got ((cmpD o1 x.d y.d).bind toB) fun k => br k (ev L c ρ ω (fun z ρ ω => got (cmpD o2 y.d z.d) fun d => Q (.sh d) ρ ω) E) (Q (.sh (.bool false)) ρ ω)) E) E)) : ev L (.cmp2 o1 o2 u1 a b c) ρ ω Q E := Eq.mpr ev_cmp2 h
theorem Iev_isN {neg} {u1} {u2} {u3} {a} {Q : KQ} {E : KX} (h : (ev L a ρ ω (fun x ρ ω => got (noneD x.d) fun b => Q (.sh (.bool (b != neg))) ρ ω) E)) : ev L (.isN neg u1 u2 u3 a) ρ ω Q E := Eq.mpr ev_isN h
theorem Iev_emp {neg} {u1} {u2} {u3} {i} {u4} {Q : KQ} {E : KX} (h : (pkV ρ i fun d => ∃ xs, d = .list xs ∧ Q (.sh (.bool (xs.isEmpty != neg))) ρ ω)) : ev L (.emp neg u1 u2 u3 i u4) ρ ω Q E := Eq.mpr ev_emp h
theorem Iev_and {u1} {es} {Q : KQ} {E : KX} (h : (evAnd L es ρ ω Q E)) : ev L (.and u1 es) ρ ω Q E := Eq.mpr ev_and h
theorem Iev_or {u1} {es} {Q : KQ} {E : KX} (h : (evOr L es ρ ω Q E)) : ev L (.or u1 es) ρ ω Q E := Eq.mpr ev_or h
theorem Iev_not {u1} {a} {Q : KQ} {E : KX} (h : (ev L a ρ ω (fun x ρ ω => got (toB x.d) fun b => Q (.sh (.bool (!b))) ρ ω) E)) : ev L (.not u1 a) ρ ω Q E := Eq.mpr ev_not h
theorem Iev_ife {u1} {c} {a} {b} {Q : KQ} {E : KX} (h : (ev L c ρ ω (fun x ρ ω => got (toB x.d) fun k => br k (ev L a ρ ω Q E) (ev L b ρ ω Q E)) E)) : ev L (.ife u1 c a b) ρ ω Q E := Eq.mpr ev_ife h
theorem Iev_call {u1} {u2} {u3} {f} {es} {Q : KQ} {E : KX} (h : (evs L es ρ ω (fun ds ρ ω => L.cl f ds ω (fun x ω => Q x ρ ω) E) E)) : ev L (.call u1 u2 u3 f es) ρ ω Q E := Eq.mpr ev_call h
theorem Iev_callK {u1} {u2} {u3} {f} {u4} {u5} {e} {Q : KQ} {E : KX} (h : (ev L e ρ ω (fun x ρ ω => L.cl f [x.d] ω (fun x ω => Q x ρ ω) E) E)) : ev L (.callK u1 u2 u3 f u4 u5 e) ρ ω Q E := Eq.mpr ev_callK h
theorem Iev_bi {u1} {u2} {b} {es} {Q : KQ} {E : KX} (h : (evs L es ρ ω (fun ds ρ ω => got (bifD b ds) fun r => Q (if r.1 = true then .ow r.2 else .sh r.2) ρ ω) E)) : ev L (.bi u1 u2 b es) ρ ω Q E := Eq.mpr ev_bi h
theorem Iev_isi {u1} {u2} {a} {u3} {T} {Q : KQ} {E : KX} (h : (ev L a ρ ω (fun x ρ ω => got (isD T x.d) fun b => Q (.sh (.bool b)) ρ ω) E)) : ev L (.isi u1 u2 a u3 T) ρ ω Q E := Eq.mpr ev_isi h
theorem Iev_isi2 {u1} {u2} {a} {u3} {u4} {u5} {u6} {T1} {T2} {Q : KQ} {E : KX} (h : (ev L a ρ ω (fun x ρ ω => got (isD T1 x.d) fun b => got (isD T2 x.d) fun c => Q (.sh (.bool (b || c))) ρ ω) E)) : ev L (.isi2 u1 u2 a u3 u4 u5 u6 T1 T2) ρ ω Q E := Eq.mpr ev_isi2 h
theorem Iev_sub {u1} {a} {b} {Q : KQ} {E : KX} (h : (ev L a ρ ω (fun x ρ ω => ev L b ρ ω (fun y ρ ω => got (subD x.d y.d) fun d => Q (.sh d) ρ ω) E) E)) : ev L (.sub u1 a b) ρ ω Q E := Eq.mpr ev_sub h
theorem Iev_slL {u1} {u2} {a} {lo} {Q : KQ} {E : KX} (h : (ev L a ρ ω (fun x ρ ω => ev L lo ρ ω (fun y ρ ω => got (toI y.d) fun i => got (slD x.d (some i) none) fun d => Q (.sh d) ρ ω) E) E)) : ev L (.slL u1 u2 a lo) ρ ω Q E := Eq.mpr ev_slL h
theorem Iev_slH {u1} {u2} {a} {hi} {Q : KQ} {E : KX} (h : (ev L a ρ ω (fun x ρ ω => ev L hi ρ ω (fun y ρ ω => got (toI y.d) fun i => got (slD x.d none (some i)) fun d => Q (.sh d) ρ ω) E) E)) : ev L (.slH u1 u2 a hi) ρ ω Q E := Eq.mpr ev_slH h
theorem Iev_slB {u1} {u2} {a} {lo} {hi} {Q : KQ} {E : KX} (h : (ev L a ρ ω (fun x ρ ω => ev L lo ρ ω (fun y ρ ω => got (toI y.d) fun i => ev L hi ρ ω (fun z ρ ω => got (toI z.d) fun j => got (slD x.d (some i) (some j)) fun d => Q (.sh d) ρ ω) E) E) E)) : ev L (.slB u1 u2 a lo hi) ρ ω Q E := Eq.mpr ev_slB h
theorem Iev_tup {u1} {u2} {es} {Q : KQ} {E : KX} (h : (evs L es ρ ω (fun ds ρ ω => ds.length ≤ sizeLine ∧ Q (.sh (.tuple ds)) ρ ω) E)) : ev L (.tup u1 u2 es) ρ ω Q E := Eq.mpr ev_tup h
theorem Iev_lst {u1} {es} {Q : KQ} {E : KX} (h : (evs L es ρ ω (fun ds ρ ω => ds.length ≤ sizeLine ∧ Q (.ow (.list ds)) ρ ω) E)) : ev L (.lst u1 es) ρ ω Q E := Eq.mpr ev_lst h
theorem Iev_join {u1} {u2} {a} {b} {Q : KQ} {E : KX} (h : (ev L a ρ ω (fun x ρ ω => ev L b ρ ω (fun y ρ ω => got (joinD x.d y.d) fun d => Q (.sh d) ρ ω) E) E)) : ev L (.join u1 u2 a b) ρ ω Q E := Eq.mpr ev_join h
theorem Iev_pop {u1} {u2} {u3} {i} {u4} {Q : KQ} {E : KX} (h : (upV ρ i fun xs k => got xs.getLast? fun d => Q (.sh d) (k xs.dropLast) ω)) : ev L (.pop u1 u2 u3 i u4) ρ ω Q E := Eq.mpr ev_pop h
theorem Iev_reprEq {u1} {u2} {u3} {u4} {u5} {a} {b} {Q : KQ} {E : KX} (h : (ev L a ρ ω (fun x ρ ω => shows x.d = true ∧ ev L b ρ ω (fun y ρ ω => x.d = y.d ∧ Q (.sh (.bool true)) ρ ω) E) E)) : ev L (.reprEq u1 u2 u3 u4 u5 a b) ρ ω Q E := Eq.mpr ev_reprEq h
theorem Iev_lc {p : Pos} {sc : Scope} {own : List (Str × Nat)} {tg : Tg} {it : It'} {ifs : Exs} {elt : Ex} {Q : KQ} {E : KX} (h : evI L it ρ ω (fun ds ρ0 ω => loopL L own tg ifs elt ds [] ρ0 ω fun acc ρ ω => Q (.ow (.list acc)) (wipeE ρ (own.map (·.2))) ω) E) : ev L (.lc p sc own tg it ifs elt) ρ ω Q E := Eq.mpr ev_lc h
theorem Iev_usub {p} {a} {Q : KQ} {E : KX} (h : ev L a ρ ω (fun x ρ ω => got (toI x.d) fun i => Q (.sh (.int (-i))) ρ ω) E) : ev L (.usub p a) ρ ω Q E := Eq.mpr ev_usub h
theorem Iev_subv {p} {px} {i} {x} {e} {Q : KQ} {E : KX} (h : (pkV ρ i fun _ => True) ∧ ev L e ρ ω (fun y ρ ω => pkV ρ i fun d => ∃ ds, d = .list ds ∧ got (toI y.d) fun j => got (atI ds j) fun z => Q (.sh z) ρ ω) E) : ev L (.subv p px i x e) ρ ω Q E := Eq.mpr ev_subv h
theorem Iev_dk {p} {a} {u1} {u2} {key} {Q : KQ} {E : KX} (h : ev L a ρ ω (fun x ρ ω => dctC ω x.d fun _ fs => ∃ d, fs.lookup key = some (.sh d) ∧ Q (.sh d) ρ ω) E) : ev L (.dk p a u1 u2 key) ρ ω Q E := Eq.mpr ev_dk h
theorem Iev_dkEmp {neg} {u1} {u2} {u3} {a} {u4} {u5} {key} {Q : KQ} {E : KX} (h : ev L a ρ ω (fun x ρ ω => dctC ω x.d fun _ fs => ∃ g ds, fs.lookup key = some (.ow g (.list ds)) ∧ Q (.sh (.bool (ds.isEmpty != neg))) ρ ω) E) : ev L (.dkEmp neg u1 u2 u3 a u4 u5 key) ρ ω Q E := Eq.mpr ev_dkEmp h
theorem Iev_dkPop0 {u1} {u2} {u3} {a} {u4} {u5} {key} {u6} {u7} {Q : KQ} {E : KX} (h : ev L a ρ ω (fun x ρ ω => dctC ω x.d fun b fs => ∃ g d ds, fs.lookup key = some (.ow g (.list (d :: ds))) ∧ Q (.sh d) ρ (updO ω b (.dct (setF fs key (.ow g (.list ds)))))) E) : ev L (.dkPop0 u1 u2 u3 a u4 u5 key u6 u7) ρ ω Q E := Eq.mpr ev_dkPop0 h
theorem Iev_dNew {u1} {k0} {u2} {i} {u3} {ks} {es} {Q : KQ} {E : KX} (h : (∃ d, ρ[i]? = some (.ow d)) ∧ evs L es ρ ω (fun ds ρ ω => ∃ d, ρ[i]? = some (.ow d) ∧ ∀ a g, ω a = none → Q (.sh (RF a)) (ρ.set i .no) (updO ω a (.dct ((k0.1, .ow g d) :: shF ks ds)))) E) : ev L (.dNew u1 k0 u2 i u3 ks es) ρ ω Q E := Eq.mpr ev_dNew h
theorem Iev_lNew {u1} {Q : KQ} {E : KX} (h : ∀ a, ω a = none → Q (.sh (RF a)) ρ (updO ω a (.lst []))) : ev L (.lNew u1) ρ ω Q E := Eq.mpr ev_lNew h
theorem Iev_cTup {u1} {u2} {a} {Q : KQ} {E : KX} (h : ev L a ρ ω (fun x ρ ω => lstC ω x.d fun _ ds => Q (.sh (.tuple ds)) ρ ω) E) : ev L (.cTup u1 u2 a) ρ ω Q E := Eq.mpr ev_cTup h
theorem Iev_word {p pn x sc lp bp bpn bx f es} {Q : KQ} {E : KX} (h : evs L es ρ ω (fun ds ρ ω => L.cl f ds ω (fun x ω => Q (.sh x.d) ρ ω) (fun x ω => got (wordD x) fun d => Q (.sh d) ρ ω)) fun _ _ => False) : ev L (.word p pn x sc lp bp bpn bx f es) ρ ω Q E := Eq.mpr ev_word h
theorem Iex_dkSet {u1 u2 a u3 u4 key e} {F : Fl} (h : ev L e ρ ω (fun y ρ ω => ev L a ρ ω (fun x ρ ω => dctC ω x.d fun b fs => ((∃ d, fs.lookup key = some (.sh d)) ∧ fs.length ≤ 1000) ∧ F.nx ρ (updO ω b (.dct (setA fs key (.sh y.d))))) F.ex) F.ex) : ex L (.dkSet u1 u2 a u3 u4 key e) ρ ω F := Eq.mpr ex_dkSet h
theorem Iex_cApp {u1 u2 u3 a e} {F : Fl} (h : ev L a ρ ω (fun x ρ ω => (∃ b ds, x.d = RF b ∧ ω b = some (.lst ds)) ∧ ev L e ρ ω (fun y ρ ω => lstC ω x.d fun b ds => ds.length < sizeLine ∧ F.nx ρ (updO ω b (.lst (ds ++ [y.d])))) F.ex) F.ex) : ex L (.cApp u1 u2 u3 a e) ρ ω F := Eq.mpr ex_cApp h
theorem Iex_asg {u1} {u2} {i} {u3} {e} {F : Fl} (h : (ev L e ρ ω (fun x ρ ω => F.nx (ρ.set i x) ω) F.ex)) : ex L (.asg u1 u2 i u3 e) ρ ω F := Eq.mpr ex_asg h
theorem Iex_par {u1} {u2} {u3} {u4} {u5} {u6} {u7} {i} {j} {u8} {u9} {a} {b} {F : Fl} (h : (ev L a ρ ω (fun x ρ ω => ev L b ρ ω (fun y ρ ω => F.nx ((ρ.set i x).set j y) ω) F.ex) F.ex)) : ex L (.par u1 u2 u3 u4 u5 u6 u7 i j u8 u9 a b) ρ ω F := Eq.mpr ex_par h
theorem Iex_aug {u1} {u2} {i} {u3} {op} {e} {F : Fl} (h : (look ρ i fun z => ∃ n m, z = .sh (.int n) ∧ ev L e ρ ω (fun y ρ ω => op = .Add ∧ y.d = .int m ∧ F.nx (ρ.set i (.sh (.int (n + m)))) ω) F.ex)) : ex L (.aug u1 u2 i u3 op e) ρ ω F := Eq.mpr ex_aug h
theorem Iex_ret {u1} {e} {F : Fl} (h : (ev L e ρ ω (fun x _ ω => F.rt x ω) F.ex)) : ex L (.ret u1 e) ρ ω F := Eq.mpr ex_ret h
theorem Iex_exp {u1} {e} {F : Fl} (h : (ev L e ρ ω (fun _ ρ ω => F.nx ρ ω) F.ex)) : ex L (.exp u1 e) ρ ω F := Eq.mpr ex_exp h
theorem Iex_app {u1} {u2} {u3} {u4} {i} {u5} {e} {F : Fl} (h : ((∃ xs, ρ[i]? = some (.ow (.list xs))) ∧ ev L e ρ ω (fun x ρ ω => upV ρ i fun xs k => xs.length < sizeLine ∧ F.nx (k (xs ++ [x.d])) ω) F.ex)) : ex L (.app u1 u2 u3 u4 i u5 e) ρ ω F := Eq.mpr ex_app h
theorem Iex_ext {u1} {u2} {u3} {u4} {i} {u5} {e} {F : Fl} (h : ((∃ xs, ρ[i]? = some (.ow (.list xs))) ∧ ev L e ρ ω (fun x ρ ω => upV ρ i fun xs k => ∃ ds, (x.d = .list ds ∨ x.d = .tuple ds) ∧ xs.length + ds.length ≤ sizeLine ∧ F.nx (k (xs ++ ds)) ω) F.ex)) : ex L (.ext u1 u2 u3 u4 i u5 e) ρ ω F := Eq.mpr ex_ext h
theorem Iex_raise {u1} {u2} {u3} {c} {u4} {es} {F : Fl} (h : (evs L es ρ ω (fun ds ρ ω => L.cl c ds ω (fun _ _ => False) F.ex) F.ex)) : ex L (.raise u1 u2 u3 c u4 es) ρ ω F := Eq.mpr ex_raise h
theorem Iex_ife {u1} {c} {a} {b} {F : Fl} (h : (ev L c ρ ω (fun x ρ ω => got (toB x.d) fun k => br k (exs L a ρ ω F) (exs L b ρ ω F)) F.ex)) : ex L (.ife u1 c a b) ρ ω F := Eq.mpr ex_ife h
theorem Iex_whl {p : Pos} {c : Ex} {a : List St'} {F : Fl} (h : ∃ n, loopW L c a n ρ ω F) : ex L (.whl p c a) ρ ω F := Eq.mpr ex_whl h
theorem Iex_fr {p : Pos} {tg : Tg} {it : It'} {a : List St'} {F : Fl} (h : evI L it ρ ω (fun ds ρ ω => loopF L tg a ds ρ ω F) F.ex) : ex L (.fr p tg it a) ρ ω F := Eq.mpr ex_fr h
theorem Iex_brk {u1} {F : Fl} (h : (F.bk ρ ω)) : ex L (.brk u1) ρ ω F := Eq.mpr ex_brk h
theorem Iex_cont {u1} {F : Fl} (h : (F.ct ρ ω)) : ex L (.cont u1) ρ ω F := Eq.mpr ex_cont h
theorem Ievs_nil {Q : List D → En → Om → Prop} {E : KX} (h : Q [] ρ ω) : evs L .nil ρ ω Q E := Eq.mpr evs_nil h
theorem Ievs_cons {a : Ex} {b : Exs} {Q : List D → En → Om → Prop} {E : KX} (h : ev L a ρ ω (fun x ρ ω => evs L b ρ ω (fun ds ρ ω => Q (x.d :: ds) ρ ω) E) E) : evs L (.cons a b) ρ ω Q E := Eq.mpr evs_cons h
theorem IevAnd_1 {a : Ex} {Q : KQ} {E : KX} (h : ev L a ρ ω (fun x ρ ω => got (toB x.d) fun k => Q (.sh (.bool k)) ρ ω) E) : evAnd L (.cons a .nil) ρ ω Q E := Eq.mpr evAnd_1 h
theorem IevAnd_2 {a b : Ex} {c : Exs} {Q : KQ} {E : KX} (h : ev L a ρ ω (fun x ρ ω => got (toB x.d) fun k => br k (evAnd L (.cons b c) ρ ω Q E) (Q (.sh (.bool false)) ρ ω)) E) : evAnd L (.cons a (.cons b c)) ρ ω Q E := Eq.mpr evAnd_2 h
theorem IevOr_1 {a : Ex} {Q : KQ} {E : KX} (h : ev L a ρ ω (fun x ρ ω => got (toB x.d) fun k => Q (.sh (.bool k)) ρ ω) E) : evOr L (.cons a .nil) ρ ω Q E := Eq.mpr evOr_1 h
theorem IevOr_2 {a b : Ex} {c : Exs} {Q : KQ} {E : KX} (h : ev L a ρ ω (fun x ρ ω => got (toB x.d) fun k => br k (Q (.sh (.bool true)) ρ ω) (evOr L (.cons b c) ρ ω Q E)) E) : evOr L (.cons a (.cons b c)) ρ ω Q E := Eq.mpr evOr_2 h
theorem IevIf_0 {Q : Bool → En → Om → Prop} (h : Q true ρ ω) : evIf L .nil ρ ω Q := Eq.mpr evIf_0 h
theorem IevIf_1 {a : Ex} {Q : Bool → En → Om → Prop} (h : ev L a ρ ω (fun x ρ ω => got (toB x.d) fun k => Q k ρ ω) fun _ _ => False) : evIf L (.cons a .nil) ρ ω Q := Eq.mpr evIf_1 h
theorem IevI_val {e : Ex} {Q : List D → En → Om → Prop} {E : KX} (h : ev L e ρ ω (fun x ρ ω => got (itemsD x.d) fun ds => Q ds ρ ω) E) : evI L (.val e) ρ ω Q E := Eq.mpr evI_val h
theorem IevI_rng {p pn : Pos} {e : Ex} {Q : List D → En → Om → Prop} {E : KX} (h : ev L e ρ ω (fun x ρ ω => got (toI x.d) fun j => (-(2 ^ 62) ≤ j ∧ j < 2 ^ 62) ∧ Q ((List.range j.toNat).map fun i => .int (i : Nat)) ρ ω) E) : evI L (.rng p pn e) ρ ω Q E := Eq.mpr evI_rng h
theorem IevI_er {p pn pm pr : Pos} {e : Ex} {Q : List D → En → Om → Prop} {E : KX} (h : ev L e ρ ω (fun x ρ ω => ∃ ds, x.d = .tuple ds ∧ Q (enumD 0 ds.reverse) ρ ω) E) : evI L (.enumRev p pn pm pr e) ρ ω Q E := Eq.mpr evI_er h
theorem Iexs_nil {F : Fl} (h : F.nx ρ ω) : exs L [] ρ ω F := Eq.mpr exs_nil h
theorem Iexs_cons {a : St'} {b : List St'} {F : Fl} (h : ex L a ρ ω (F.sx fun ρ ω => exs L b ρ ω F)) : exs L (a :: b) ρ ω F := Eq.mpr exs_cons h
theorem IbindT_n {p : Pos} {i : Nat} {x : Str} {d : D} {k : En → Prop} (h : k (ρ.set i (.sh d))) : bindT (.nm p i x) d ρ k := Eq.mpr bindT_n h
theorem IbindT_2 {q : Nat} {p : Pos} {a b : Tg} {x y : D} {k : En → Prop} (h : bindT a x ρ fun ρ' => bindT b y ρ' k) : bindT (.tup2 q p a b) (.tuple [x, y]) ρ k := Eq.mpr bindT_2 h
theorem isEv {t : Ex} {Q : KQ} {E : KX} (h : ev L t ρ ω Q E) : ev L t ρ ω Q E := h
theorem isExs {t : List St'} {F : Fl} (h : exs L t ρ ω F) : exs L t ρ ω F := h
theorem isEx {t : St'} {F : Fl} (h : ex L t ρ ω F) : ex L t ρ ω F := h
theorem isGot {α : Type} {o : Option α} {k : α → Prop} (h : got o k) : got o k := h
theorem got_mk {α : Type} {o : Option α} {k : α → Prop} {a : α} (h : o = some a) (q : k a) : got o k := ⟨a, h, q⟩
theorem br_mt {k : Bool} {a b : Prop} (h : k = true) (q : a) : br k a b := by
  rw [h, br_t]
  exact q
theorem br_mf {k : Bool} {a b : Prop} (h : k = false) (q : b) : br k a b := by
  rw [h, br_f]
  exact q
theorem rdV_ms {i : Nat} {d : D} {k : D → En → Prop} (h : ρ[i]? = some (.sh d)) (q : k d ρ) : rdV ρ i k := by
  unfold rdV
  rw [h]
  exact q
theorem rdV_mo {i : Nat} {d : D} {k : D → En → Prop} (h : ρ[i]? = some (.ow d)) (q : k d (ρ.set i (.sh d))) : rdV ρ i k := by
  unfold rdV
  rw [h]
  exact q
theorem pkV_ms {i : Nat} {d : D} {k : D → Prop} (h : ρ[i]? = some (.sh d)) (q : k d) : pkV ρ i k := by
  unfold pkV
  rw [h]
  exact q
theorem pkV_mo {i : Nat} {d : D} {k : D → Prop} (h : ρ[i]? = some (.ow d)) (q : k d) : pkV ρ i k := by
  unfold pkV
  rw [h]
  exact q
theorem upV_m {i : Nat} {xs : List D} {k : List D → (List D → En) → Prop} (h : ρ[i]? = some (.ow (.list xs))) (q : k xs fun ys => ρ.set i (.ow (.list ys))) : upV ρ i k := upV_iff.mpr ⟨xs, h, q⟩
theorem look_m {i : Nat} {x : Sl} {k : Sl → Prop} (h : ρ[i]? = some x) (q : k x) : look ρ i k := ⟨x, h, q⟩
theorem ow_m {i : Nat} {xs : List D} {A : Prop} (h : ρ[i]? = some (.ow (.list xs))) (q : A) : (∃ xs, ρ[i]? = some (.ow (.list xs))) ∧ A := ⟨⟨xs, h⟩, q⟩
theorem lst_m {d : D} {xs : List D} {k : List D → Prop} (h : d = .list xs) (q : k xs) : ∃ xs, d = .list xs ∧ k xs := ⟨xs, h, q⟩
theorem tup_m {d : D} {xs : List D} {k : List D → Prop} (h : d = .tuple xs) (q : k xs) : ∃ xs, d = .tuple xs ∧ k xs := ⟨xs, h, q⟩
theorem pkT_m {i : Nat} {A : Prop} {x : Sl} (h : ρ[i]? = some x) (n : x ≠ .no) (q : A) : (pkV ρ i fun _ => True) ∧ A := ⟨by
  unfold pkV
  rw [h]
  cases x with
  | no => exact absurd rfl n
  | sh d => trivial
  | ow d => trivial, q⟩
theorem dct_m {x : D} {a : Addr} {fs : List (Str × Fv)} {k : Addr → List (Str × Fv) → Prop} (e : x = RF a) (h : ω a = some (.dct fs)) (q : k a fs) : dctC ω x k := ⟨a, fs, e, h, q⟩
theorem lstC_m {x : D} {a : Addr} {ds : List D} {k : Addr → List D → Prop} (e : x = RF a) (h : ω a = some (.lst ds)) (q : k a ds) : lstC ω x k := ⟨a, ds, e, h, q⟩
theorem own_m {i : Nat} {d : D} {A : Prop} (h : ρ[i]? = some (.ow d)) (q : A) : (∃ d, ρ[i]? = some (.ow d)) ∧ A := ⟨⟨d, h⟩, q⟩
theorem ownd_m {i : Nat} {d : D} {k : D → Prop} (h : ρ[i]? = some (.ow d)) (q : k d) : ∃ d, ρ[i]? = some (.ow d) ∧ k d := ⟨d, h, q⟩
theorem bool_lit {A : Prop} (q : A) : True ∧ A := ⟨trivial, q⟩
end
theorem isD_str_none : isD .str .none = some false := rfl
theorem isD_str_bool {b : Bool} {i j : Int} {s z : Str} {l m : List D} : isD .str (.bool b) = some false := rfl
theorem isD_str_int {b : Bool} {i j : Int} {s z : Str} {l m : List D} : isD .str (.int i) = some false := rfl
theorem isD_str_str {b : Bool} {i j : Int} {s z : Str} {l m : List D} : isD .str (.str s) = some true := rfl
theorem isD_str_list {b : Bool} {i j : Int} {s z : Str} {l m : List D} : isD .str (.list l) = some false := rfl
theorem isD_str_tuple {b : Bool} {i j : Int} {s z : Str} {l m : List D} : isD .str (.tuple l) = some false := rfl
theorem isD_int_none : isD .int .none = some false := rfl
theorem isD_int_bool {b : Bool} {i j : Int} {s z : Str} {l m : List D} : isD .int (.bool b) = some true := rfl
theorem isD_int_int {b : Bool} {i j : Int} {s z : Str} {l m : List D} : isD .int (.int i) = some true := rfl
theorem isD_int_str {b : Bool} {i j : Int} {s z : Str} {l m : List D} : isD .int (.str s) = some false := rfl
theorem isD_int_list {b : Bool} {i j : Int} {s z : Str} {l m : List D} : isD .int (.list l) = some false := rfl
theorem isD_int_tuple {b : Bool} {i j : Int} {s z : Str} {l m : List D} : isD .int (.tuple l) = some false := rfl
theorem isD_bool_none : isD .bool .none = some false := rfl
theorem isD_bool_bool {b : Bool} {i j : Int} {s z : Str} {l m : List D} : isD .bool (.bool b) = some true := rfl
theorem isD_bool_int {b : Bool} {i j : Int} {s z : Str} {l m : List D} : isD .bool (.int i) = some false := rfl
theorem isD_bool_str {b : Bool} {i j : Int} {s z : Str} {l m : List D} : isD .bool (.str s) = some false := rfl
theorem isD_bool_list {b : Bool} {i j : Int} {s z : Str} {l m : List D} : isD .bool (.list l) = some false := rfl
theorem isD_bool_tuple {b : Bool} {i j : Int} {s z : Str} {l m : List D} : isD .bool (.tuple l) = some false := rfl
theorem isD_list_none : isD .list .none = some false := rfl
theorem isD_list_bool {b : Bool} {i j : Int} {s z : Str} {l m : List D} : isD .list (.bool b) = some false := rfl
theorem isD_list_int {b : Bool} {i j : Int} {s z : Str} {l m : List D} : isD .list (.int i) = some false := rfl
theorem isD_list_str {b : Bool} {i j : Int} {s z : Str} {l m : List D} : isD .list (.str s) = some false := rfl
theorem isD_list_list {b : Bool} {i j : Int} {s z : Str} {l m : List D} : isD .list (.list l) = some true := rfl
theorem isD_list_tuple {b : Bool} {i j : Int} {s z : Str} {l m : List D} : isD .list (.tuple l) = some false := rfl
theorem isD_tuple_none : isD .tuple .none = some false := rfl
theorem isD_tuple_bool {b : Bool} {i j : Int} {s z : Str} {l m : List D} : isD .tuple (.bool b) = some false := rfl
theorem isD_tuple_int {b : Bool} {i j : Int} {s z : Str} {l m : List D} : isD .tuple (.int i) = some false := rfl
theorem isD_tuple_str {b : Bool} {i j : Int} {s z : Str} {l m : List D} : isD .tuple (.str s) = some false := rfl
theorem isD_tuple_list {b : Bool} {i j : Int} {s z : Str} {l m : List D} : isD .tuple (.list l) = some false := rfl
theorem isD_tuple_tuple {b : Bool} {i j : Int} {s z : Str} {l m : List D} : isD .tuple (.tuple l) = some true := rfl
theorem isD_dict_none : isD .dict .none = some false := rfl
theorem isD_dict_bool {b : Bool} {i j : Int} {s z : Str} {l m : List D} : isD .dict (.bool b) = some false := rfl
theorem isD_dict_int {b : Bool} {i j : Int} {s z : Str} {l m : List D} : isD .dict (.int i) = some false := rfl
theorem isD_dict_str {b : Bool} {i j : Int} {s z : Str} {l m : List D} : isD .dict (.str s) = some false := rfl
theorem isD_dict_list {b : Bool} {i j : Int} {s z : Str} {l m : List D} : isD .dict (.list l) = some false := rfl
theorem isD_dict_tuple {b : Bool} {i j : Int} {s z : Str} {l m : List D} : isD .dict (.tuple l) = some false := rfl
theorem noneD_none : noneD .none = some true := rfl
theorem noneD_bool {b : Bool} {i j : Int} {s z : Str} {l m : List D} : noneD (.bool b) = some false := rfl
theorem noneD_int {b : Bool} {i j : Int} {s z : Str} {l m : List D} : noneD (.int i) = some false := rfl
theorem noneD_str {b : Bool} {i j : Int} {s z : Str} {l m : List D} : noneD (.str s) = some false := rfl
theorem noneD_list {b : Bool} {i j : Int} {s z : Str} {l m : List D} : noneD (.list l) = some false := rfl
theorem noneD_tuple {b : Bool} {i j : Int} {s z : Str} {l m : List D} : noneD (.tuple l) = some false := rfl
theorem toB_b {b : Bool} {i j : Int} {s z : Str} {l m : List D} : toB (.bool b) = some b := rfl
theorem toI_i {b : Bool} {i j : Int} {s z : Str} {l m : List D} : toI (.int i) = some i := rfl
theorem Sl_sh {b : Bool} {i j : Int} {s z : Str} {l m : List D} : (Sl.sh (.int i)).d = .int i := rfl
theorem Sl_s {d : D} : (Sl.sh d).d = d := rfl
theorem Sl_o {d : D} : (Sl.ow d).d = d := rfl
theorem cmp_Lt {b : Bool} {i j : Int} {s z : Str} {l m : List D} : cmpD .Lt (.int i) (.int j) = some (.bool (decide (i < j))) := rfl
theorem cmp_LtE {b : Bool} {i j : Int} {s z : Str} {l m : List D} : cmpD .LtE (.int i) (.int j) = some (.bool (decide (i ≤ j))) := rfl
theorem cmp_Gt {b : Bool} {i j : Int} {s z : Str} {l m : List D} : cmpD .Gt (.int i) (.int j) = some (.bool (decide (j < i))) := rfl
theorem cmp_GtE {b : Bool} {i j : Int} {s z : Str} {l m : List D} : cmpD .GtE (.int i) (.int j) = some (.bool (decide (j ≤ i))) := rfl
theorem cmp_Eq {x y : D} : cmpD .Eq x y = (eqD x y).map .bool := by cases x <;> cases y <;> rfl
theorem cmp_Ne {x y : D} : cmpD .NotEq x y = (eqD x y).map fun b => .bool (!b) := by cases x <;> cases y <;> rfl
theorem cmp_In {x y : D} : cmpD .In x y = (inD x y).map .bool := by cases x <;> cases y <;> rfl
theorem cmp_Ni {x y : D} : cmpD .NotIn x y = (inD x y).map fun b => .bool (!b) := by cases x <;> cases y <;> rfl
theorem inD_sign (c : Nat) (z : Str) : inD (.str ⟨#[c]⟩) (.str z) = some (decide (c ∈ z.cps.toList)) := rfl
theorem len_l {b : Bool} {i j : Int} {s z : Str} {l m : List D} : lenD (.list l) = some l.length := rfl
theorem len_t {b : Bool} {i j : Int} {s z : Str} {l m : List D} : lenD (.tuple l) = some l.length := rfl
theorem it_l {b : Bool} {i j : Int} {s z : Str} {l m : List D} : itemsD (.list l) = some l := rfl
theorem it_t {b : Bool} {i j : Int} {s z : Str} {l m : List D} : itemsD (.tuple l) = some l := rfl
theorem it_s {b : Bool} {i j : Int} {s z : Str} {l m : List D} : itemsD (.str s) = some (s.cps.toList.map fun c => .str ⟨#[c]⟩) := rfl
theorem bin_ai {b : Bool} {i j : Int} {s z : Str} {l m : List D} : binD .Add (.int i) (.int j) = some (.int (i + j)) := rfl
theorem bin_si {b : Bool} {i j : Int} {s z : Str} {l m : List D} : binD .Sub (.int i) (.int j) = some (.int (i - j)) := rfl
theorem bif_abs {b : Bool} {i j : Int} {s z : Str} {l m : List D} : bifD .abs [.int i] = some (false, .int (if i < 0 then -i else i)) := rfl
theorem bif_len {x : D} : bifD .len [x] = (lenD x).map fun (n : Nat) => (false, PyData.int (Int.ofNat n)) := rfl
theorem bif_all {b : Bool} {i j : Int} {s z : Str} {l m : List D} : bifD .all [.list l] = (toBs l).map fun bs => (false, .bool (bs.all id)) := rfl
theorem bif_ii {b : Bool} {i j : Int} {s z : Str} {l m : List D} : bifD .int [.int i] = some (false, .int i) := rfl
theorem bif_stri {b : Bool} {i j : Int} {s z : Str} {l m : List D} : bifD .str [.str s] = some (false, .str s) := rfl
theorem bif_min {b : Bool} {i j : Int} {s z : Str} {l m : List D} : bifD .min [.int i, .int j] = some (false, .int (if j < i then j else i)) := rfl
theorem bif_tl {b : Bool} {i j : Int} {s z : Str} {l m : List D} : bifD .tuple [.list l] = some (false, .tuple l) := rfl
theorem bif_tt {b : Bool} {i j : Int} {s z : Str} {l m : List D} : bifD .tuple [.tuple l] = some (false, .tuple l) := rfl
theorem bif_ll {b : Bool} {i j : Int} {s z : Str} {l m : List D} : bifD .list [.list l] = some (true, .list l) := rfl
theorem bif_lt {b : Bool} {i j : Int} {s z : Str} {l m : List D} : bifD .list [.tuple l] = some (true, .list l) := rfl
theorem sub_l {b : Bool} {i j : Int} {s z : Str} {l m : List D} : subD (.list l) (.int i) = atI l i := rfl
theorem sub_t {b : Bool} {i j : Int} {s z : Str} {l m : List D} : subD (.tuple l) (.int i) = atI l i := rfl
end Ev
namespace Sb
open L2 PyProof.Rows PySem.Spec PySem He
def reach (g : Addr → Option Obj) : Nat → List Addr
  | 0 => [mainGlobals, cStatics]
  | n + 1 => growD g (reach g n)
/-- the script is a list: no list is looked at -/
def isL (o : Obj) : Bool := match o.cls with
  | .type c => decide (c = "list")
  | _ => false
def part (n : Nat) (g : Addr → Option Obj) : PySem.W.Frag := frT g ((reach g n).filter fun a => match g a with
  | some o => !isL o
  | none => false)
theorem part_nl {n : Nat} {g : Addr → Option Obj} {a : Addr} {o : Obj} (h : (part n g).lookup a = some o) : isL o = false := by
  have h1 := (List.mem_filter.mp (lookup_mem h)).1
  unfold frG at h1
  obtain ⟨b, hb, e⟩ := List.mem_filterMap.mp h1
  have hf : (match g b with
    | some o => !isL o
    | none => false) = true := (List.mem_filter.mp hb).2
  cases q : g b with
  | none => rw [q] at e; cases e
  | some u =>
    rw [q] at e hf
    have e2 : (b, u) = (a, o) := Option.some.inj e
    cases e2
    simpa using hf
abbrev SeenZ : Type := (He.AlD × List MFn) × Bool
def seenZ (n : Nat) (fa : List Fa) (fn : List DefD) (xs : List XD) (tf : List Defn) (ex : PySem.W.Frag → Bool) (g : Addr → Option Obj) : SeenZ :=
  ((obsD fa fn (part n g), xs.map fun d => mfn (part n g) (ma (part n g) (ga (part n g) d.x) "__init__")), ex (part n g) && tabsB g tf (part n g))
def dueZ (fn : List DefD) (xs : List XD) : SeenZ := ((valD fn, xs.map XD.val), true)
/-- what the end leans on -/
structure SaysZ (fa : List Fa) (fn : List DefD) (xs : List XD) (tf : List Defn) (ex : PySem.W.Frag → Bool) (h : Heap) (K : PySem.W.Frag) : Prop where
  d : SaysD fa fn K
  x : (xs.map fun d => mfn K (ma K (ga K d.x) "__init__")) = xs.map XD.val
  ex : ex K = true
  nl : ∀ a o, K.lookup a = some o → isL o = false
  t : ∀ p ∈ tf, PySem.W.codeHdIn K (cT K p).1 (cT K p).2 = true ∧ K.lookup (cT K p).2 = none ∧ h.get? (cT K p).2 = some { cls := .none, data := .fields #[] }
theorem tabs_ok {g : Addr → Option Obj} {tf : List Defn} {as : List Addr} (h : tabsB g tf (frT g as) = true) :
    ∀ p ∈ tf, PySem.W.codeHdIn (frT g as) (cT (frT g as) p).1 (cT (frT g as) p).2 = true ∧ (frT g as).lookup (cT (frT g as) p).2 = none ∧ g (cT (frT g as) p).2 = some { cls := .none, data := .fields #[] } := by
  intro p hp
  have hq : (PySem.W.codeHdIn (frT g as) (cT (frT g as) p).1 (cT (frT g as) p).2 && (match g (cT (frT g as) p).2 with
    | some o => emptyTab o
    | none => false)) = true := List.all_eq_true.mp h p hp
  generalize (cT (frT g as) p).2 = b at hq ⊢
  rw [Bool.and_eq_true] at hq
  obtain ⟨h1, h2⟩ := hq
  cases q : g b with
  | none => rw [q] at h2; cases h2
  | some o =>
    rw [q] at h2
    exact ⟨h1, frT_none q h2, by rw [emptyTab_eq h2]⟩
def hookZ (n : Nat) (fa : List Fa) (fn : List DefD) (xs : List XD) (tf : List Defn) (ex : PySem.W.Frag → Bool) : PySem.W.Hook where
  α := SeenZ
  obs := fun s => seenZ n fa fn xs tf ex s.heap.get?
  val := fun _ => dueZ fn xs
  says := fun _ h => ∃ K : PySem.W.Frag, K.In h ∧ SaysZ fa fn xs tf ex h K
  of := fun w s e => by
    have e1 := congrArg (fun z : SeenZ => z.1.1) e
    have e2 := congrArg (fun z : SeenZ => z.1.2) e
    have e3 : (ex (part n s.heap.get?) && tabsB s.heap.get? tf (part n s.heap.get?)) = true := congrArg (fun z : SeenZ => z.2) e
    rw [Bool.and_eq_true] at e3
    exact ⟨part n s.heap.get?, frT_in, e1, e2, e3.1, fun _ _ => part_nl, tabs_ok e3.2⟩
  keeps := fun _ _ _ ⟨K, i, c⟩ k => ⟨K, i.keeps k, c.d, c.x, c.ex, c.nl, fun p hp => let ⟨a, b, d⟩ := c.t p hp; ⟨a, b, k _ _ d⟩⟩
theorem seenZ_eq {n : Nat} {fa : List Fa} {fn : List DefD} {xs : List XD} {tf : List Defn} {ex : PySem.W.Frag → Bool} {g : Addr → Option Obj} {s : Shared} (h : ∀ a, g a = s.heap.get? a) : seenZ n fa fn xs tf ex g = (hookZ n fa fn xs tf ex).obs s := by
  rw [show g = s.heap.get? from funext h]
  rfl
def plains : List Str := (["NoName", "Twice", "NoSet", "NoDeed", "NoAmount", "NoNumber"] : List Str) ++ (["NoPast", "NoRegion", "NoLaw", "NoRule", "NoBook", "NoState"] : List Str)
def fields : List (Str × Str) := [("Used", "name"), ("TooMany", "most"), ("NoText", "line"), ("Full", "region")]
def allX : List Str := fields.map (·.1) ++ plains
def wordB (K : PySem.W.Frag) : Bool := allX.all (fun x => xclB K (ga K x) && (dO (PySem.W.exmOne K (.ref (ga K x)) (.ref (ga K "SetError"))) (some true) && allX.all fun y => dO (PySem.W.kitOne K (.ref (ga K x)) (.ref (ga K y))) (some (x == y)))) &&
  fields.all fun p => eqO (PySem.W.findIn K (.ref (ga K p.1)) p.2) (some none)
def ownB (K : PySem.W.Frag) (file : Str) (xs : List XD) : Bool := xs.all fun d => fldB K (ga K d.x) d.x d.fld file
end Sb
namespace Sb
open L2 PyProof.Rows PySem.Calls PySem.Spec PySem He Ev
/-- the script at l, frozen; the code tables, empty -/
def entry (l : Addr) (vs : List Value) (ns : List Int) (tb : List Addr) : Hp := fun c =>
  if c = l then some (.frz { cls := .type "list", data := .seq vs.toArray } (.lst (ns.map V.int)))
  else if c ∈ tb then some (.tbl #[]) else none
/-- how things stand ahead of the call -/
structure Stand (K : PySem.W.Frag) (mg : Str → Option Value) (h : Heap) (l : Addr) (vs : List Value) (ns : List Int) (cs : List (Addr × Addr)) : Prop where
  kin : K.In h
  glo : h.Ns mainGlobals mg
  blt : ∃ mb, h.Ns builtinsNs mb ∧ ∀ x : Str, x ≠ "__name__" → mb x = bootBuiltins x
  lim : h.NoLimit
  tab : ∀ p ∈ cs, h.get? p.2 = some { cls := .none, data := .fields #[] }
  out : ∀ p ∈ cs, K.lookup p.2 = none
  cod : ∀ p ∈ cs, PySem.W.CodeHd h p.1 p.2
  bmn : ∃ (m : Addr) (u : Obj), mg "__builtins__" = some (.ref m) ∧ m ≠ builtinsNs ∧ h.get? m = some u ∧ u.cls = .type "module" ∧ u.dict = some builtinsNs ∧ u.data = .plain
  lst : h.get? l = some { cls := .type "list", data := .seq vs.toArray }
  free : K.lookup l = none
  isI : IntsAre vs ns
  short : ns.length ≤ sizeLine
section
variable {K : PySem.W.Frag} {mg : Str → Option Value} {h : Heap} {l : Addr} {vs : List Value} {ns : List Int} {cs : List (Addr × Addr)} {P : Program} {w : World}
theorem entry_l {tb : List Addr} : entry l vs ns tb l = some (.frz { cls := .type "list", data := .seq vs.toArray } (.lst (ns.map V.int))) := if_pos rfl
theorem entry_t {tb : List Addr} {c : Addr} (hc : c ≠ l) (ht : c ∈ tb) : entry l vs ns tb c = some (.tbl #[]) := (if_neg hc).trans (if_pos ht)
theorem entry_0 {tb : List Addr} {c : Addr} (hc : c ≠ l) (ht : c ∉ tb) : entry l vs ns tb c = none := (if_neg hc).trans (if_neg ht)
theorem Stand.at_t (S : Stand K mg h l vs ns cs) {c : Addr} (hc : c ∈ cs.map (·.2)) : h.get? c = some { cls := .none, data := .fields #[] } ∧ K.lookup c = none := by
  obtain ⟨p, hp, rfl⟩ := List.mem_map.mp hc
  exact ⟨S.tab p hp, S.out p hp⟩
theorem Stand.l_t (S : Stand K mg h l vs ns cs) : l ∉ cs.map (·.2) := fun hc => by
  have z := (S.at_t hc).1.symm.trans S.lst
  cases z
/-- an object of another kind is not followed -/
theorem Stand.none (S : Stand K mg h l vs ns cs) {c : Addr} {u : Obj} (e : h.get? c = some u) (n1 : ∀ z m, u.data ≠ .seq z m) (n2 : u.data ≠ .fields #[]) : entry l vs ns (cs.map (·.2)) c = .none := by
  refine entry_0 (fun z => ?_) fun z => ?_
  · subst z
    rw [S.lst] at e
    cases e
    exact n1 _ _ rfl
  · rw [(S.at_t z).1] at e
    cases e
    exact n2 rfl
theorem Stand.old (S : Stand K mg h l vs ns cs) {c : Addr} {u : Obj} (e : h.get? c = some u) (n1 : ∀ z m, u.data ≠ .seq z m) (n2 : u.data ≠ .fields #[]) : (hidT h (entry l vs ns (cs.map (·.2)))).get? c = some u :=
  hidT_get e (S.none e n1 n2)
theorem Stand.spc (S : Stand K mg h l vs ns cs) {c : Addr} {m : Str → Option Value} (e : h.Ns c m) : (hidT h (entry l vs ns (cs.map (·.2)))).Ns c m := by
  obtain ⟨u, es, ep, e1, e2, r⟩ := e
  exact ⟨u, es, ep, S.old e1 (fun _ _ z => by rw [e2] at z; cases z) (fun z => by rw [e2] at z; cases z), e2, r⟩
theorem Stand.hok (S : Stand K mg h l vs ns cs) : HOk P w (entry l vs ns (cs.map (·.2))) h := by
  intro c u e
  by_cases hc : c = l
  · subst hc
    rw [entry_l] at e
    cases e
    exact ⟨S.lst, by rw [List.length_map]; exact S.short, vs, _, vals_ints S.isI, S.lst⟩
  · by_cases ht : c ∈ cs.map (·.2)
    · rw [entry_t hc ht] at e
      cases e
      exact (S.at_t ht).1
    · rw [entry_0 hc ht] at e
      cases e
theorem Stand.base (S : Stand K mg h l vs ns cs) : K.In (hidT h (entry l vs ns (cs.map (·.2)))) := by
  intro c u e
  refine hidT_get (S.kin c u e) (entry_0 (fun z => ?_) fun z => ?_)
  · rw [z, S.free] at e
    cases e
  · rw [(S.at_t z).2] at e
    cases e
theorem Stand.mod (S : Stand K mg h l vs ns cs) : L2.Mod K mg (hidT h (entry l vs ns (cs.map (·.2)))) :=
  ⟨S.base, S.spc S.glo, S.blt.elim fun mb e => ⟨mb, S.spc e.1, e.2⟩, S.lim.elim fun mc e => ⟨mc, S.spc e.1, e.2⟩⟩
theorem Stand.tabs (S : Stand K mg h l vs ns cs) : ∀ p ∈ cs, LamX.TabB (hidT h (entry l vs ns (cs.map (·.2)))) mg p.1 p.2 := by
  intro p hp
  have ht := S.tab p hp
  constructor
  · obtain ⟨u, fs, fi, tf, fl, tg, iF, tx, tt, e, q1, q2, q3, q4⟩ := S.cod p hp
    refine ⟨u, fs, fi, tf, fl, tg, iF, tx, tt, S.old e (fun _ _ z => ?_) (fun z => ?_), q1, q2, q3, q4⟩
    · rw [q2] at z
      cases z
    · rw [q2] at z
      cases z
      simp at q3
  · obtain ⟨m, u, g1, g2, g3, g4, g5, g6⟩ := S.bmn
    refine ⟨m, u, g1, g2, fun z => ?_, fun z => ?_, S.old g3 (fun _ _ z => ?_) (fun z => ?_), g4, g5, g6⟩
    · obtain ⟨v, es, ep, e1, e2, _⟩ := S.glo
      rw [← z, g3] at e1
      cases e1
      rw [g6] at e2
      cases e2
    · rw [z, ht] at g3
      cases g3
      cases g6
    · rw [g6] at z
      cases z
    · rw [g6] at z
      cases z
  · intro z
    obtain ⟨v, es, ep, e1, e2, _⟩ := S.glo
    rw [z, ht] at e1
    cases e1
    cases e2
end
/-- THE END: the law, called -/
theorem callG {P : Program} {w : World} {K : PySem.W.Frag} {mg : Str → Option Value} {k : Nat} {f l : Addr} {cs : List (Addr × Addr)} {fd : FuncData} {x : Str} {sp : Sp} {s : Shared} {vs : List Value} {ns : List Int}
    (S : Stand K mg s.heap l vs ns cs) (hg : s.gens = #[]) (hr : Room k callerA) (F : ∀ base : Heap, K.In base → base.Ns mainGlobals mg → (∀ p ∈ cs, LamX.TabB base mg p.1 p.2) → FnG P w K mg base (L2.CX P w) k f fd [x] sp)
    (hbd : ∀ (s : Shared) (u : Value), BindsTo s fd ⟨[u], []⟩ [(x, u)]) (hsp : sp [.ref l] (entry l vs ns (cs.map (·.2))) (fun v _ => v = .bl true) fun _ _ _ => False) :
    codeAny (model P w) callerA (.call (.ref f) ⟨[.ref l], []⟩) (fun r s' => r = .ok (.ret (.bool true)) ∧ OldK s.heap s'.heap ∧ s'.os = s.os ∧ AllBare s'.gens) s := by
  have e0 : Env0 P w K mg (hidT s.heap (entry l vs ns (cs.map (·.2)))) callerA [] s (entry l vs ns (cs.map (·.2))) :=
    ⟨rfl, S.mod, fun _ _ e => of_hidT e, Nat.le_of_eq (hidT_size _ _), trivial, fun c hc => (by cases hc), S.hok, .of_eq hg⟩
  have go := (F _ S.base (S.spc S.glo) S.tabs).run callerA [] s _ ⟨[.ref l], []⟩ [.ref l] [.ref l] _ _ hr rfl e0 (hbd s (.ref l)) (.cons rfl .nil) hsp
  refine codeAny_mono go fun r s' q => ?_
  rcases r with e | fl
  · obtain ⟨_, _, _, _, _, _, _, _, _, _, _, _, z⟩ := q
    exact z.elim
  rcases fl with _ | _ | _ | u
  · exact False.elim q
  · exact False.elim q
  · exact False.elim q
  obtain ⟨v, H', q1, q2, un, q3, q4, q5⟩ := q
  rw [show v = .bl true from q5] at q4
  rw [show u = Value.bool true from q4]
  have stay : ∀ c o, c ∉ cs.map (·.2) → s.heap.get? c = some o → s'.heap.get? c = some o := fun c o hc e => by
    by_cases hl : c = l
    · subst hl
      have z := (q3 c _ (un.frzs c _ _ entry_l)).1
      rw [S.lst] at e
      cases e
      exact z
    · exact un.keep c o e (entry_0 hl hc) (fun z => by cases z) (fun z => by cases z)
  have grow : ∀ p ∈ cs, ∃ ms : Array Value, s'.heap.get? p.2 = some { cls := .none, data := .fields (#[] ++ ms) } := fun p hp => by
    have hm : p.2 ∈ cs.map (·.2) := List.mem_map.mpr ⟨p, hp, rfl⟩
    obtain ⟨ms, z⟩ := un.tbls p.2 #[] (entry_t (fun z => S.l_t (z ▸ hm)) hm)
    exact ⟨ms, q3 p.2 _ z⟩
  refine ⟨rfl, ⟨fun c o e => ?_, fun c o e => ?_⟩, q1, q2⟩
  · by_cases hc : c ∈ cs.map (·.2)
    · obtain ⟨p, hp, rfl⟩ := List.mem_map.mp hc
      obtain ⟨ms, z⟩ := grow p hp
      have e2 := (S.tab p hp).symm.trans e
      cases e2
      exact .inr (.inl ⟨((S.cod p hp).tab (S.tab p hp)).isCodeTable, rfl, #[], ms, rfl, z⟩)
    · exact .inl (stay c o hc e)
  · by_cases hc : c ∈ cs.map (·.2)
    · obtain ⟨p, hp, rfl⟩ := List.mem_map.mp hc
      obtain ⟨ms, z⟩ := grow p hp
      exact ⟨_, z⟩
    · exact ⟨o, stay c o hc e⟩
end Sb
namespace Sb
open L2 PyProof.Rows PySem.Calls PySem.Spec PySem He Ev
def clo (t : TA) : TA := fun σ H Q => ∃ Q0, t σ H Q0 ∧ ∀ vs H1, Q0 vs H1 → Q vs H1
theorem pa_clo {X : Cx} {es : List Expr} {t : TA} (h : PA X es t) : PA X es (clo t) := by
  refine ⟨fun pos pins s σ H Q I ⟨Q0, h1, h2⟩ => thn (h.run pos pins s σ H Q0 I h1) ?_⟩
  rintro us s1 ⟨vs, H1, a, b, c⟩
  exact ⟨vs, H1, a, b, h2 _ _ c⟩
section
variable {b : Bs} {T : Ev.Tab} {P : Program} {w : World} {mg : Str → Option Value} {base : Heap}
theorem rs_two {m f k : Nat} {C : Addr} {x fld file : Str} (hP : b.P f = none) (O : Own b.K C x fld file) (gC : mg x = some (.ref C)) (hs : mg "super" = none) (hfile : ((P.main.file : Str) == file) = true) (htop : (P.main.scope.names.lookup ("super" : Str)).isSome = false)
    (hdb : (x == ("__debug__" : Str)) = false) (hca : b.ca x = some C) (hpr : ∀ ds ω Q E, b.pr f ds ω Q E → ∃ d e, ds = [d, e] ∧ E ⟨x, some (fld, e)⟩ ω)
    (X : Cx) (E : XK) (ta : TA) (es : Exs) (p pc pn : Pos) (h1 : X.prog = P) (h3 : X.K = b.K) (h4 : X.mg = mg) (hc : X.calm = true) (hr : Room k X.A) (tk : Takes X (fun cls d _ H => E cls d H)) (hg : Gl X x) (hl : es.len = 2) (ha : PA X (uns es) ta) :
    PS X (.Raise (some (.Call (.Name x pn) (uns es) [] pc)) none p) (fun _ σ H => ta σ H fun vs H1 => spR (lv b m) f vs H1 E) := by
  match es, hl with
  | .cons a (.cons c .nil), _ =>
    subst h1 h4
    rw [← h3] at O
    refine PS_imp (ps_raiseF (C := C) (fld := fld) (file := file) hc tk O gC hs hfile htop hr (pa_clo ha) hg hdb (un_star a (uns (.cons c .nil)) X.env) (uns_star (.cons c .nil) X.env pc)) ?_
    intro D σ H h
    refine ⟨_, h, ?_⟩
    rintro vs H1 ⟨ds, M, ω, am, fm, mt, tb, rs, q⟩
    rw [lv_pr hP] at q
    obtain ⟨d, e, rfl, q2⟩ := hpr _ _ _ _ q
    obtain ⟨u, v, rfl, r1, r2⟩ := rs.two
    refine ⟨u, v, rfl, fun dx hd => ?_⟩
    have A0 : Aft (lv b m) (.at H1 ω M) H1 ω M := ⟨am, fm, mt, fun _ h => h, fun _ h => .inl h, fun _ _ h _ _ => h, fun _ o h n => ⟨o, h, n⟩, fun _ h => .inl h, fun a h => let ⟨o, q, k⟩ := mt a h; ⟨o, q, k.nt⟩, tb⟩
    exact q2 M _ _ _ (A0.new hd) ⟨C, hca, rfl, dx, v, rfl, upd_same, r2.exd (exd_new hd)⟩
/-- a def of the text -/
structure Df (b : Bs) (T : Ev.Tab) (mg : Str → Option Value) (f : Nat) (x : Str) (n : Nat) : Prop where
  ex : ∃ (fd : Fd) (st : Stmt) (a : Addr) (fdt : FuncData) (ps : List Str), b.P f = some fd ∧ fd.np = n ∧ Fun b.K x x st a fdt ∧ FnScope fd.N ps (defScope st) ∧ ps.length = n ∧ unSs fd.body = defBody st ∧ wfSs T fd.N (defScope st) fd.body = true ∧
    mg x = some (.ref a) ∧ L2.Binds b.K fdt ps [] ∧ (n = 1 → ∀ y, T.fP f = some y → KBinds b.K fdt ps [y] (fun us ws => us ++ ws) (fun vs zs => vs ++ zs))
/-- a module -/
structure Mf (b : Bs) (T : Ev.Tab) (P : Program) (w : World) (mg : Str → Option Value) (base : Heap) : Prop where
  nw : T.wN = none
  bn : ∀ x ∈ bNames, mg x = none
  gc : ∀ g x d, T.gN g = some x → b.gv g = some d → ∃ u v, mg x = some u ∧ RelV v u ∧ ∀ H M, Rp b.K H M v d
  df : ∀ f x n, T.fN f = some (x, n) → Df b T mg f x n
  rs : ∀ f x n, T.cN f = some (x, n) → ∀ (m k : Nat) (X : Cx) (E : XK) (ta : TA) (es : Exs) (p pc pn : Pos), X.prog = P → X.K = b.K → X.mg = mg → X.calm = true → Room k X.A → Takes X (fun cls d _ H => E cls d H) → Gl X x → es.len = n → PA X (uns es) ta →
    PS X (.Raise (some (.Call (.Name x pn) (uns es) [] pc)) none p) (fun _ σ H => ta σ H fun vs H1 => spR (lv b m) f vs H1 E)
theorem lv_zero {f : Nat} {fd : Fd} (h : b.P f = some fd) {ds : List D} {ω : Om} {Q : Sl → Om → Prop} {E : Xn → Om → Prop} (z : (lv b 0).cl f ds ω Q E) : False := by
  have z' : (match b.P f with
      | some _ => False
      | none => b.pr f ds ω Q E) := z
  rw [h] at z'
  exact z'
theorem Mf.fx (F : Mf b T P w mg base) : ∀ n : Nat, Fx (lv b n) T P w b.K mg base n := by
  intro n
  induction n with
  | zero =>
    refine ⟨rfl, F.bn, F.gc, fun f x n hf => ?_, fun f x n hf X E ta es p pc pn g1 _ g2 g3 => F.rs f x n hf 0 0 X E ta es p pc pn g1 g2 g3, fun x h => by rw [F.nw] at h; cases h⟩
    obtain ⟨fd, st, a, fdt, ps, h1, h2, h3, h4, h5, h6, h7, h8, h9, h10⟩ := (F.df f x n hf).ex
    exact ⟨a, fdt, ps, h8, h3.kp, ⟨fun vs H Q E h => h.1.trans h5.symm, fun A outer s H args us vs Q E hr hg he hb hv hs => let ⟨_, _, _, _, _, _, _, _, _, z⟩ := hs; (lv_zero h1 z).elim⟩, h9, h10⟩
  | succ n ih =>
    refine ⟨rfl, F.bn, F.gc, fun f x m hf => ?_, fun f x m hf X E ta es p pc pn g1 _ g2 g3 => F.rs f x m hf (n + 1) (n + 1) X E ta es p pc pn g1 g2 g3, fun x h => by rw [F.nw] at h; cases h⟩
    obtain ⟨fd, st, a, fdt, ps, h1, h2, h3, h4, h5, h6, h7, h8, h9, h10⟩ := (F.df f x m hf).ex
    have e5 : T.w5 = 0 := by unfold Ev.Tab.w5; rw [F.nw]
    have z := fn_ev (b := b) (T := T) h1 h3 h4 (h5.trans h2.symm) h6 h7 ih (fun x hx => by rw [F.nw] at hx; cases hx)
    rw [e5, h2] at z
    exact ⟨a, fdt, ps, h8, h3.kp, z, h9, h10⟩
end
theorem ints_rp {K : PySem.W.Frag} {H : Hp} {M : Addr → Prop} : ∀ ns : List Int, RpA K H M (ns.map V.int) (ns.map PyData.int)
  | [] => .nil
  | n :: ns => .cons (.int n) (ints_rp ns)
theorem walkG {l : PySem.W.OpenLaw} {m k : Nat} {q : Program} {loose : List Str} {XP : (Str → Option Value) → Heap → Prop} {YP : World → Heap → Prop} {d : DefRec} {x : Str} (hm : l.most = some m) (hm2 : m ≤ sizeLine) (hdf : d.params.defaults = []) (hr : Room k callerA)
    (F : ∀ (w : World) (mg : Str → Option Value) (f : Addr) (h : Heap), YP w h → h.Ns mainGlobals mg → mg d.name = some (.ref f) → ∃ (K : PySem.W.Frag) (cs : List (Addr × Addr)) (fd : FuncData) (sp : Sp), K.In h ∧ (∀ a o, K.lookup a = some o → isL o = false) ∧
      (∀ p ∈ cs, h.get? p.2 = some { cls := .none, data := .fields #[] } ∧ K.lookup p.2 = none ∧ PySem.W.CodeHd h p.1 p.2) ∧ (∀ (s : Shared) (u : Value), BindsTo s fd ⟨[u], []⟩ [(x, u)]) ∧
      (∀ (a : Addr) (vs : List Value) (ns : List Int), ns.length ≤ m → a ∉ cs.map (·.2) → sp [.ref a] (entry a vs ns (cs.map (·.2))) (fun v _ => v = .bl true) fun _ _ _ => False) ∧
      ∀ base : Heap, K.In base → base.Ns mainGlobals mg → (∀ p ∈ cs, LamX.TabB base mg p.1 p.2) → FnG l.prog w K mg base (L2.CX l.prog w) k f fd [x] sp) :
    PySem.W.WalkO q loose XP YP l.row.toRowW d [] (fun f vs => PySem.call f vs) := by
  refine Att.attach_callB hm hdf fun w s₀ s mg mb f o pm cd doc a vs ns G Y ho hd hcd hmg hobj hints hlen hbits hg => ?_
  obtain ⟨K, cs, fd, sp, ki, nl, ht, hb, hs, hF⟩ := F w mg f _ Y G.T.g hmg
  have fr : K.lookup a = none := by
    cases e : K.lookup a with
    | none => rfl
    | some u =>
      have e1 := (ki a u e).symm.trans hobj
      cases e1
      have z := nl a _ e
      simp [isL] at z
  have S : Stand K mg s.heap a vs ns cs := ⟨ki, G.T.g, ⟨mb, G.T.b, G.T.builtins⟩, G.T.nolimit, fun p hp => (ht p hp).1, fun p hp => (ht p hp).2.1, fun p hp => (ht p hp).2.2, G.T.bmain, hobj, fr, hints, Nat.le_trans hlen hm2⟩
  exact callG S hg hr hF hb (hs a vs ns hlen S.l_t)
end Sb
namespace K8
open PySem PySem.Spec L2 Ev
def topC (i : Nat) : Stmt := PySem.Challenge.pw_setbook_k88_values_written.main.body.getD i (.Pass ⟨0, 0, 0, 0⟩)
def d24 : Fd := ⟨["thing", "sign"], 1, [.ret ⟨55,4,55,92⟩ (.and ⟨55,11,55,92⟩ (.cons (.isi ⟨55,11,55,33⟩ ⟨55,11,55,21⟩ (.var ⟨55,22,55,27⟩ 0 "thing") ⟨55,29,55,32⟩ .str) (.cons (.cmp .NotEq ⟨55,38,55,49⟩ (.var ⟨55,38,55,43⟩ 0 "thing") (.str "" 0 ⟨55,47,55,49⟩)) (.cons (.bi ⟨55,54,55,92⟩ ⟨55,54,55,57⟩ .all (.cons (.lc ⟨55,58,55,91⟩ ⟨.function, [(".0", .local), ("sign", .local), ("SMALL", .globalImplicit)], false, false, []⟩ [("sign", 1)] (.nm ⟨55,77,55,81⟩ 1 "sign") (.val (.var ⟨55,85,55,90⟩ 0 "thing")) (.nil) (.cmp .In ⟨55,59,55,72⟩ (.var ⟨55,59,55,63⟩ 1 "sign") (.gc ⟨55,67,55,72⟩ "SMALL" 22))) (.nil))) (.nil)))))]⟩
def d25 : Fd := ⟨["thing"], 1, [.ret ⟨57,4,57,98⟩ (.and ⟨57,11,57,98⟩ (.cons (.isi ⟨57,11,57,33⟩ ⟨57,11,57,21⟩ (.var ⟨57,22,57,27⟩ 0 "thing") ⟨57,29,57,32⟩ .int) (.cons (.not ⟨57,39,57,66⟩ (.isi ⟨57,43,57,66⟩ ⟨57,43,57,53⟩ (.var ⟨57,54,57,59⟩ 0 "thing") ⟨57,61,57,65⟩ .bool)) (.cons (.cmp .Lt ⟨57,73,57,97⟩ (.bi ⟨57,73,57,83⟩ ⟨57,73,57,76⟩ .abs (.cons (.var ⟨57,77,57,82⟩ 0 "thing") (.nil))) (.gc ⟨57,86,57,97⟩ "MOST_NUMBER" 21)) (.nil)))))]⟩
def d26 : Fd := ⟨["thing", "layer", "deep", "later", "one"], 1, [.asg ⟨59,4,59,19⟩ ⟨59,4,59,9⟩ 1 "layer" (.lst ⟨59,12,59,19⟩ (.cons (.var ⟨59,13,59,18⟩ 0 "thing") (.nil))), .fr ⟨60,4,69,21⟩ (.nm ⟨60,8,60,12⟩ 2 "deep") (.rng ⟨60,16,60,32⟩ ⟨60,16,60,21⟩ (.gc ⟨60,22,60,31⟩ "MOST_DEEP" 19)) [.asg ⟨61,8,61,18⟩ ⟨61,8,61,13⟩ 3 "later" (.lst ⟨61,16,61,18⟩ (.nil)), .fr ⟨62,8,66,28⟩ (.nm ⟨62,12,62,15⟩ 4 "one") (.val (.var ⟨62,19,62,24⟩ 1 "layer")) [.ife ⟨63,12,66,28⟩ (.and ⟨63,15,63,62⟩ (.cons (.isi ⟨63,15,63,37⟩ ⟨63,15,63,25⟩ (.var ⟨63,26,63,29⟩ 4 "one") ⟨63,31,63,36⟩ .tuple) (.cons (.cmp .Lt ⟨63,42,63,62⟩ (.var ⟨63,42,63,46⟩ 2 "deep") (.bin .Sub ⟨63,49,63,62⟩ (.gc ⟨63,49,63,58⟩ "MOST_DEEP" 19) (.int (1) 0 ⟨63,61,63,62⟩))) (.nil)))) [.ext ⟨64,16,64,33⟩ ⟨64,16,64,33⟩ ⟨64,16,64,28⟩ ⟨64,16,64,21⟩ 3 "later" (.var ⟨64,29,64,32⟩ 4 "one")] [.ife ⟨65,12,66,28⟩ (.and ⟨65,17,65,80⟩ (.cons (.isN true ⟨65,17,65,32⟩ 0 ⟨65,28,65,32⟩ (.var ⟨65,17,65,20⟩ 4 "one")) (.cons (.not ⟨65,38,65,54⟩ (.call ⟨65,42,65,54⟩ ⟨65,42,65,49⟩ "is_word" 24 (.cons (.var ⟨65,50,65,53⟩ 4 "one") (.nil)))) (.cons (.not ⟨65,61,65,79⟩ (.call ⟨65,65,65,79⟩ ⟨65,65,65,74⟩ "is_figure" 25 (.cons (.var ⟨65,75,65,78⟩ 4 "one") (.nil)))) (.nil))))) [.ret ⟨66,16,66,28⟩ (.bl false 0 ⟨66,23,66,28⟩)] []]], .ife ⟨67,8,68,23⟩ (.emp false ⟨67,11,67,22⟩ ⟨67,11,67,16⟩ ⟨67,20,67,22⟩ 3 "later") [.ret ⟨68,12,68,23⟩ (.bl true 0 ⟨68,19,68,23⟩)] [], .asg ⟨69,8,69,21⟩ ⟨69,8,69,13⟩ 1 "layer" (.var ⟨69,16,69,21⟩ 3 "later")], .ret ⟨70,4,70,16⟩ (.bl false 0 ⟨70,11,70,16⟩)]⟩
def d27 : Fd := ⟨["value", "found", "left", "here", "at", "one"], 1, [.ife ⟨72,4,73,35⟩ (.not ⟨72,7,72,26⟩ (.call ⟨72,11,72,26⟩ ⟨72,11,72,19⟩ "is_value" 26 (.cons (.var ⟨72,20,72,25⟩ 0 "value") (.nil)))) [.raise ⟨73,8,73,35⟩ ⟨73,14,73,35⟩ ⟨73,14,73,20⟩ 14 "NoText" (.cons (.str "no value" 0 ⟨73,21,73,31⟩) (.cons (.int (0) 0 ⟨73,33,73,34⟩) (.nil)))] [], .par ⟨74,4,74,31⟩ ⟨74,4,74,15⟩ ⟨74,18,74,31⟩ ⟨74,4,74,9⟩ ⟨74,11,74,15⟩ 0 0 1 2 "found" "left" (.lst ⟨74,19,74,21⟩ (.nil)) (.lst ⟨74,23,74,30⟩ (.cons (.var ⟨74,24,74,29⟩ 0 "value") (.nil))), .whl ⟨75,4,85,60⟩ (.emp true ⟨75,10,75,20⟩ ⟨75,10,75,14⟩ ⟨75,18,75,20⟩ 2 "left") [.asg ⟨76,8,76,25⟩ ⟨76,8,76,12⟩ 3 "here" (.pop ⟨76,15,76,25⟩ ⟨76,15,76,23⟩ ⟨76,15,76,19⟩ 2 "left"), .ife ⟨77,8,85,60⟩ (.isi ⟨77,11,77,33⟩ ⟨77,11,77,21⟩ (.var ⟨77,22,77,26⟩ 3 "here") ⟨77,28,77,32⟩ .list) [.app ⟨78,12,78,33⟩ ⟨78,12,78,33⟩ ⟨78,12,78,24⟩ ⟨78,12,78,17⟩ 1 "found" (.sub ⟨78,25,78,32⟩ (.var ⟨78,25,78,29⟩ 3 "here") (.int (0) 0 ⟨78,30,78,31⟩))] [.ife ⟨79,8,85,60⟩ (.isi ⟨79,13,79,36⟩ ⟨79,13,79,23⟩ (.var ⟨79,24,79,28⟩ 3 "here") ⟨79,30,79,35⟩ .tuple) [.app ⟨80,12,80,30⟩ ⟨80,12,80,30⟩ ⟨80,12,80,23⟩ ⟨80,12,80,16⟩ 2 "left" (.lst ⟨80,24,80,29⟩ (.cons (.str ")" 0 ⟨80,25,80,28⟩) (.nil))), .fr ⟨81,12,82,75⟩ (.tup2 0 ⟨81,16,81,23⟩ (.nm ⟨81,16,81,18⟩ 4 "at") (.nm ⟨81,20,81,23⟩ 5 "one")) (.enumRev ⟨81,27,81,52⟩ ⟨81,27,81,36⟩ ⟨81,37,81,51⟩ ⟨81,37,81,45⟩ (.var ⟨81,46,81,50⟩ 3 "here")) [.ext ⟨82,16,82,75⟩ ⟨82,16,82,75⟩ ⟨82,16,82,27⟩ ⟨82,16,82,20⟩ 2 "left" (.ife ⟨82,28,82,74⟩ (.cmp .Eq ⟨82,37,82,56⟩ (.var ⟨82,37,82,39⟩ 4 "at") (.bin .Sub ⟨82,43,82,56⟩ (.bi ⟨82,43,82,52⟩ ⟨82,43,82,46⟩ .len (.cons (.var ⟨82,47,82,51⟩ 3 "here") (.nil))) (.int (1) 0 ⟨82,55,82,56⟩))) (.lst ⟨82,28,82,33⟩ (.cons (.var ⟨82,29,82,32⟩ 5 "one") (.nil))) (.lst ⟨82,62,82,74⟩ (.cons (.var ⟨82,63,82,66⟩ 5 "one") (.cons (.lst ⟨82,68,82,73⟩ (.cons (.str " " 0 ⟨82,69,82,72⟩) (.nil))) (.nil)))))], .app ⟨83,12,83,30⟩ ⟨83,12,83,30⟩ ⟨83,12,83,23⟩ ⟨83,12,83,16⟩ 2 "left" (.lst ⟨83,24,83,29⟩ (.cons (.str "(" 0 ⟨83,25,83,28⟩) (.nil)))] [.app ⟨85,12,85,60⟩ ⟨85,12,85,60⟩ ⟨85,12,85,24⟩ ⟨85,12,85,17⟩ 1 "found" (.ife ⟨85,25,85,59⟩ (.isN false ⟨85,32,85,44⟩ 0 ⟨85,40,85,44⟩ (.var ⟨85,32,85,36⟩ 3 "here")) (.str "-" 0 ⟨85,25,85,28⟩) (.bi ⟨85,50,85,59⟩ ⟨85,50,85,53⟩ .str (.cons (.var ⟨85,54,85,58⟩ 3 "here") (.nil))))]]], .ret ⟨86,4,86,25⟩ (.join ⟨86,11,86,25⟩ ⟨86,11,86,18⟩ (.str "" 0 ⟨86,11,86,13⟩) (.var ⟨86,19,86,24⟩ 1 "found"))]⟩
def d28 : Fd := ⟨["text", "found", "at", "end"], 1, [.par ⟨88,4,88,23⟩ ⟨88,4,88,13⟩ ⟨88,16,88,23⟩ ⟨88,4,88,9⟩ ⟨88,11,88,13⟩ 0 0 1 2 "found" "at" (.lst ⟨88,17,88,19⟩ (.nil)) (.int (0) 0 ⟨88,21,88,22⟩), .whl ⟨89,4,95,16⟩ (.cmp .Lt ⟨89,10,89,24⟩ (.var ⟨89,10,89,12⟩ 2 "at") (.bi ⟨89,15,89,24⟩ ⟨89,15,89,18⟩ .len (.cons (.var ⟨89,19,89,23⟩ 0 "text") (.nil)))) [.asg ⟨90,8,90,20⟩ ⟨90,8,90,11⟩ 3 "end" (.bin .Add ⟨90,14,90,20⟩ (.var ⟨90,14,90,16⟩ 2 "at") (.int (1) 0 ⟨90,19,90,20⟩)), .ife ⟨91,8,93,24⟩ (.cmp .NotIn ⟨91,11,91,32⟩ (.sub ⟨91,11,91,19⟩ (.var ⟨91,11,91,15⟩ 0 "text") (.var ⟨91,16,91,18⟩ 2 "at")) (.str "() " 0 ⟨91,27,91,32⟩)) [.whl ⟨92,12,93,24⟩ (.and ⟨92,18,92,60⟩ (.cons (.cmp .Lt ⟨92,18,92,33⟩ (.var ⟨92,18,92,21⟩ 3 "end") (.bi ⟨92,24,92,33⟩ ⟨92,24,92,27⟩ .len (.cons (.var ⟨92,28,92,32⟩ 0 "text") (.nil)))) (.cons (.cmp .NotIn ⟨92,38,92,60⟩ (.sub ⟨92,38,92,47⟩ (.var ⟨92,38,92,42⟩ 0 "text") (.var ⟨92,43,92,46⟩ 3 "end")) (.str "() " 0 ⟨92,55,92,60⟩)) (.nil)))) [.aug ⟨93,16,93,24⟩ ⟨93,16,93,19⟩ 3 "end" .Add (.int (1) 0 ⟨93,23,93,24⟩)]] [], .app ⟨94,8,94,34⟩ ⟨94,8,94,34⟩ ⟨94,8,94,20⟩ ⟨94,8,94,13⟩ 1 "found" (.slB ⟨94,21,94,33⟩ ⟨94,26,94,32⟩ (.var ⟨94,21,94,25⟩ 0 "text") (.var ⟨94,26,94,28⟩ 2 "at") (.var ⟨94,29,94,32⟩ 3 "end")), .asg ⟨95,8,95,16⟩ ⟨95,8,95,10⟩ 2 "at" (.var ⟨95,13,95,16⟩ 3 "end")], .retV ⟨96,4,96,16⟩ ⟨96,11,96,16⟩ 1 "found"]⟩
def d29 : Fd := ⟨["piece", "bare", "sign"], 1, [.ife ⟨98,4,99,21⟩ (.cmp .Eq ⟨98,7,98,19⟩ (.var ⟨98,7,98,12⟩ 0 "piece") (.str "-" 0 ⟨98,16,98,19⟩)) [.ret ⟨99,8,99,21⟩ (.lst ⟨99,15,99,21⟩ (.cons (.non 0 ⟨99,16,99,20⟩) (.nil)))] [], .ife ⟨100,4,101,22⟩ (.call ⟨100,7,100,21⟩ ⟨100,7,100,14⟩ "is_word" 24 (.cons (.var ⟨100,15,100,20⟩ 0 "piece") (.nil))) [.ret ⟨101,8,101,22⟩ (.lst ⟨101,15,101,22⟩ (.cons (.var ⟨101,16,101,21⟩ 0 "piece") (.nil)))] [], .asg ⟨102,4,102,51⟩ ⟨102,4,102,8⟩ 1 "bare" (.ife ⟨102,11,102,51⟩ (.cmp .Eq ⟨102,24,102,40⟩ (.slH ⟨102,24,102,33⟩ ⟨102,30,102,32⟩ (.var ⟨102,24,102,29⟩ 0 "piece") (.int (1) 0 ⟨102,31,102,32⟩)) (.str "-" 0 ⟨102,37,102,40⟩)) (.slL ⟨102,11,102,20⟩ ⟨102,17,102,19⟩ (.var ⟨102,11,102,16⟩ 0 "piece") (.int (1) 0 ⟨102,17,102,18⟩)) (.var ⟨102,46,102,51⟩ 0 "piece")), .ife ⟨103,4,104,17⟩ (.or ⟨103,7,103,88⟩ (.cons (.not ⟨103,7,103,41⟩ (.cmp2 .LtE .LtE ⟨103,11,103,41⟩ (.int (1) 0 ⟨103,11,103,12⟩) (.bi ⟨103,16,103,25⟩ ⟨103,16,103,19⟩ .len (.cons (.var ⟨103,20,103,24⟩ 1 "bare") (.nil))) (.gc ⟨103,29,103,41⟩ "MOST_FIGURES" 20))) (.cons (.not ⟨103,45,103,88⟩ (.bi ⟨103,49,103,88⟩ ⟨103,49,103,52⟩ .all (.cons (.lc ⟨103,53,103,87⟩ ⟨.function, [(".0", .local), ("sign", .local), ("FIGURES", .globalImplicit)], false, false, []⟩ [("sign", 2)] (.nm ⟨103,74,103,78⟩ 2 "sign") (.val (.var ⟨103,82,103,86⟩ 1 "bare")) (.nil) (.cmp .In ⟨103,54,103,69⟩ (.var ⟨103,54,103,58⟩ 2 "sign") (.gc ⟨103,62,103,69⟩ "FIGURES" 23))) (.nil)))) (.nil)))) [.ret ⟨104,8,104,17⟩ (.lst ⟨104,15,104,17⟩ (.nil))] [], .ret ⟨105,4,105,59⟩ (.ife ⟨105,11,105,59⟩ (.cmp .Eq ⟨105,27,105,51⟩ (.bi ⟨105,27,105,42⟩ ⟨105,27,105,30⟩ .str (.cons (.bi ⟨105,31,105,41⟩ ⟨105,31,105,34⟩ .int (.cons (.var ⟨105,35,105,40⟩ 0 "piece") (.nil))) (.nil))) (.var ⟨105,46,105,51⟩ 0 "piece")) (.lst ⟨105,11,105,23⟩ (.cons (.bi ⟨105,12,105,22⟩ ⟨105,12,105,15⟩ .int (.cons (.var ⟨105,16,105,21⟩ 0 "piece") (.nil))) (.nil))) (.lst ⟨105,57,105,59⟩ (.nil)))]⟩
def d30 : Fd := ⟨["pieces", "open_ones", "done", "piece", "one"], 1, [.par ⟨107,4,107,30⟩ ⟨107,4,107,19⟩ ⟨107,22,107,30⟩ ⟨107,4,107,13⟩ ⟨107,15,107,19⟩ 0 0 1 2 "open_ones" "done" (.lst ⟨107,23,107,25⟩ (.nil)) (.lst ⟨107,27,107,29⟩ (.nil)), .fr ⟨108,4,125,40⟩ (.nm ⟨108,8,108,13⟩ 3 "piece") (.val (.var ⟨108,17,108,23⟩ 0 "pieces")) [.ife ⟨109,8,111,20⟩ (.cmp .Eq ⟨109,11,109,23⟩ (.var ⟨109,11,109,16⟩ 3 "piece") (.str "(" 0 ⟨109,20,109,23⟩)) [.app ⟨110,12,110,32⟩ ⟨110,12,110,32⟩ ⟨110,12,110,28⟩ ⟨110,12,110,21⟩ 1 "open_ones" (.lNew ⟨110,29,110,31⟩), .cont ⟨111,12,111,20⟩] [], .ife ⟨112,8,113,20⟩ (.cmp .Eq ⟨112,11,112,23⟩ (.var ⟨112,11,112,16⟩ 3 "piece") (.str " " 0 ⟨112,20,112,23⟩)) [.cont ⟨113,12,113,20⟩] [], .ife ⟨114,8,119,33⟩ (.cmp .Eq ⟨114,11,114,23⟩ (.var ⟨114,11,114,16⟩ 3 "piece") (.str ")" 0 ⟨114,20,114,23⟩)) [.ife ⟨115,12,116,25⟩ (.emp false ⟨115,15,115,30⟩ ⟨115,15,115,24⟩ ⟨115,28,115,30⟩ 1 "open_ones") [.ret ⟨116,16,116,25⟩ (.lst ⟨116,23,116,25⟩ (.nil))] [], .asg ⟨117,12,117,42⟩ ⟨117,12,117,15⟩ 4 "one" (.lst ⟨117,18,117,42⟩ (.cons (.cTup ⟨117,19,117,41⟩ ⟨117,19,117,24⟩ (.pop ⟨117,25,117,40⟩ ⟨117,25,117,38⟩ ⟨117,25,117,34⟩ 1 "open_ones")) (.nil)))] [.asg ⟨119,12,119,33⟩ ⟨119,12,119,15⟩ 4 "one" (.call ⟨119,18,119,33⟩ ⟨119,18,119,26⟩ "plain_of" 29 (.cons (.var ⟨119,27,119,32⟩ 3 "piece") (.nil)))], .ife ⟨120,8,121,21⟩ (.or ⟨120,11,120,56⟩ (.cons (.emp false ⟨120,11,120,20⟩ ⟨120,11,120,14⟩ ⟨120,18,120,20⟩ 4 "one") (.cons (.and ⟨120,25,120,55⟩ (.cons (.emp false ⟨120,25,120,40⟩ ⟨120,25,120,34⟩ ⟨120,38,120,40⟩ 1 "open_ones") (.cons (.emp true ⟨120,45,120,55⟩ ⟨120,45,120,49⟩ ⟨120,53,120,55⟩ 2 "done") (.nil)))) (.nil)))) [.ret ⟨121,12,121,21⟩ (.lst ⟨121,19,121,21⟩ (.nil))] [], .ife ⟨122,8,125,40⟩ (.emp false ⟨122,11,122,26⟩ ⟨122,11,122,20⟩ ⟨122,24,122,26⟩ 1 "open_ones") [.asg ⟨123,12,123,22⟩ ⟨123,12,123,16⟩ 2 "done" (.var ⟨123,19,123,22⟩ 4 "one")] [.cApp ⟨125,12,125,40⟩ ⟨125,12,125,40⟩ ⟨125,12,125,32⟩ (.subv ⟨125,12,125,25⟩ ⟨125,12,125,21⟩ 1 "open_ones" (.usub ⟨125,22,125,24⟩ (.int (1) 0 ⟨125,23,125,24⟩))) (.sub ⟨125,33,125,39⟩ (.var ⟨125,33,125,36⟩ 4 "one") (.int (0) 0 ⟨125,37,125,38⟩))]], .ret ⟨126,4,126,42⟩ (.ife ⟨126,11,126,42⟩ (.emp false ⟨126,19,126,34⟩ ⟨126,19,126,28⟩ ⟨126,32,126,34⟩ 1 "open_ones") (.var ⟨126,11,126,15⟩ 2 "done") (.lst ⟨126,40,126,42⟩ (.nil)))]⟩
def d31 : Fd := ⟨["text", "found"], 1, [.ife ⟨128,4,129,34⟩ (.not ⟨128,7,128,32⟩ (.isi ⟨128,11,128,32⟩ ⟨128,11,128,21⟩ (.var ⟨128,22,128,26⟩ 0 "text") ⟨128,28,128,31⟩ .str)) [.raise ⟨129,8,129,34⟩ ⟨129,14,129,34⟩ ⟨129,14,129,20⟩ 14 "NoText" (.cons (.str "no text" 0 ⟨129,21,129,30⟩) (.cons (.int (0) 0 ⟨129,32,129,33⟩) (.nil)))] [], .asg ⟨130,4,130,37⟩ ⟨130,4,130,9⟩ 1 "found" (.call ⟨130,12,130,37⟩ ⟨130,12,130,20⟩ "value_of" 30 (.cons (.call ⟨130,21,130,36⟩ ⟨130,21,130,30⟩ "pieces_of" 28 (.cons (.var ⟨130,31,130,35⟩ 0 "text") (.nil))) (.nil))), .ife ⟨131,4,132,45⟩ (.or ⟨131,7,131,76⟩ (.cons (.emp false ⟨131,7,131,18⟩ ⟨131,7,131,12⟩ ⟨131,16,131,18⟩ 1 "found") (.cons (.not ⟨131,22,131,44⟩ (.call ⟨131,26,131,44⟩ ⟨131,26,131,34⟩ "is_value" 26 (.cons (.sub ⟨131,35,131,43⟩ (.var ⟨131,35,131,40⟩ 1 "found") (.int (0) 0 ⟨131,41,131,42⟩)) (.nil)))) (.cons (.cmp .NotEq ⟨131,48,131,76⟩ (.call ⟨131,48,131,68⟩ ⟨131,48,131,58⟩ "value_text" 27 (.cons (.sub ⟨131,59,131,67⟩ (.var ⟨131,59,131,64⟩ 1 "found") (.int (0) 0 ⟨131,65,131,66⟩)) (.nil))) (.var ⟨131,72,131,76⟩ 0 "text")) (.nil))))) [.raise ⟨132,8,132,45⟩ ⟨132,14,132,45⟩ ⟨132,14,132,20⟩ 14 "NoText" (.cons (.str "no text of a value" 0 ⟨132,21,132,41⟩) (.cons (.int (0) 0 ⟨132,43,132,44⟩) (.nil)))] [], .ret ⟨133,4,133,19⟩ (.sub ⟨133,11,133,19⟩ (.var ⟨133,11,133,16⟩ 1 "found") (.int (0) 0 ⟨133,17,133,18⟩))]⟩
def d33 : Fd := ⟨["script", "great", "cell"], 1, [.asg ⟨136,4,136,78⟩ ⟨136,4,136,9⟩ 1 "great" (.lc ⟨136,12,136,78⟩ ⟨.function, [(".0", .local), ("cell", .local), ("abs", .globalImplicit)], false, false, []⟩ [("cell", 2)] (.nm ⟨136,38,136,42⟩ 2 "cell") (.val (.var ⟨136,46,136,52⟩ 0 "script")) (.cons (.cmp .GtE ⟨136,56,136,77⟩ (.bi ⟨136,56,136,65⟩ ⟨136,56,136,59⟩ .abs (.cons (.var ⟨136,60,136,64⟩ 2 "cell") (.nil))) (.bin .Pow ⟨136,69,136,77⟩ (.int (10) 0 ⟨136,69,136,71⟩) (.int (18) 0 ⟨136,75,136,77⟩))) (.nil)) (.bin .Sub ⟨136,13,136,33⟩ (.bi ⟨136,13,136,22⟩ ⟨136,13,136,16⟩ .abs (.cons (.var ⟨136,17,136,21⟩ 2 "cell") (.nil))) (.bin .Pow ⟨136,25,136,33⟩ (.int (10) 0 ⟨136,25,136,27⟩) (.int (18) 0 ⟨136,31,136,33⟩)))), .ret ⟨137,4,137,90⟩ (.dNew ⟨137,11,137,90⟩ ("great", 0, ⟨137,12,137,19⟩) ⟨137,21,137,26⟩ 1 "great" [("cells", 0, ⟨137,28,137,35⟩), ("rest", 0, ⟨137,69,137,75⟩), ("turn", 0, ⟨137,80,137,86⟩)] (.cons (.lc ⟨137,37,137,67⟩ ⟨.function, [(".0", .local), ("cell", .local), ("abs", .globalImplicit)], false, false, []⟩ [("cell", 2)] (.nm ⟨137,52,137,56⟩ 2 "cell") (.val (.var ⟨137,60,137,66⟩ 0 "script")) (.nil) (.bi ⟨137,38,137,47⟩ ⟨137,38,137,41⟩ .abs (.cons (.var ⟨137,42,137,46⟩ 2 "cell") (.nil)))) (.cons (.int (0) 0 ⟨137,77,137,78⟩) (.cons (.int (0) 0 ⟨137,88,137,89⟩) (.nil)))))]⟩
def d34 : Fd := ⟨["state", "turn", "found", "prime", "blend", "cell"], 1, [.par ⟨139,4,139,40⟩ ⟨139,4,139,15⟩ ⟨139,18,139,40⟩ ⟨139,4,139,8⟩ ⟨139,10,139,15⟩ 0 0 1 2 "turn" "found" (.bin .Add ⟨139,19,139,36⟩ (.dk ⟨139,19,139,32⟩ (.var ⟨139,19,139,24⟩ 0 "state") 0 ⟨139,25,139,31⟩ "turn") (.int (1) 0 ⟨139,35,139,36⟩)) (.int (0) 0 ⟨139,38,139,39⟩), .dkSet ⟨140,4,140,24⟩ ⟨140,4,140,17⟩ (.var ⟨140,4,140,9⟩ 0 "state") 0 ⟨140,10,140,16⟩ "turn" (.var ⟨140,20,140,24⟩ 1 "turn"), .fr ⟨141,4,145,60⟩ (.nm ⟨141,8,141,13⟩ 3 "prime") (.val (.lst ⟨141,17,141,65⟩ (.cons (.int (2147483629) 0 ⟨141,18,141,28⟩) (.cons (.int (2147483587) 0 ⟨141,30,141,40⟩) (.cons (.int (2147483579) 0 ⟨141,42,141,52⟩) (.cons (.int (2147483563) 0 ⟨141,54,141,64⟩) (.nil))))))) [.asg ⟨142,8,142,42⟩ ⟨142,8,142,13⟩ 4 "blend" (.bin .Add ⟨142,16,142,42⟩ (.bin .Mult ⟨142,16,142,28⟩ (.int (69621) 0 ⟨142,16,142,21⟩) (.var ⟨142,24,142,28⟩ 1 "turn")) (.bin .FloorDiv ⟨142,31,142,42⟩ (.var ⟨142,31,142,36⟩ 3 "prime") (.int (41) 0 ⟨142,40,142,42⟩))), .fr ⟨143,8,144,60⟩ (.nm ⟨143,12,143,16⟩ 5 "cell") (.val (.dk ⟨143,20,143,34⟩ (.var ⟨143,20,143,25⟩ 0 "state") 0 ⟨143,26,143,33⟩ "cells")) [.asg ⟨144,12,144,60⟩ ⟨144,12,144,17⟩ 4 "blend" (.bin .Mod ⟨144,20,144,60⟩ (.bi ⟨144,20,144,52⟩ ⟨144,20,144,23⟩ .int (.cons (.bin .Add ⟨144,24,144,51⟩ (.bin .Add ⟨144,24,144,44⟩ (.bin .Mult ⟨144,24,144,37⟩ (.var ⟨144,24,144,29⟩ 4 "blend") (.int (48271) 0 ⟨144,32,144,37⟩)) (.var ⟨144,40,144,44⟩ 5 "cell")) (.var ⟨144,47,144,51⟩ 1 "turn")) (.nil))) (.var ⟨144,55,144,60⟩ 3 "prime"))], .asg ⟨145,8,145,60⟩ ⟨145,8,145,13⟩ 2 "found" (.bin .Add ⟨145,16,145,60⟩ (.bin .Mult ⟨145,16,145,34⟩ (.var ⟨145,16,145,21⟩ 2 "found") (.int (2147483659) 0 ⟨145,24,145,34⟩)) (.bin .Mod ⟨145,37,145,60⟩ (.bi ⟨145,37,145,52⟩ ⟨145,37,145,40⟩ .int (.cons (.bin .Pow ⟨145,41,145,51⟩ (.var ⟨145,41,145,46⟩ 4 "blend") (.int (5) 0 ⟨145,50,145,51⟩)) (.nil))) (.var ⟨145,55,145,60⟩ 3 "prime")))], .retV ⟨146,4,146,16⟩ ⟨146,11,146,16⟩ 2 "found"]⟩
def d35 : Fd := ⟨["state", "room", "found"], 2, [.ife ⟨148,4,149,92⟩ (.cmp .Eq ⟨148,7,148,25⟩ (.dk ⟨148,7,148,20⟩ (.var ⟨148,7,148,12⟩ 0 "state") 0 ⟨148,13,148,19⟩ "rest") (.int (0) 0 ⟨148,24,148,25⟩)) [.dkSet ⟨149,8,149,92⟩ ⟨149,8,149,21⟩ (.var ⟨149,8,149,13⟩ 0 "state") 0 ⟨149,14,149,20⟩ "rest" (.ife ⟨149,24,149,92⟩ (.dkEmp true ⟨149,49,149,69⟩ ⟨149,49,149,63⟩ ⟨149,67,149,69⟩ (.var ⟨149,49,149,54⟩ 0 "state") 0 ⟨149,55,149,62⟩ "great") (.dkPop0 ⟨149,24,149,45⟩ ⟨149,24,149,42⟩ ⟨149,24,149,38⟩ (.var ⟨149,24,149,29⟩ 0 "state") 0 ⟨149,30,149,37⟩ "great" 0 ⟨149,43,149,44⟩) (.call ⟨149,75,149,92⟩ ⟨149,75,149,85⟩ "_law_mixed" 34 (.cons (.var ⟨149,86,149,91⟩ 0 "state") (.nil))))] [], .asg ⟨150,4,150,37⟩ ⟨150,4,150,9⟩ 2 "found" (.bin .Mod ⟨150,12,150,37⟩ (.bi ⟨150,12,150,30⟩ ⟨150,12,150,15⟩ .int (.cons (.dk ⟨150,16,150,29⟩ (.var ⟨150,16,150,21⟩ 0 "state") 0 ⟨150,22,150,28⟩ "rest") (.nil))) (.var ⟨150,33,150,37⟩ 1 "room")), .dkSet ⟨151,4,151,41⟩ ⟨151,4,151,17⟩ (.var ⟨151,4,151,9⟩ 0 "state") 0 ⟨151,10,151,16⟩ "rest" (.bin .FloorDiv ⟨151,20,151,41⟩ (.dk ⟨151,20,151,33⟩ (.var ⟨151,20,151,25⟩ 0 "state") 0 ⟨151,26,151,32⟩ "rest") (.var ⟨151,37,151,41⟩ 1 "room")), .retV ⟨152,4,152,16⟩ ⟨152,11,152,16⟩ 2 "found"]⟩
def d36 : Fd := ⟨["state", "some"], 2, [.ret ⟨154,4,154,44⟩ (.sub ⟨154,11,154,44⟩ (.var ⟨154,11,154,15⟩ 1 "some") (.call ⟨154,16,154,43⟩ ⟨154,16,154,25⟩ "_law_draw" 35 (.cons (.var ⟨154,26,154,31⟩ 0 "state") (.cons (.bi ⟨154,33,154,42⟩ ⟨154,33,154,36⟩ .len (.cons (.var ⟨154,37,154,41⟩ 1 "some") (.nil))) (.nil)))))]⟩
def d37 : Fd := ⟨["value", "one"], 1, [.ife ⟨156,4,157,64⟩ (.isi2 ⟨156,7,156,39⟩ ⟨156,7,156,17⟩ (.var ⟨156,18,156,23⟩ 0 "value") 0 ⟨156,25,156,38⟩ ⟨156,26,156,30⟩ ⟨156,32,156,37⟩ .list .tuple) [.ret ⟨157,8,157,64⟩ (.cmp .Eq ⟨157,15,157,64⟩ (.lc ⟨157,15,157,58⟩ ⟨.function, [(".0", .local), ("one", .local), ("_law_plain", .globalImplicit)], false, false, []⟩ [("one", 1)] (.nm ⟨157,22,157,25⟩ 1 "one") (.val (.var ⟨157,29,157,34⟩ 0 "value")) (.cons (.not ⟨157,38,157,57⟩ (.call ⟨157,42,157,57⟩ ⟨157,42,157,52⟩ "_law_plain" 37 (.cons (.var ⟨157,53,157,56⟩ 1 "one") (.nil)))) (.nil)) (.int (1) 0 ⟨157,16,157,17⟩)) (.lst ⟨157,62,157,64⟩ (.nil)))] [], .ife ⟨158,4,159,46⟩ (.isi ⟨158,7,158,30⟩ ⟨158,7,158,17⟩ (.var ⟨158,18,158,23⟩ 0 "value") ⟨158,25,158,29⟩ .dict) [.ret ⟨159,8,159,46⟩ (.call ⟨159,15,159,46⟩ ⟨159,15,159,25⟩ "_law_plain" 37 (.cons (.bi ⟨159,26,159,45⟩ ⟨159,26,159,30⟩ .list (.cons (.bad ⟨159,31,159,44⟩ (.Attribute (.Name "value" ⟨159,31,159,36⟩) "items" ⟨159,31,159,42⟩) [] []) (.nil))) (.nil)))] [], .ret ⟨160,4,160,57⟩ (.or ⟨160,11,160,57⟩ (.cons (.isN false ⟨160,11,160,24⟩ 0 ⟨160,20,160,24⟩ (.var ⟨160,11,160,16⟩ 0 "value")) (.cons (.isi2 ⟨160,28,160,57⟩ ⟨160,28,160,38⟩ (.var ⟨160,39,160,44⟩ 0 "value") 0 ⟨160,46,160,56⟩ ⟨160,47,160,50⟩ ⟨160,52,160,55⟩ .int .str) (.nil))))]⟩
def d38 : Fd := ⟨["found", "due"], 2, [.ret ⟨162,4,162,95⟩ (.and ⟨162,11,162,95⟩ (.cons (.call ⟨162,11,162,28⟩ ⟨162,11,162,21⟩ "_law_plain" 37 (.cons (.var ⟨162,22,162,27⟩ 0 "found") (.nil))) (.cons (.cmp .Eq ⟨162,33,162,45⟩ (.var ⟨162,33,162,38⟩ 0 "found") (.var ⟨162,42,162,45⟩ 1 "due")) (.cons (.cmp .Eq ⟨162,51,162,63⟩ (.var ⟨162,51,162,54⟩ 1 "due") (.var ⟨162,58,162,63⟩ 0 "found")) (.cons (.reprEq ⟨162,70,162,94⟩ ⟨162,70,162,81⟩ ⟨162,85,162,94⟩ ⟨162,70,162,74⟩ ⟨162,85,162,89⟩ (.var ⟨162,75,162,80⟩ 0 "found") (.var ⟨162,90,162,93⟩ 1 "due")) (.nil))))))]⟩
def d39 : Fd := ⟨["value", "one"], 1, [.ife ⟨164,4,165,76⟩ (.isi ⟨164,7,164,31⟩ ⟨164,7,164,17⟩ (.var ⟨164,18,164,23⟩ 0 "value") ⟨164,25,164,30⟩ .tuple) [.ret ⟨165,8,165,76⟩ (.bin .Add ⟨165,15,165,76⟩ (.bin .Add ⟨165,15,165,70⟩ (.str "(" 0 ⟨165,15,165,18⟩) (.join ⟨165,21,165,70⟩ ⟨165,21,165,29⟩ (.str " " 0 ⟨165,21,165,24⟩) (.lc ⟨165,30,165,69⟩ ⟨.function, [(".0", .local), ("one", .local), ("_law_value_text", .globalImplicit)], false, false, []⟩ [("one", 1)] (.nm ⟨165,56,165,59⟩ 1 "one") (.val (.var ⟨165,63,165,68⟩ 0 "value")) (.nil) (.call ⟨165,31,165,51⟩ ⟨165,31,165,46⟩ "_law_value_text" 39 (.cons (.var ⟨165,47,165,50⟩ 1 "one") (.nil)))))) (.str ")" 0 ⟨165,73,165,76⟩))] [], .ret ⟨166,4,166,47⟩ (.ife ⟨166,11,166,47⟩ (.isN false ⟨166,18,166,31⟩ 0 ⟨166,27,166,31⟩ (.var ⟨166,18,166,23⟩ 0 "value")) (.str "-" 0 ⟨166,11,166,14⟩) (.bi ⟨166,37,166,47⟩ ⟨166,37,166,40⟩ .str (.cons (.var ⟨166,41,166,46⟩ 0 "value") (.nil))))]⟩
def d42 : Fd := ⟨["state", "deep", "way", "lap"], 2, [.asg ⟨192,4,192,66⟩ ⟨192,4,192,7⟩ 2 "way" (.ife ⟨192,10,192,66⟩ (.cmp .Gt ⟨192,33,192,41⟩ (.var ⟨192,33,192,37⟩ 1 "deep") (.int (0) 0 ⟨192,40,192,41⟩)) (.call ⟨192,10,192,29⟩ ⟨192,10,192,19⟩ "_law_draw" 35 (.cons (.var ⟨192,20,192,25⟩ 0 "state") (.cons (.int (6) 0 ⟨192,27,192,28⟩) (.nil)))) (.call ⟨192,47,192,66⟩ ⟨192,47,192,56⟩ "_law_draw" 35 (.cons (.var ⟨192,57,192,62⟩ 0 "state") (.cons (.int (3) 0 ⟨192,64,192,65⟩) (.nil))))), .ife ⟨193,4,194,76⟩ (.cmp .Eq ⟨193,7,193,15⟩ (.var ⟨193,7,193,10⟩ 2 "way") (.int (0) 0 ⟨193,14,193,15⟩)) [.ret ⟨194,8,194,76⟩ (.call ⟨194,15,194,76⟩ ⟨194,15,194,24⟩ "_law_pick" 36 (.cons (.var ⟨194,25,194,30⟩ 0 "state") (.cons (.lst ⟨194,32,194,75⟩ (.cons (.str "a" 0 ⟨194,33,194,36⟩) (.cons (.str "on" 0 ⟨194,38,194,42⟩) (.cons (.str "zz" 0 ⟨194,44,194,48⟩) (.cons (.str "entry" 0 ⟨194,50,194,57⟩) (.cons (.str "abcdefghijklm" 0 ⟨194,59,194,74⟩) (.nil))))))) (.nil))))] [], .ife ⟨195,4,196,89⟩ (.cmp .Eq ⟨195,7,195,15⟩ (.var ⟨195,7,195,10⟩ 2 "way") (.int (1) 0 ⟨195,14,195,15⟩)) [.ret ⟨196,8,196,89⟩ (.call ⟨196,15,196,89⟩ ⟨196,15,196,24⟩ "_law_pick" 36 (.cons (.var ⟨196,25,196,30⟩ 0 "state") (.cons (.lst ⟨196,32,196,88⟩ (.cons (.int (0) 0 ⟨196,33,196,34⟩) (.cons (.int (1) 0 ⟨196,36,196,37⟩) (.cons (.bin .Sub ⟨196,39,196,44⟩ (.int (0) 0 ⟨196,39,196,40⟩) (.int (1) 0 ⟨196,43,196,44⟩)) (.cons (.int (7) 0 ⟨196,46,196,47⟩) (.cons (.bin .Sub ⟨196,49,196,55⟩ (.int (0) 0 ⟨196,49,196,50⟩) (.int (42) 0 ⟨196,53,196,55⟩)) (.cons (.int (999999999999) 0 ⟨196,57,196,69⟩) (.cons (.bin .Sub ⟨196,71,196,87⟩ (.int (0) 0 ⟨196,71,196,72⟩) (.int (999999999999) 0 ⟨196,75,196,87⟩)) (.nil))))))))) (.nil))))] [], .ife ⟨197,4,198,19⟩ (.cmp .Eq ⟨197,7,197,15⟩ (.var ⟨197,7,197,10⟩ 2 "way") (.int (2) 0 ⟨197,14,197,15⟩)) [.ret ⟨198,8,198,19⟩ (.non 0 ⟨198,15,198,19⟩)] [], .ret ⟨199,4,199,90⟩ (.bi ⟨199,11,199,90⟩ ⟨199,11,199,16⟩ .tuple (.cons (.lc ⟨199,17,199,89⟩ ⟨.function, [(".0", .local), ("lap", .local), ("_law_some_value", .globalImplicit), ("deep", .free), ("state", .free)], false, false, []⟩ [("lap", 3)] (.nm ⟨199,55,199,58⟩ 3 "lap") (.rng ⟨199,62,199,88⟩ ⟨199,62,199,67⟩ (.call ⟨199,68,199,87⟩ ⟨199,68,199,77⟩ "_law_draw" 35 (.cons (.var ⟨199,78,199,83⟩ 0 "state") (.cons (.int (4) 0 ⟨199,85,199,86⟩) (.nil))))) (.nil) (.call ⟨199,18,199,50⟩ ⟨199,18,199,33⟩ "_law_some_value" 42 (.cons (.var ⟨199,34,199,39⟩ 0 "state") (.cons (.bin .Sub ⟨199,41,199,49⟩ (.var ⟨199,41,199,45⟩ 1 "deep") (.int (1) 0 ⟨199,48,199,49⟩)) (.nil))))) (.nil)))]⟩
def d43 : Fd := ⟨["many", "one", "lap"], 2, [.fr ⟨201,4,202,20⟩ (.nm ⟨201,8,201,11⟩ 2 "lap") (.rng ⟨201,15,201,26⟩ ⟨201,15,201,20⟩ (.var ⟨201,21,201,25⟩ 0 "many")) [.asg ⟨202,8,202,20⟩ ⟨202,8,202,11⟩ 1 "one" (.tup 0 ⟨202,14,202,20⟩ (.cons (.var ⟨202,15,202,18⟩ 1 "one") (.nil)))], .retV ⟨203,4,203,14⟩ ⟨203,11,203,14⟩ 1 "one"]⟩
def d44 : Fd := ⟨["script", "state", "deepest", "turn", "one", "other", "text", "at", "told", "bent", "thing"], 1, [.asg ⟨205,4,205,30⟩ ⟨205,4,205,9⟩ 1 "state" (.call ⟨205,12,205,30⟩ ⟨205,12,205,22⟩ "_law_begun" 33 (.cons (.var ⟨205,23,205,29⟩ 0 "script") (.nil))), .fr ⟨206,4,208,24⟩ (.nm ⟨206,8,206,13⟩ 10 "thing") (.val (.lst ⟨206,17,206,142⟩ (.cons (.str "A" 0 ⟨206,18,206,21⟩) (.cons (.str "" 0 ⟨206,23,206,25⟩) (.cons (.str "a b" 0 ⟨206,27,206,32⟩) (.cons (.str "a1" 0 ⟨206,34,206,38⟩) (.cons (.str "-" 0 ⟨206,40,206,43⟩) (.cons (.bin .Pow ⟨206,45,206,53⟩ (.int (10) 0 ⟨206,45,206,47⟩) (.int (12) 0 ⟨206,51,206,53⟩)) (.cons (.bin .Sub ⟨206,55,206,67⟩ (.int (0) 0 ⟨206,55,206,56⟩) (.bin .Pow ⟨206,59,206,67⟩ (.int (10) 0 ⟨206,59,206,61⟩) (.int (12) 0 ⟨206,65,206,67⟩))) (.cons (.bl true 0 ⟨206,69,206,73⟩) (.cons (.lst ⟨206,75,206,80⟩ (.cons (.str "a" 0 ⟨206,76,206,79⟩) (.nil))) (.cons (.tup 0 ⟨206,82,206,94⟩ (.cons (.str "a" 0 ⟨206,83,206,86⟩) (.cons (.lst ⟨206,88,206,93⟩ (.cons (.str "b" 0 ⟨206,89,206,92⟩) (.nil))) (.nil)))) (.cons (.tup 0 ⟨206,96,206,106⟩ (.cons (.str "a" 0 ⟨206,97,206,100⟩) (.cons (.str "B" 0 ⟨206,102,206,105⟩) (.nil)))) (.cons (.call ⟨206,108,206,128⟩ ⟨206,108,206,119⟩ "_law_nested" 43 (.cons (.int (60) 0 ⟨206,120,206,122⟩) (.cons (.str "a" 0 ⟨206,124,206,127⟩) (.nil)))) (.cons (.tup 0 ⟨206,130,206,141⟩ (.cons (.str "a" 0 ⟨206,131,206,134⟩) (.cons (.bl true 0 ⟨206,136,206,140⟩) (.nil)))) (.nil)))))))))))))))) [.ife ⟨207,8,208,24⟩ (.cmp .NotEq ⟨207,11,207,62⟩ (.word ⟨207,11,207,47⟩ ⟨207,11,207,20⟩ "_law_word" ⟨.function, [("thing", .free), ("value_text", .globalImplicit)], false, false, []⟩ ⟨207,21,207,46⟩ ⟨207,29,207,46⟩ ⟨207,29,207,39⟩ "value_text" 27 (.cons (.var ⟨207,40,207,45⟩ 10 "thing") (.nil))) (.tup 0 ⟨207,51,207,62⟩ (.cons (.str "text" 0 ⟨207,52,207,58⟩) (.cons (.int (0) 0 ⟨207,60,207,61⟩) (.nil))))) [.ret ⟨208,12,208,24⟩ (.bl false 0 ⟨208,19,208,24⟩)] []], .asg ⟨209,4,209,34⟩ ⟨209,4,209,11⟩ 2 "deepest" (.call ⟨209,14,209,34⟩ ⟨209,14,209,25⟩ "_law_nested" 43 (.cons (.int (59) 0 ⟨209,26,209,28⟩) (.cons (.str "a" 0 ⟨209,30,209,33⟩) (.nil)))), .ife ⟨210,4,211,20⟩ (.or ⟨210,7,210,193⟩ (.cons (.not ⟨210,7,210,66⟩ (.call ⟨210,11,210,66⟩ ⟨210,11,210,18⟩ "_law_is" 38 (.cons (.call ⟨210,19,210,38⟩ ⟨210,19,210,29⟩ "value_text" 27 (.cons (.var ⟨210,30,210,37⟩ 2 "deepest") (.nil))) (.cons (.bin .Add ⟨210,40,210,65⟩ (.bin .Add ⟨210,40,210,54⟩ (.bin .Mult ⟨210,40,210,48⟩ (.str "(" 0 ⟨210,40,210,43⟩) (.int (59) 0 ⟨210,46,210,48⟩)) (.str "a" 0 ⟨210,51,210,54⟩)) (.bin .Mult ⟨210,57,210,65⟩ (.str ")" 0 ⟨210,57,210,60⟩) (.int (59) 0 ⟨210,63,210,65⟩))) (.nil))))) (.cons (.cmp .NotEq ⟨210,70,210,118⟩ (.call ⟨210,70,210,107⟩ ⟨210,70,210,80⟩ "read_value" 31 (.cons (.bin .Add ⟨210,81,210,106⟩ (.bin .Add ⟨210,81,210,95⟩ (.bin .Mult ⟨210,81,210,89⟩ (.str "(" 0 ⟨210,81,210,84⟩) (.int (59) 0 ⟨210,87,210,89⟩)) (.str "a" 0 ⟨210,92,210,95⟩)) (.bin .Mult ⟨210,98,210,106⟩ (.str ")" 0 ⟨210,98,210,101⟩) (.int (59) 0 ⟨210,104,210,106⟩))) (.nil))) (.var ⟨210,111,210,118⟩ 2 "deepest")) (.cons (.cmp .NotEq ⟨210,122,210,193⟩ (.word ⟨210,122,210,178⟩ ⟨210,122,210,131⟩ "_law_word" ⟨.function, [("read_value", .globalImplicit)], false, false, []⟩ ⟨210,132,210,177⟩ ⟨210,140,210,177⟩ ⟨210,140,210,150⟩ "read_value" 31 (.cons (.bin .Add ⟨210,151,210,176⟩ (.bin .Add ⟨210,151,210,165⟩ (.bin .Mult ⟨210,151,210,159⟩ (.str "(" 0 ⟨210,151,210,154⟩) (.int (60) 0 ⟨210,157,210,159⟩)) (.str "a" 0 ⟨210,162,210,165⟩)) (.bin .Mult ⟨210,168,210,176⟩ (.str ")" 0 ⟨210,168,210,171⟩) (.int (60) 0 ⟨210,174,210,176⟩))) (.nil))) (.tup 0 ⟨210,182,210,193⟩ (.cons (.str "text" 0 ⟨210,183,210,189⟩) (.cons (.int (0) 0 ⟨210,191,210,192⟩) (.nil))))) (.nil))))) [.ret ⟨211,8,211,20⟩ (.bl false 0 ⟨211,15,211,20⟩)] [], .fr ⟨212,4,214,24⟩ (.nm ⟨212,8,212,13⟩ 10 "thing") (.val (.lst ⟨212,17,212,214⟩ (.cons (.non 0 ⟨212,18,212,22⟩) (.cons (.int (5) 0 ⟨212,24,212,25⟩) (.cons (.str "" 0 ⟨212,27,212,29⟩) (.cons (.str " " 0 ⟨212,31,212,34⟩) (.cons (.str "A" 0 ⟨212,36,212,39⟩) (.cons (.str "a b" 0 ⟨212,41,212,46⟩) (.cons (.str "01" 0 ⟨212,48,212,52⟩) (.cons (.str "-0" 0 ⟨212,54,212,58⟩) (.cons (.str "--1" 0 ⟨212,60,212,65⟩) (.cons (.str "+1" 0 ⟨212,67,212,71⟩) (.cons (.str "1000000000000" 0 ⟨212,73,212,88⟩) (.cons (.str "(" 0 ⟨212,90,212,93⟩) (.cons (.str ")" 0 ⟨212,95,212,98⟩) (.cons (.str "(a" 0 ⟨212,100,212,104⟩) (.cons (.str "a)" 0 ⟨212,106,212,110⟩) (.cons (.str "(a))" 0 ⟨212,112,212,118⟩) (.cons (.str "( a)" 0 ⟨212,120,212,126⟩) (.cons (.str "(a )" 0 ⟨212,128,212,134⟩) (.cons (.str "(a  b)" 0 ⟨212,136,212,144⟩) (.cons (.str "()()" 0 ⟨212,146,212,152⟩) (.cons (.str "(a)(b)" 0 ⟨212,154,212,162⟩) (.cons (.str "a()" 0 ⟨212,164,212,169⟩) (.cons (.str "1a" 0 ⟨212,171,212,175⟩) (.cons (.str "a1" 0 ⟨212,177,212,181⟩) (.cons (.str "- 1" 0 ⟨212,183,212,188⟩) (.cons (.str "(-)-" 0 ⟨212,190,212,196⟩) (.cons (.str "(a\nb)" 0 ⟨212,198,212,206⟩) (.cons (.str "1/2" 0 ⟨212,208,212,213⟩) (.nil))))))))))))))))))))))))))))))) [.ife ⟨213,8,214,24⟩ (.cmp .NotEq ⟨213,11,213,62⟩ (.word ⟨213,11,213,47⟩ ⟨213,11,213,20⟩ "_law_word" ⟨.function, [("thing", .free), ("read_value", .globalImplicit)], false, false, []⟩ ⟨213,21,213,46⟩ ⟨213,29,213,46⟩ ⟨213,29,213,39⟩ "read_value" 31 (.cons (.var ⟨213,40,213,45⟩ 10 "thing") (.nil))) (.tup 0 ⟨213,51,213,62⟩ (.cons (.str "text" 0 ⟨213,52,213,58⟩) (.cons (.int (0) 0 ⟨213,60,213,61⟩) (.nil))))) [.ret ⟨214,12,214,24⟩ (.bl false 0 ⟨214,19,214,24⟩)] []], .fr ⟨215,4,226,24⟩ (.nm ⟨215,8,215,12⟩ 3 "turn") (.rng ⟨215,16,215,47⟩ ⟨215,16,215,21⟩ (.bin .Add ⟨215,22,215,46⟩ (.int (8) 0 ⟨215,22,215,23⟩) (.bi ⟨215,26,215,46⟩ ⟨215,26,215,29⟩ .min (.cons (.bi ⟨215,30,215,41⟩ ⟨215,30,215,33⟩ .len (.cons (.var ⟨215,34,215,40⟩ 0 "script") (.nil))) (.cons (.int (10) 0 ⟨215,43,215,45⟩) (.nil)))))) [.par ⟨216,8,216,75⟩ ⟨216,8,216,18⟩ ⟨216,21,216,75⟩ ⟨216,8,216,11⟩ ⟨216,13,216,18⟩ 0 0 4 5 "one" "other" (.call ⟨216,22,216,47⟩ ⟨216,22,216,37⟩ "_law_some_value" 42 (.cons (.var ⟨216,38,216,43⟩ 1 "state") (.cons (.int (3) 0 ⟨216,45,216,46⟩) (.nil)))) (.call ⟨216,49,216,74⟩ ⟨216,49,216,64⟩ "_law_some_value" 42 (.cons (.var ⟨216,65,216,70⟩ 1 "state") (.cons (.int (3) 0 ⟨216,72,216,73⟩) (.nil)))), .asg ⟨217,8,217,35⟩ ⟨217,8,217,12⟩ 6 "text" (.call ⟨217,15,217,35⟩ ⟨217,15,217,30⟩ "_law_value_text" 39 (.cons (.var ⟨217,31,217,34⟩ 4 "one") (.nil))), .ife ⟨218,8,219,24⟩ (.or ⟨218,11,218,174⟩ (.cons (.not ⟨218,11,218,45⟩ (.call ⟨218,15,218,45⟩ ⟨218,15,218,22⟩ "_law_is" 38 (.cons (.call ⟨218,23,218,38⟩ ⟨218,23,218,33⟩ "value_text" 27 (.cons (.var ⟨218,34,218,37⟩ 4 "one") (.nil))) (.cons (.var ⟨218,40,218,44⟩ 6 "text") (.nil))))) (.cons (.not ⟨218,49,218,83⟩ (.call ⟨218,53,218,83⟩ ⟨218,53,218,60⟩ "_law_is" 38 (.cons (.call ⟨218,61,218,77⟩ ⟨218,61,218,71⟩ "read_value" 31 (.cons (.var ⟨218,72,218,76⟩ 6 "text") (.nil))) (.cons (.var ⟨218,79,218,82⟩ 4 "one") (.nil))))) (.cons (.not ⟨218,88,218,127⟩ (.call ⟨218,92,218,127⟩ ⟨218,92,218,99⟩ "_law_is" 38 (.cons (.callK ⟨218,100,218,121⟩ ⟨218,100,218,110⟩ "read_value" 31 "text" ⟨218,111,218,120⟩ (.var ⟨218,116,218,120⟩ 6 "text")) (.cons (.var ⟨218,123,218,126⟩ 4 "one") (.nil))))) (.cons (.not ⟨218,133,218,173⟩ (.call ⟨218,137,218,173⟩ ⟨218,137,218,144⟩ "_law_is" 38 (.cons (.callK ⟨218,145,218,166⟩ ⟨218,145,218,155⟩ "value_text" 27 "value" ⟨218,156,218,165⟩ (.var ⟨218,162,218,165⟩ 4 "one")) (.cons (.var ⟨218,168,218,172⟩ 6 "text") (.nil))))) (.nil)))))) [.ret ⟨219,12,219,24⟩ (.bl false 0 ⟨219,19,219,24⟩)] [], .ife ⟨220,8,221,24⟩ (.cmp .NotEq ⟨220,11,220,67⟩ (.cmp .Eq ⟨220,12,220,48⟩ (.call ⟨220,12,220,27⟩ ⟨220,12,220,22⟩ "value_text" 27 (.cons (.var ⟨220,23,220,26⟩ 4 "one") (.nil))) (.call ⟨220,31,220,48⟩ ⟨220,31,220,41⟩ "value_text" 27 (.cons (.var ⟨220,42,220,47⟩ 5 "other") (.nil)))) (.cmp .Eq ⟨220,54,220,66⟩ (.var ⟨220,54,220,57⟩ 4 "one") (.var ⟨220,61,220,66⟩ 5 "other"))) [.ret ⟨221,12,221,24⟩ (.bl false 0 ⟨221,19,221,24⟩)] [], .asg ⟨222,8,222,44⟩ ⟨222,8,222,10⟩ 7 "at" (.call ⟨222,13,222,44⟩ ⟨222,13,222,22⟩ "_law_draw" 35 (.cons (.var ⟨222,23,222,28⟩ 1 "state") (.cons (.bin .Add ⟨222,30,222,43⟩ (.bi ⟨222,30,222,39⟩ ⟨222,30,222,33⟩ .len (.cons (.var ⟨222,34,222,38⟩ 6 "text") (.nil))) (.int (1) 0 ⟨222,42,222,43⟩)) (.nil)))), .asg ⟨223,8,223,124⟩ ⟨223,8,223,12⟩ 9 "bent" (.call ⟨223,15,223,124⟩ ⟨223,15,223,24⟩ "_law_pick" 36 (.cons (.var ⟨223,25,223,30⟩ 1 "state") (.cons (.lst ⟨223,32,223,123⟩ (.cons (.bin .Add ⟨223,33,223,95⟩ (.bin .Add ⟨223,33,223,83⟩ (.slH ⟨223,33,223,42⟩ ⟨223,38,223,41⟩ (.var ⟨223,33,223,37⟩ 6 "text") (.var ⟨223,39,223,41⟩ 7 "at")) (.call ⟨223,45,223,83⟩ ⟨223,45,223,54⟩ "_law_pick" 36 (.cons (.var ⟨223,55,223,60⟩ 1 "state") (.cons (.lst ⟨223,62,223,82⟩ (.cons (.str "(" 0 ⟨223,63,223,66⟩) (.cons (.str ")" 0 ⟨223,68,223,71⟩) (.cons (.str " " 0 ⟨223,73,223,76⟩) (.cons (.str "A" 0 ⟨223,78,223,81⟩) (.nil)))))) (.nil))))) (.slL ⟨223,86,223,95⟩ ⟨223,91,223,94⟩ (.var ⟨223,86,223,90⟩ 6 "text") (.var ⟨223,91,223,93⟩ 7 "at"))) (.cons (.bin .Add ⟨223,97,223,122⟩ (.slH ⟨223,97,223,106⟩ ⟨223,102,223,105⟩ (.var ⟨223,97,223,101⟩ 6 "text") (.var ⟨223,103,223,105⟩ 7 "at")) (.slL ⟨223,109,223,122⟩ ⟨223,114,223,121⟩ (.var ⟨223,109,223,113⟩ 6 "text") (.bin .Add ⟨223,114,223,120⟩ (.var ⟨223,114,223,116⟩ 7 "at") (.int (1) 0 ⟨223,119,223,120⟩)))) (.nil)))) (.nil)))), .asg ⟨224,8,224,50⟩ ⟨224,8,224,12⟩ 8 "told" (.word ⟨224,15,224,50⟩ ⟨224,15,224,24⟩ "_law_word" ⟨.function, [("bent", .free), ("read_value", .globalImplicit)], false, false, []⟩ ⟨224,25,224,49⟩ ⟨224,33,224,49⟩ ⟨224,33,224,43⟩ "read_value" 31 (.cons (.var ⟨224,44,224,48⟩ 9 "bent") (.nil))), .ife ⟨225,8,226,24⟩ (.and ⟨225,11,225,90⟩ (.cons (.cmp .NotEq ⟨225,11,225,30⟩ (.var ⟨225,11,225,15⟩ 8 "told") (.tup 0 ⟨225,19,225,30⟩ (.cons (.str "text" 0 ⟨225,20,225,26⟩) (.cons (.int (0) 0 ⟨225,28,225,29⟩) (.nil))))) (.cons (.or ⟨225,36,225,89⟩ (.cons (.not ⟨225,36,225,56⟩ (.call ⟨225,40,225,56⟩ ⟨225,40,225,50⟩ "_law_plain" 37 (.cons (.var ⟨225,51,225,55⟩ 8 "told") (.nil)))) (.cons (.cmp .NotEq ⟨225,60,225,89⟩ (.call ⟨225,60,225,81⟩ ⟨225,60,225,75⟩ "_law_value_text" 39 (.cons (.var ⟨225,76,225,80⟩ 8 "told") (.nil))) (.var ⟨225,85,225,89⟩ 9 "bent")) (.nil)))) (.nil)))) [.ret ⟨226,12,226,24⟩ (.bl false 0 ⟨226,19,226,24⟩)] []], .ret ⟨227,4,227,15⟩ (.bl true 0 ⟨227,11,227,15⟩)]⟩
def gN : Nat → Option Str
  | 19 => some "MOST_DEEP"
  | 20 => some "MOST_FIGURES"
  | 21 => some "MOST_NUMBER"
  | 22 => some "SMALL"
  | 23 => some "FIGURES"
  | _ => none
def fN : Nat → Option (Str × Nat)
  | 24 => some ("is_word", 1)
  | 25 => some ("is_figure", 1)
  | 26 => some ("is_value", 1)
  | 27 => some ("value_text", 1)
  | 28 => some ("pieces_of", 1)
  | 29 => some ("plain_of", 1)
  | 30 => some ("value_of", 1)
  | 31 => some ("read_value", 1)
  | 33 => some ("_law_begun", 1)
  | 34 => some ("_law_mixed", 1)
  | 35 => some ("_law_draw", 2)
  | 36 => some ("_law_pick", 2)
  | 37 => some ("_law_plain", 1)
  | 38 => some ("_law_is", 2)
  | 39 => some ("_law_value_text", 1)
  | 42 => some ("_law_some_value", 2)
  | 43 => some ("_law_nested", 2)
  | _ => none
def fP : Nat → Option Str
  | 27 => some "value"
  | 31 => some "text"
  | _ => none
def cN : Nat → Option (Str × Nat)
  | 14 => some ("NoText", 2)
  | _ => none
def Tb : Tab := ⟨gN, fN, fP, cN, some "_law_word"⟩
def Pd : Nat → Option Fd
  | 24 => some d24
  | 25 => some d25
  | 26 => some d26
  | 27 => some d27
  | 28 => some d28
  | 29 => some d29
  | 30 => some d30
  | 31 => some d31
  | 33 => some d33
  | 34 => some d34
  | 35 => some d35
  | 36 => some d36
  | 37 => some d37
  | 38 => some d38
  | 39 => some d39
  | 42 => some d42
  | 43 => some d43
  | 44 => some d44
  | _ => none
theorem u24 : unSs d24.body = defBody (topC 24) := by rfl
theorem w24 : wfSs Tb.off d24.N (defScope (topC 24)) d24.body = true := by decide +kernel
theorem u25 : unSs d25.body = defBody (topC 25) := by rfl
theorem w25 : wfSs Tb.off d25.N (defScope (topC 25)) d25.body = true := by decide +kernel
theorem u26 : unSs d26.body = defBody (topC 26) := by rfl
theorem w26 : wfSs Tb.off d26.N (defScope (topC 26)) d26.body = true := by decide +kernel
theorem u27 : unSs d27.body = defBody (topC 27) := by rfl
theorem w27 : wfSs Tb.off d27.N (defScope (topC 27)) d27.body = true := by decide +kernel
theorem u28 : unSs d28.body = defBody (topC 28) := by rfl
theorem w28 : wfSs Tb.off d28.N (defScope (topC 28)) d28.body = true := by decide +kernel
theorem u29 : unSs d29.body = defBody (topC 29) := by rfl
theorem w29 : wfSs Tb.off d29.N (defScope (topC 29)) d29.body = true := by decide +kernel
theorem u30 : unSs d30.body = defBody (topC 30) := by rfl
theorem w30 : wfSs Tb.off d30.N (defScope (topC 30)) d30.body = true := by decide +kernel
theorem u31 : unSs d31.body = defBody (topC 31) := by rfl
theorem w31 : wfSs Tb.off d31.N (defScope (topC 31)) d31.body = true := by decide +kernel
theorem u33 : unSs d33.body = defBody (topC 33) := by rfl
theorem w33 : wfSs Tb.off d33.N (defScope (topC 33)) d33.body = true := by decide +kernel
theorem u34 : unSs d34.body = defBody (topC 34) := by rfl
theorem w34 : wfSs Tb.off d34.N (defScope (topC 34)) d34.body = true := by decide +kernel
theorem u35 : unSs d35.body = defBody (topC 35) := by rfl
theorem w35 : wfSs Tb.off d35.N (defScope (topC 35)) d35.body = true := by decide +kernel
theorem u36 : unSs d36.body = defBody (topC 36) := by rfl
theorem w36 : wfSs Tb.off d36.N (defScope (topC 36)) d36.body = true := by decide +kernel
theorem u37 : unSs d37.body = defBody (topC 37) := by rfl
theorem w37 : wfSs Tb.off d37.N (defScope (topC 37)) d37.body = true := by decide +kernel
theorem u38 : unSs d38.body = defBody (topC 38) := by rfl
theorem w38 : wfSs Tb.off d38.N (defScope (topC 38)) d38.body = true := by decide +kernel
theorem u39 : unSs d39.body = defBody (topC 39) := by rfl
theorem w39 : wfSs Tb.off d39.N (defScope (topC 39)) d39.body = true := by decide +kernel
theorem u42 : unSs d42.body = defBody (topC 42) := by rfl
theorem w42 : wfSs Tb.off d42.N (defScope (topC 42)) d42.body = true := by decide +kernel
theorem u43 : unSs d43.body = defBody (topC 43) := by rfl
theorem w43 : wfSs Tb.off d43.N (defScope (topC 43)) d43.body = true := by decide +kernel
theorem u44 : unSs d44.body = defBody (topC 44) := by rfl
theorem w44 : wfSs Tb d44.N (defScope (topC 44)) d44.body = true := by decide +kernel
end K8
namespace K8M
open PySem
abbrev Cs := List Nat
def small (c : Nat) : Bool := decide (97 ≤ c) && decide (c ≤ 122)
def digit (c : Nat) : Bool := decide (48 ≤ c) && decide (c ≤ 57)
def special (c : Nat) : Bool := decide (c = 40) || decide (c = 41) || decide (c = 32)
def isWord (cs : Cs) : Bool := !cs.isEmpty && cs.all small
/-- the signs of str(i) -/
def iCs (i : Int) : Cs := (Str.ofString (toString i)).cps.toList
theorem iCs_nat (n : Nat) : iCs (n : Int) = TL.numL n := TL.tl_num n
theorem iCs_neg (n : Nat) : iCs (-((n + 1 : Nat) : Int)) = 45 :: TL.numL (n + 1) := by
  have e : toString (-((n + 1 : Nat) : Int)) = "-" ++ toString ((n + 1 : Nat) : Int) := rfl
  unfold iCs
  rw [e, Str.ofString_eq_toList]
  have z := TL.tl_num (n + 1)
  unfold TL.tl at z
  rw [Str.ofString_eq_toList] at z
  simp only [String.toList_append, List.map_append] at z ⊢
  show ("-".toList.map Char.toNat ++ _) = _
  have z' : (toString ((n + 1 : Nat) : Int)).toList.map Char.toNat = TL.numL (n + 1) := z
  rw [z'] <;> rfl
theorem iCs_shape (i : Int) : (∃ n : Nat, i = n ∧ iCs i = TL.numL n) ∨ ∃ n : Nat, i = -((n + 1 : Nat) : Int) ∧ iCs i = 45 :: TL.numL (n + 1) := by
  rcases i with n | n
  · exact .inl ⟨n, rfl, iCs_nat n⟩
  · exact .inr ⟨n, rfl, iCs_neg n⟩
theorem iCs_read (i : Int) (h : (iCs i).length ≤ 4300) : intText? ⟨(iCs i).toArray⟩ = some i := by
  rcases iCs_shape i with ⟨n, e1, e2⟩ | ⟨n, e1, e2⟩
  · have z := intText_digits (x := ⟨(iCs i).toArray⟩) (by rw [e2]; exact TL.numL_digits n) (by rw [e2]; exact TL.numL_ne n) (by show (iCs i).toArray.size ≤ 4300; simpa using h)
    rw [z, e1]
    show some ((NumText.digitsVal (iCs n) : Nat) : Int) = _
    rw [iCs_nat, TL.numL_val]
  · have z := intText_neg (x := ⟨(iCs i).toArray⟩) (cs := TL.numL (n + 1)) e2 (TL.numL_digits _) (TL.numL_ne _) (by show (iCs i).toArray.size ≤ 4300; simpa using h)
    rw [z, TL.numL_val, e1]
mutual
def lvt : PyData → Cs
  | .tuple ds => 40 :: (lvtJ ds ++ [41])
  | .none => [45]
  | .str s => s.cps.toList
  | .int i => iCs i
  | .bool _ => []
  | .list _ => []
  | .dict _ => []
def lvtJ : List PyData → Cs
  | [] => []
  | d :: r => lvt d ++ lvtK r
def lvtK : List PyData → Cs
  | [] => []
  | d :: r => 32 :: (lvt d ++ lvtK r)
end
/-- a value, but for how deep it is -/
def okLeaf : PyData → Bool
  | .none => true
  | .str s => isWord s.cps.toList
  | .int i => decide (i.natAbs < 10 ^ 12)
  | _ => false
mutual
def ok : PyData → Bool
  | .tuple ds => okAll ds
  | .none => true
  | .str s => isWord s.cps.toList
  | .int i => decide (i.natAbs < 10 ^ 12)
  | .bool _ => false
  | .list _ => false
  | .dict _ => false
def okAll : List PyData → Bool
  | [] => true
  | d :: r => ok d && okAll r
end
def flush (cur : Cs) : List Cs := if cur = [] then [] else [cur]
def pcs : Cs → Cs → List Cs
  | cur, [] => flush cur
  | cur, c :: r => if special c = true then flush cur ++ [c] :: pcs [] r else pcs (cur ++ [c]) r
abbrev pieces (cs : Cs) : List Cs := pcs [] cs
theorem pcs_run : ∀ (w cur rest : Cs), w.all (fun c => !special c) = true → pcs cur (w ++ rest) = pcs (cur ++ w) rest
  | [], cur, rest, _ => by simp
  | c :: w, cur, rest, h => by
    simp only [List.all_cons, Bool.and_eq_true, Bool.not_eq_true'] at h
    show (if special c = true then _ else pcs (cur ++ [c]) (w ++ rest)) = _
    rw [if_neg (by rw [h.1]; decide), pcs_run w (cur ++ [c]) rest (by simpa using h.2), List.append_assoc] <;> rfl
/-- the rest begins with a bracket, a blank, or is empty -/
def ends : Cs → Prop
  | [] => True
  | c :: _ => special c = true
theorem pcs_end : ∀ {cur rest : Cs}, ends rest → pcs cur rest = flush cur ++ pcs [] rest
  | cur, [], _ => by simp [pcs, flush]
  | cur, c :: r, h => by
    have h' : special c = true := h
    show (if special c = true then _ else _) = flush cur ++ (if special c = true then _ else _)
    rw [if_pos h', if_pos h']
    simp [flush]
def plainOf (p : Cs) : Option PyData :=
  if p = [45] then some .none
  else if isWord p = true then some (.str ⟨p.toArray⟩)
  else if 1 ≤ (if p.take 1 = [45] then p.drop 1 else p).length ∧ (if p.take 1 = [45] then p.drop 1 else p).length ≤ 12 ∧ (if p.take 1 = [45] then p.drop 1 else p).all digit = true then
    (match intText? ⟨p.toArray⟩ with
      | some n => if iCs n = p then some (.int n) else none
      | none => none)
  else none
def put (k : List (List PyData) → List PyData → List PyData) (v : PyData) (st : List (List PyData)) (done : List PyData) : List PyData :=
  match st with
  | [] => if done = [] then k [] [v] else []
  | t :: st => k ((t ++ [v]) :: st) done
def vof : List Cs → List (List PyData) → List PyData → List PyData
  | [], st, done => match st with
    | [] => done
    | _ :: _ => []
  | p :: r, st, done =>
    if p = [40] then vof r ([] :: st) done
    else if p = [32] then vof r st done
    else if p = [41] then match st with
      | [] => []
      | t :: st => put (vof r) (.tuple t) st done
    else match plainOf p with
      | some v => put (vof r) v st done
      | none => []
theorem small_range {c : Nat} (h : small c = true) : 97 ≤ c ∧ c ≤ 122 := by
  unfold small at h
  simpa using h
theorem word_plain {cs : Cs} (h : isWord cs = true) : cs ≠ [] ∧ ∀ c ∈ cs, 97 ≤ c ∧ c ≤ 122 := by
  unfold isWord at h
  simp only [Bool.and_eq_true, Bool.not_eq_true', List.isEmpty_eq_false_iff, List.all_eq_true] at h
  exact ⟨h.1, fun c hc => small_range (h.2 c hc)⟩
theorem nospecial {cs : Cs} (h : ∀ c ∈ cs, 45 ≤ c) : cs.all (fun c => !special c) = true := by
  rw [List.all_eq_true]
  intro c hc
  have := h c hc
  unfold special
  simp only [Bool.not_eq_true', Bool.or_eq_false_iff, decide_eq_false_iff_not]
  omega
/-- a leaf's signs -/
structure Leaf (d : PyData) : Prop where
  ne : lvt d ≠ []
  big : ∀ c ∈ lvt d, 45 ≤ c
  read : plainOf (lvt d) = some d
theorem head_ne {cs : Cs} {c : Nat} (hne : cs ≠ []) (h : ∀ x ∈ cs, x ≠ c) : cs ≠ [c] := fun e => h c (by rw [e]; exact List.mem_singleton.mpr rfl) rfl
theorem leaf_none : Leaf .none := ⟨by simp [lvt], by simp [lvt], by simp [lvt, plainOf]⟩
theorem leaf_word {s : Str} (h : isWord s.cps.toList = true) : Leaf (.str s) := by
  obtain ⟨h1, h2⟩ := word_plain h
  refine ⟨by simpa [lvt] using h1, fun c hc => by have := h2 c (by simpa [lvt] using hc); omega, ?_⟩
  show plainOf s.cps.toList = _
  unfold plainOf
  rw [if_neg (head_ne h1 fun x hx e => by have := h2 x hx; omega), if_pos h]
theorem all_digit {cs : Cs} (h : NumText.AllDigits cs) : cs.all digit = true := by
  rw [List.all_eq_true]
  intro c hc
  have := h c hc
  unfold digit
  simp only [Bool.and_eq_true, decide_eq_true_eq]
  exact this
theorem noword {cs : Cs} {c : Nat} (hc : c ∈ cs) (h : c < 97) : isWord cs = false := by
  cases e : isWord cs with
  | false => rfl
  | true =>
    have := (word_plain e).2 c hc
    omega
theorem len12 {n : Nat} (h : n < 10 ^ 12) : (TL.numL n).length ≤ 12 := TL.numL_len (by decide) h
theorem leaf_int {i : Int} (h : i.natAbs < 10 ^ 12) : Leaf (.int i) := by
  have key : (iCs i) ≠ [] ∧ (∀ c ∈ iCs i, 45 ≤ c ∧ c < 97) ∧ (iCs i).length ≤ 13 ∧ iCs i ≠ [45] ∧ (1 ≤ (if (iCs i).take 1 = [45] then (iCs i).drop 1 else iCs i).length ∧ (if (iCs i).take 1 = [45] then (iCs i).drop 1 else iCs i).length ≤ 12 ∧ (if (iCs i).take 1 = [45] then (iCs i).drop 1 else iCs i).all digit = true) := by
    rcases iCs_shape i with ⟨n, e1, e2⟩ | ⟨n, e1, e2⟩
    · have hn : n < 10 ^ 12 := by omega
      have l := len12 hn
      have ne := TL.numL_ne n
      have ds := TL.numL_digits n
      have nt : (TL.numL n).take 1 ≠ [45] := fun e => by
        have z : 45 ∈ TL.numL n := List.mem_of_mem_take (by rw [e]; exact List.mem_singleton.mpr rfl)
        have := ds 45 z
        omega
      rw [e2, if_neg nt]
      refine ⟨ne, fun c hc => ?_, by omega, fun e => nt (by rw [e] <;> rfl), ?_, l, all_digit ds⟩
      · have := ds c hc
        omega
      · cases q : TL.numL n with
        | nil => exact absurd q ne
        | cons _ _ => simp
    · have hn : n + 1 < 10 ^ 12 := by omega
      have l := len12 hn
      have ne := TL.numL_ne (n + 1)
      have ds := TL.numL_digits (n + 1)
      rw [e2, if_pos (show (45 :: TL.numL (n + 1)).take 1 = [45] from rfl)]
      refine ⟨by simp, fun c hc => ?_, by simp; omega, fun e => ne (by simpa using e), ?_, l, all_digit ds⟩
      · rcases List.mem_cons.mp hc with e | hc
        · omega
        · have := ds c hc
          omega
      · show 1 ≤ (TL.numL (n + 1)).length
        cases q : TL.numL (n + 1) with
        | nil => exact absurd q ne
        | cons _ _ => simp
  obtain ⟨k1, k2, k3, k4, k5⟩ := key
  refine ⟨by simpa [lvt] using k1, fun c hc => (k2 c (by simpa [lvt] using hc)).1, ?_⟩
  show plainOf (iCs i) = _
  have nw : ¬ isWord (iCs i) = true := by
    cases q : iCs i with
    | nil => exact absurd q k1
    | cons c r => rw [noword (c := c) List.mem_cons_self (by have := (k2 c (by rw [q]; exact List.mem_cons_self)).2; omega)]; decide
  unfold plainOf
  rw [if_neg k4, if_neg nw, if_pos k5, iCs_read i (by omega)]
  show (if iCs i = iCs i then some (PyData.int i) else none) = _
  rw [if_pos rfl]
mutual
/-- the pieces of a value's text -/
def toks : PyData → List Cs
  | .tuple ds => [40] :: (toksJ ds ++ [[41]])
  | .none => [lvt .none]
  | .str s => [lvt (.str s)]
  | .int i => [lvt (.int i)]
  | .bool b => [lvt (.bool b)]
  | .list l => [lvt (.list l)]
  | .dict l => [lvt (.dict l)]
def toksJ : List PyData → List Cs
  | [] => []
  | d :: r => toks d ++ toksK r
def toksK : List PyData → List Cs
  | [] => []
  | d :: r => [32] :: (toks d ++ toksK r)
end
theorem pcs_leaf {d : PyData} (L : Leaf d) {rest : Cs} (h : ends rest) : pcs [] (lvt d ++ rest) = [lvt d] ++ pcs [] rest := by
  rw [pcs_run _ _ _ (nospecial L.big), pcs_end h]
  simp [flush, L.ne]
theorem lvtK_ends : ∀ {r : List PyData} {rest : Cs}, ends (lvtK r ++ 41 :: rest)
  | [], rest => by
    show special 41 = true
    decide
  | d :: r, rest => by
    show special 32 = true
    decide
mutual
theorem pcs_val : ∀ (d : PyData), ok d = true → ∀ rest : Cs, ends rest → pcs [] (lvt d ++ rest) = toks d ++ pcs [] rest
  | .none, _, rest, h => pcs_leaf leaf_none h
  | .str s, o, rest, h => pcs_leaf (leaf_word o) h
  | .int i, o, rest, h => pcs_leaf (leaf_int (by simpa [ok] using o)) h
  | .tuple ds, o, rest, h => by
    have e : lvt (.tuple ds) ++ rest = 40 :: (lvtJ ds ++ 41 :: rest) := by simp [lvt]
    rw [e]
    show (if special 40 = true then _ else _) = _
    rw [if_pos (by decide), pcs_valJ ds o]
    show flush [] ++ [40] :: (toksJ ds ++ (if special 41 = true then _ else _)) = _
    rw [if_pos (by decide)]
    simp [flush, toks]
theorem pcs_valJ : ∀ (ds : List PyData), okAll ds = true → ∀ rest : Cs, pcs [] (lvtJ ds ++ 41 :: rest) = toksJ ds ++ pcs [] (41 :: rest)
  | [], _, rest => by simp [lvtJ, toksJ]
  | d :: r, o, rest => by
    simp only [okAll, Bool.and_eq_true] at o
    have e : lvtJ (d :: r) ++ 41 :: rest = lvt d ++ (lvtK r ++ 41 :: rest) := by simp [lvtJ]
    rw [e, pcs_val d o.1 _ lvtK_ends, pcs_valK r o.2]
    simp [toksJ]
theorem pcs_valK : ∀ (ds : List PyData), okAll ds = true → ∀ rest : Cs, pcs [] (lvtK ds ++ 41 :: rest) = toksK ds ++ pcs [] (41 :: rest)
  | [], _, rest => by simp [lvtK, toksK]
  | d :: r, o, rest => by
    simp only [okAll, Bool.and_eq_true] at o
    have e : lvtK (d :: r) ++ 41 :: rest = 32 :: (lvt d ++ (lvtK r ++ 41 :: rest)) := by simp [lvtK]
    rw [e]
    show (if special 32 = true then _ else _) = _
    rw [if_pos (by decide), pcs_val d o.1 _ lvtK_ends, pcs_valK r o.2]
    simp [flush, toksK]
end
theorem vof_leaf {d : PyData} (L : Leaf d) (r : List Cs) (st : List (List PyData)) (done : List PyData) : vof ([lvt d] ++ r) st done = put (vof r) d st done := by
  have n40 : lvt d ≠ [40] := head_ne L.ne fun x hx e => by have := L.big x hx; omega
  have n32 : lvt d ≠ [32] := head_ne L.ne fun x hx e => by have := L.big x hx; omega
  have n41 : lvt d ≠ [41] := head_ne L.ne fun x hx e => by have := L.big x hx; omega
  show (if lvt d = [40] then _ else _) = _
  rw [if_neg n40, if_neg n32, if_neg n41, L.read]
  rfl
mutual
theorem vof_val : ∀ (d : PyData), ok d = true → ∀ (r : List Cs) (st : List (List PyData)) (done : List PyData), vof (toks d ++ r) st done = put (vof r) d st done
  | .none, _, r, st, done => vof_leaf leaf_none r st done
  | .str s, o, r, st, done => vof_leaf (leaf_word o) r st done
  | .int i, o, r, st, done => vof_leaf (leaf_int (by simpa [ok] using o)) r st done
  | .tuple ds, o, r, st, done => by
    have e : toks (.tuple ds) ++ r = [40] :: (toksJ ds ++ [41] :: r) := by simp [toks]
    rw [e]
    show (if ([40] : Cs) = [40] then vof (toksJ ds ++ [41] :: r) ([] :: st) done else _) = _
    rw [if_pos rfl, vof_valJ ds o [41] r [] st done]
    show (if ([41] : Cs) = [40] then _ else if ([41] : Cs) = [32] then _ else if ([41] : Cs) = [41] then _ else _) = _
    rw [if_neg (by decide), if_neg (by decide), if_pos rfl]
    simp
theorem vof_valJ : ∀ (ds : List PyData), okAll ds = true → ∀ (p : Cs) (r : List Cs) (t : List PyData) (st : List (List PyData)) (done : List PyData), vof (toksJ ds ++ p :: r) (t :: st) done = vof (p :: r) ((t ++ ds) :: st) done
  | [], _, p, r, t, st, done => by simp [toksJ]
  | d :: ds, o, p, r, t, st, done => by
    simp only [okAll, Bool.and_eq_true] at o
    have e : toksJ (d :: ds) ++ p :: r = toks d ++ (toksK ds ++ p :: r) := by simp [toksJ]
    rw [e, vof_val d o.1]
    show vof (toksK ds ++ p :: r) ((t ++ [d]) :: st) done = _
    rw [vof_valK ds o.2, List.append_assoc] <;> rfl
theorem vof_valK : ∀ (ds : List PyData), okAll ds = true → ∀ (p : Cs) (r : List Cs) (t : List PyData) (st : List (List PyData)) (done : List PyData), vof (toksK ds ++ p :: r) (t :: st) done = vof (p :: r) ((t ++ ds) :: st) done
  | [], _, p, r, t, st, done => by simp [toksK]
  | d :: ds, o, p, r, t, st, done => by
    simp only [okAll, Bool.and_eq_true] at o
    have e : toksK (d :: ds) ++ p :: r = [32] :: (toks d ++ (toksK ds ++ p :: r)) := by simp [toksK]
    rw [e]
    show (if ([32] : Cs) = [40] then _ else if ([32] : Cs) = [32] then vof (toks d ++ (toksK ds ++ p :: r)) (t :: st) done else _) = _
    rw [if_neg (by decide), if_pos rfl, vof_val d o.1]
    show vof (toksK ds ++ p :: r) ((t ++ [d]) :: st) done = _
    rw [vof_valK ds o.2, List.append_assoc] <;> rfl
end
/-- THE LAW: what is written is read again -/
theorem read_back {d : PyData} (o : ok d = true) : vof (pieces (lvt d)) [] [] = [d] := by
  have h := pcs_val d o [] True.intro
  rw [List.append_nil] at h
  show vof (pcs [] (lvt d)) [] [] = [d]
  rw [h, vof_val d o]
  show (if ([] : List PyData) = [] then vof (flush []) [] [d] else []) = _
  rw [if_pos rfl] <;> rfl
theorem lvt_inj {d e : PyData} (hd : ok d = true) (he : ok e = true) (h : lvt d = lvt e) : d = e := by
  have h1 := read_back hd
  rw [h, read_back he] at h1
  exact (List.cons.inj h1).1.symm
end K8M
namespace K8
open L2 PyProof.Rows PySem.Calls PySem.Spec PySem Ev Sb LamX
abbrev Nc : List Str := ["action", "found", "error"]
theorem scC : FnScope Nc ["action"] (defScope (topC 40)) := ⟨rfl, rfl, rfl, by decide +kernel, rfl, by decide +kernel, by decide +kernel⟩
/-- what is wanted of the action, while the list found stands at p -/
def tCaught (tb : XK → TE) (K : PySem.W.Frag) (se : Value) : L2.St → Hp → VK → Prop := fun σ H Q => ∀ p, H p = none →
  tb (fun cls d H' => PySem.W.exmOne K cls se = some true ∧ H' p = some (.lst []) ∧ ∀ a b, H' a = none → upd (upd H' p (.lst [.ref a])) a (ExV cls d a) b = none → Q (.ref a) (upd (upd (upd H' p (.lst [.ref a])) a (ExV cls d a)) b (.lst []))) σ (upd H p (.lst []))
    fun _ H' => H' p = some (.lst []) ∧ ∀ b, H' b = none → Q .non (upd H' b (.lst []))
section
variable {CX : CXT} {X1 : Cx} {pins1 : List (Addr × Obj)} {σ1 : L2.St} {H1 : Hp} {s1 : Shared} {body : Expr} {scope : Scope} {f c g : Addr} {cdv se : Value} {k : Nat} {tb : XK → TE}
abbrev XC (X1 : Cx) (s1 : Shared) (H1 : Hp) (g : Addr) (cdv : Value) : Cx := (cxOf (L2.CX X1.prog X1.w) X1.prog X1.w X1.K X1.mg X1.base Nc "_law_caught" (defScope (topC 40)) g cdv X1.A X1.stack s1 H1 E0).nox
def TMono (tb : XK → TE) : Prop := ∀ (E E' : XK) (σ : L2.St) (H : Hp) (Q Q' : VK), tb E σ H Q → (∀ c d H, E c d H → E' c d H) → (∀ v H, Q v H → Q' v H) → tb E' σ H Q'
theorem caught_run (tm : TMono tb) (M : LamH X1 pins1 σ1 H1 s1 noArgs body scope f c) (hr : Room (k + 2) X1.A) (hse : X1.mg "SetError" = some se)
    (hbody : ∀ (E : XK) (sY : Shared) (HY : Hp), Un (frs X1.stack) [] H1 HY s1.heap sY.heap → Room k ((XC X1 s1 H1 g cdv).A.deeper (lamEnv X1 scope sY.heap.objs.size f c)) → PE (lamCx X1 (XC X1 s1 H1 g cdv).A (XC X1 s1 H1 g cdv).stack sY HY E scope f c) body (tb E)) :
    ∃ t, PSs (XC X1 s1 H1 g cdv) (defBody (topC 40)) t ∧ ∀ Q, tCaught tb X1.K se σ1 H1 Q → t { nx := fun _ H' => Q .non H', rt := Q } (L2.start Nc [.ref f]) H1 := by
  have hu : (XC X1 s1 H1 g cdv).A.units < cLine := by
    have := (hr.deeper (envOfC "_law_caught" (defScope (topC 40)) s1.heap.objs.size g cdv)).un
    show (X1.A.deeper _).units < _
    omega
  refine ⟨_, pss_cons (ps_set (i := 1) scC.nd rfl (.inl rfl) (pe_lst pa_nil)) (pss_cons (ps_try_val (i := 2) (n := "error") (c := se) (ts := fun a => tDrop (tBM X1.K "list" rAppend (tVar 1) (tCons (tVar 2) tNil))) rfl rfl rfl scC.nd rfl (by rfl) ⟨rfl, by decide, .inl hse⟩
    (fun W pn xe tk po => pss_one (ps_expr (pe_lam (X := X1) (k := k) (i := 0) (tb := tb) M tk (hr.deeper _) Un.refl (fun b h1 h2 => absurd h1 h2) hbody rfl (.inl rfl))))
    fun a oe cls d pn z => pss_one (ps_expr (pe_bm (X := (XC X1 s1 H1 g cdv).suite a ((a, oe) :: pn)) PySem.F.plainAttrs_list PySem.F.slot_list_append PySem.F.type_list_append mt_append (pv 1) (pa_cons (pv 2) pa_nil))))
    (pss_one (ps_ret (pe_ifExp (pt_cmpR (op_neEmp hu) (pv 1) (pe_lst pa_nil) rfl) (pe_ix ix_list (pv 1) pe_int fun _ _ => rfl) pe_non)))), ?_⟩
  intro Q h
  refine ⟨Nat.zero_le _, fun p np => ?_⟩
  have h := h p np
  have hc := M.code
  refine ⟨rfl, (upd_ne (fun z => by rw [z, np] at hc; cases hc)).trans hc, tm _ _ _ _ _ _ h (fun cls d H' ⟨e1, e2, e3⟩ => ⟨e1, fun a na => ?_⟩) fun v H' ⟨e2, e3⟩ => ?_⟩
  · have ne : p ≠ a := fun z => by rw [z, na] at e2; cases e2
    refine ⟨.ref p, rfl, .inl ⟨rfl, _, .of e2⟩, .ref a, rfl, p, [], .ref a, rfl, rfl, e2, by rw [sizeLine_eq]; decide, .ref p, rfl, Nat.zero_le _, fun b nb => ⟨p, b, [.ref a], rfl, rfl, ?_, upd_same, true, rfl, ?_⟩⟩
    · have n2 : p ≠ b := fun z => by
        have nb' : upd (upd H' p (.lst [.ref a])) a (ExV cls d a) b = none := nb
        rw [← z, upd_ne ne, upd_same] at nb'
        cases nb'
      show upd (upd (upd H' p (.lst [.ref a])) a (ExV cls d a)) b (.lst []) p = some (.lst [.ref a])
      rw [upd_ne n2, upd_ne ne, upd_same]
    · refine ⟨.ref p, rfl, p, [.ref a], 0, .ref a, rfl, rfl, .of ?_, rfl, e3 a b na nb⟩
      have n2 : p ≠ b := fun z => by
        have nb' : upd (upd H' p (.lst [.ref a])) a (ExV cls d a) b = none := nb
        rw [← z, upd_ne ne, upd_same] at nb'
        cases nb'
      show upd (upd (upd H' p (.lst [.ref a])) a (ExV cls d a)) b (.lst []) p = some (.lst [.ref a])
      rw [upd_ne n2, upd_ne ne, upd_same]
  · refine ⟨.ref p, rfl, Nat.zero_le _, fun b nb => ⟨p, b, [], rfl, rfl, ?_, upd_same, false, rfl, e3 b nb⟩⟩
    have n2 : p ≠ b := fun z => by
      have nb' : H' b = none := nb
      rw [← z, e2] at nb'
      cases nb'
    exact (upd_ne n2).trans e2
end
abbrev Nw : List Str := ["action", "told", "error", "word", "is_one"]
theorem scW : FnScope Nw ["action"] (defScope (topC 41)) := ⟨rfl, rfl, rfl, by decide +kernel, rfl, by decide +kernel, by decide +kernel⟩
abbrev XW (X : Cx) (s : Shared) (H : Hp) (g : Addr) (cdv : Value) : Cx := (cxOf (L2.CX X.prog X.w) X.prog X.w X.K X.mg X.base Nw "_law_word" (defScope (topC 41)) g cdv X.A X.stack s H E0).nox
def XdAt (H : Hp) (fs : List (Str × V)) : Option Addr → Prop
  | some d => H d = some (.xd fs)
  | none => fs = []
structure ErrAt (σ : L2.St) (H : Hp) (a C : Addr) (d : Option Addr) (fs : List (Str × V)) : Prop where
  sl : σ[2]? = some (some (.ref a))
  ea : H a = some (ExV (.ref C) d a)
  ed : XdAt H fs d
/-- isinstance(e, c), e an error value -/
def rIsW (K : PySem.W.Frag) : List V → Hp → VK → Prop := fun xs H Q => ∃ (a D : Addr) (d : Option Addr) (fs : List (Str × V)) (c : V) (cv : Value) (b : Bool), xs = [.ref a, c] ∧ H a = some (ExV (.ref D) d a) ∧ XdAt H fs d ∧ ExcC K D ∧
  (∀ u, RelV c u → u = cv) ∧ PySem.W.kitOne K (.ref D) cv = some b ∧ Q (.bl b) H
theorem call_isW {X : Cx} : CallR X (.builtin "isinstance") (rIsW X.K) := by
  intro pins s σ H xs us Q I r h
  obtain ⟨a, D, d, fs, c, cv, b, rfl, ea, ed, C, hcv, e, q⟩ := h
  cases d with
  | some d => exact call_isV pins s σ H _ us Q I r ⟨a, D, d, fs, c, cv, b, rfl, ea, ed, C, hcv, e, q⟩
  | none =>
    cases r with
    | cons ru r =>
      cases r with
      | cons rv r =>
        cases r
        cases ru
        obtain rfl := hcv _ rv
        obtain ⟨oe, vs, h1, h2, h3⟩ := exV_at I.hok ea
        have J : PySem.W.InstAt s.heap a oe D none := ⟨h1, h2.1, by unfold PySem.W.notCls; rw [h3] <;> rfl, by rw [h2.2]; trivial⟩
        exact PySem.W.kia_one (kitV C) I.kIn ⟨oe, none, J⟩ e (fun z => nomatch z) fun tk => ⟨.bl b, H, I.kept (t' := tk) fun _ _ z => z, rfl, q⟩
def tIsE (K : PySem.W.Frag) (ct : Addr) : TE := fun σ H Q => ∃ a C d fs b, ErrAt σ H a C d fs ∧ ExcC K C ∧ PySem.W.kitOne K (.ref C) (.ref ct) = some b ∧ Q (.bl b) H
section
variable {X : Cx} {s : Shared} {H : Hp} {g : Addr} {cdv : Value}
theorem pe_isE {t : Str} {ct : Addr} {p p2 p3 p4 : Pos} (hi : X.mg "isinstance" = none) (ht : X.mg t = some (.ref ct)) (hg : Gl (XW X s H g cdv) t) (hd : (t == ("__debug__" : Str)) = false) : PE (XW X s H g cdv) (.Call (.Name "isinstance" p) [.Name "error" p2, .Name t p3] [] p4) (tIsE X.K ct) := by
  refine PE_imp (pe_callB call_isW rfl hi boot_isinstance (pa_cons (pv 2) (pa_cons (pe_glob hg ht (v := .ref ct) rfl hd) pa_nil))) ?_
  rintro σ H' Q ⟨a, C, d, fs, b, E, ex, k, q⟩
  exact ⟨.ref a, E.sl, a, C, d, fs, .ref ct, .ref ct, b, rfl, E.ea, E.ed, ex, fun u r => r, k, q⟩
def tFldE (K : PySem.W.Frag) (f : Str) : TE := fun σ H Q => ∃ a C d fs v, ErrAt σ H a C (some d) fs ∧ ExcC K C ∧ PySem.W.findIn K (.ref C) f = some none ∧ fs.lookup f = some v ∧ Q v H
theorem pe_fldE {f : Str} {p2 p4 : Pos} : PE (XW X s H g cdv) (.Attribute (.Name "error" p2) f p4) (tFldE X.K f) := by
  refine PE_imp (pe_exF (pv 2)) ?_
  rintro σ H' Q ⟨a, C, d, fs, v, E, ex, k, l, q⟩
  exact ⟨.ref a, E.sl, a, C, d, fs, v, rfl, E.ea, E.ed, ex, k, l, q⟩
/-- if isinstance(error, t): return w, error.f -/
def tIfF (K : PySem.W.Frag) (ct : Addr) (w f : Str) (b : Nat) : TS := tIfS (tB (tIsE K ct)) (tRet (tTup (tCons (tC (.str w)) (tCons (tFldE K f) tNil)))) tNext
theorem ps_ifF {t w f : Str} {ct : Addr} {p p2 p3 p4 q1 q2 q3 q4 q5 q6 : Pos} {k1 k2 : Nat} (hi : X.mg "isinstance" = none) (ht : X.mg t = some (.ref ct)) (hg : Gl (XW X s H g cdv) t) (hd : (t == ("__debug__" : Str)) = false) :
    PS (XW X s H g cdv) (.If (.Call (.Name "isinstance" p) [.Name "error" p2, .Name t p3] [] p4) [.Return (some (.Tuple [.Constant (.str w) k1 q1, .Attribute (.Name "error" q2) f q3] k2 q4)) q5] [] q6) (tIfF X.K ct w f 0) :=
  ps_if (pt_val (pe_isE hi ht hg hd)) (pss_one (ps_ret (pe_tup (pa_cons pe_str (pa_cons pe_fldE pa_nil))))) pss_nil
/-- (w, isinstance(error, t)) -/
theorem pe_pair {t w : Str} {ct : Addr} {p p2 p3 p4 q1 q4 : Pos} {k1 k2 : Nat} (hi : X.mg "isinstance" = none) (ht : X.mg t = some (.ref ct)) (hg : Gl (XW X s H g cdv) t) (hd : (t == ("__debug__" : Str)) = false) :
    PE (XW X s H g cdv) (.Tuple [.Constant (.str w) k1 q1, .Call (.Name "isinstance" p) [.Name "error" p2, .Name t p3] [] p4] k2 q4) (tTup (tCons (tC (.str w)) (tCons (tIsE X.K ct) tNil))) :=
  pe_tup (pa_cons pe_str (pa_cons (pe_isE hi ht hg hd) pa_nil))
def tPairs (K : PySem.W.Frag) (ca : Str → Addr) : List (Str × Str) → TA
  | [] => tNil
  | (c, w) :: r => tCons (tTup (tCons (tC (.str w)) (tCons (tIsE K (ca c)) tNil))) (tPairs K ca r)
def Exh (H H' : Hp) : Prop := ∀ a o, H a = some o → H' a = some o
theorem Exh.trans {H H1 H2 : Hp} (a : Exh H H1) (b : Exh H1 H2) : Exh H H2 := fun c o h => b c o (a c o h)
theorem Exh.new {H : Hp} {p : Addr} {o : HO} (n : H p = none) : Exh H (upd H p o) := fun a u h => by
  rw [upd_ne (by intro z; rw [z, n] at h; cases h)]
  exact h
theorem ErrAt.ex {σ : L2.St} {H H' : Hp} {a C : Addr} {d : Option Addr} {fs : List (Str × V)} (E : ErrAt σ H a C d fs) (e : Exh H H') : ErrAt σ H' a C d fs := ⟨E.sl, e _ _ E.ea, by
  have := E.ed
  cases d with
  | some d => exact e _ _ this
  | none => exact this⟩
theorem tPairs_go {K : PySem.W.Frag} {ca : Str → Addr} {B : Str → Bool} {σ : L2.St} {a C : Addr} {d : Option Addr} {fs : List (Str × V)} (hC : ExcC K C) : ∀ (ps : List (Str × Str)) {H : Hp} {Q : List V → Hp → Prop}, (∀ p ∈ ps, PySem.W.kitOne K (.ref C) (.ref (ca p.1)) = some (B p.1)) → ErrAt σ H a C d fs →
    (∀ vs H', Exh H H' → vs.length = ps.length → (∀ (i : Nat) (p : Str × Str), ps[i]? = some p → ∃ t, vs[i]? = some (.ref t) ∧ H' t = some (.tup [.str p.2, .bl (B p.1)])) → Q vs H') → tPairs K ca ps σ H Q
  | [], H, Q, _, _, q => q [] H (fun _ _ h => h) rfl fun i p h => by simp at h
  | (c, w) :: r, H, Q, k, E, q => by
    refine ⟨a, C, d, fs, B c, E, hC, k (c, w) List.mem_cons_self, (by rw [sizeLine_eq]; show 2 ≤ 16777216; decide), fun p np => ?_⟩
    refine tPairs_go hC r (fun p hp => k p (List.mem_cons_of_mem _ hp)) (E.ex (Exh.new np)) fun vs H' e l h => q (.ref p :: vs) H' ((Exh.new np).trans e) (by simp [l]) fun i x hx => ?_
    cases i with
    | zero =>
      simp only [List.getElem?_cons_zero, Option.some.injEq] at hx
      subst hx
      exact ⟨p, rfl, e _ _ upd_same⟩
    | succ i => exact h i x (by simpa using hx)
theorem ifF_go {K : PySem.W.Frag} {ct : Addr} {w f : Str} {b : Bool} {σ : L2.St} {H : Hp} {D : Ends} {a C : Addr} {d : Option Addr} {fs : List (Str × V)} (hC : ExcC K C) (E : ErrAt σ H a C d fs) (k : PySem.W.kitOne K (.ref C) (.ref ct) = some b)
    (h1 : b = true → (∃ dd, d = some dd) ∧ PySem.W.findIn K (.ref C) f = some none ∧ ∃ v, fs.lookup f = some v ∧ ∀ t, H t = none → D.rt (.ref t) (upd H t (.tup [.str w, v]))) (h2 : b = false → D.nx σ H) : tIfF K ct w f 0 D σ H := by
  refine ⟨a, C, d, fs, b, E, hC, k, b, rfl, ?_⟩
  cases b with
  | true =>
    obtain ⟨⟨dd, rfl⟩, n, v, l, q⟩ := h1 rfl
    rw [if_pos rfl]
    exact ⟨a, C, dd, fs, v, E, hC, n, l, (by rw [sizeLine_eq]; show 2 ≤ 16777216; decide), q⟩
  | false =>
    rw [if_neg (by decide)]
    exact h2 rfl
def firstB (B : Str → Bool) (ps : List (Str × Str)) : Option Str := (ps.find? fun p => B p.1).map (·.2)
def tLoop (K : PySem.W.Frag) (ca : Str → Addr) (ps : List (Str × Str)) : TS := tFor (iList K (tLst (tPairs K ca ps))) (gTup K 2 (gCons (gName 3) (gCons (gName 4) gNil))) (tIfS (tB (tVar 4)) (tRet (tVar 3)) tNext)
theorem for_go {K : PySem.W.Frag} {ca : Str → Addr} {B : Str → Bool} {σ : L2.St} {H : Hp} {D : Ends} {a C : Addr} {d : Option Addr} {fs : List (Str × V)} (hC : ExcC K C) (hl : σ.length = 5) (ps : List (Str × Str)) (hz : ps.length ≤ 1000) (k : ∀ p ∈ ps, PySem.W.kitOne K (.ref C) (.ref (ca p.1)) = some (B p.1)) (E : ErrAt σ H a C d fs)
    (h1 : ∀ w H', firstB B ps = some w → Exh H H' → D.rt (.str w) H') (h2 : ∀ σ' H', firstB B ps = none → Exh H H' → D.nx σ' H') : tLoop K ca ps D σ H := by
  refine tPairs_go hC ps k E fun vs H1 e l hv => ⟨by rw [sizeLine_eq, l]; omega, fun p np => ⟨p, rfl, ⟨vs, .of upd_same⟩, ?_⟩⟩
  have e1 : Exh H (upd H1 p (.lst vs)) := e.trans (Exh.new np)
  refine for_list (xs := vs) (Pv := fun i σ' H' => H' = upd H1 p (.lst vs) ∧ σ'.length = 5 ∧ ∀ j q, j < i → ps[j]? = some q → B q.1 = false) ⟨rfl, hl, fun j q hj => absurd hj (by omega)⟩ (fun i σ' H' _ h => by rw [h.1]; exact .of upd_same) (fun i x σ' H' hx h => ?_) fun σ' H' h => ?_
  · obtain ⟨rfl, hs, hB⟩ := h
    have hi : i < ps.length := by rw [← l]; exact (List.getElem?_eq_some_iff.mp hx).1
    obtain ⟨t, ht, hT⟩ := hv i ps[i] (List.getElem?_eq_getElem hi)
    rw [hx] at ht
    cases ht
    have hT' : upd H1 p (.lst vs) t = some (.tup [.str ps[i].2, .bl (B ps[i].1)]) := Exh.new np _ _ hT
    refine ⟨t, _, rfl, .inl (.inl hT'), rfl, _, _, rfl, _, _, rfl, rfl, .bl (B ps[i].1), ?_, B ps[i].1, rfl, ?_⟩
    · rw [List.getElem?_set_self (by rw [List.length_set, hs]; decide)]
    · cases hb : B ps[i].1 with
      | true =>
        rw [if_pos rfl]
        refine ⟨.str ps[i].2, ?_, h1 _ _ ?_ e1⟩
        · rw [List.getElem?_set_ne (by decide), List.getElem?_set_self (by rw [hs]; decide)]
        · unfold firstB
          have : ps.find? (fun p => B p.1) = some ps[i] := by
            rw [List.find?_eq_some_iff_getElem]
            exact ⟨hb, i, hi, rfl, fun j hj => by
              have := hB j (ps[j]'(by omega)) hj (List.getElem?_eq_getElem (by omega))
              simp [this]⟩
          rw [this]
          rfl
      | false =>
        rw [if_neg (by decide)]
        refine ⟨rfl, by rw [List.length_set, List.length_set]; exact hs, fun j q hj hq => ?_⟩
        by_cases z : j = i
        · subst z
          rw [List.getElem?_eq_getElem hi] at hq
          cases hq
          exact hb
        · exact hB j q (by omega) hq
  · obtain ⟨rfl, _, hB⟩ := h
    refine h2 σ' _ ?_ e1
    unfold firstB
    have : ps.find? (fun p => B p.1) = none := by
      rw [List.find?_eq_none]
      intro q hq
      obtain ⟨j, hj, rfl⟩ := List.mem_iff_getElem.mp hq
      have := hB j ps[j] (by rw [l]; exact hj) (List.getElem?_eq_getElem hj)
      simp [this]
    rw [this]
    rfl
def tAct (f1 c1 : Addr) (q : Str) (σ : L2.St) (tb1 : XK → TE) (E : XK) : TE := fun σY HY Q => σY[0]? = some (some (.ref f1)) ∧ HY c1 = some (CodeO c1 q) ∧ tb1 (fun cls d H' => E cls d H') σ HY Q
def tb2 (K : PySem.W.Frag) (f1 c1 : Addr) (q : Str) (σ : L2.St) (tb1 : XK → TE) (E : XK) : TE := tBM K "list" rAppend (tVar 1) (tCons (tAct f1 c1 q σ tb1 E) tNil)
theorem tb2_mono {K : PySem.W.Frag} {f1 c1 : Addr} {q : Str} {σ : L2.St} {tb1 : XK → TE} (tm : TMono tb1) : TMono (tb2 K f1 c1 q σ tb1) := by
  rintro E E' σ1 H Q Q' ⟨v, e1, e2, e3, e4, h⟩ he hq
  refine ⟨v, e1, e2, e3, e4, tm _ _ _ _ _ _ h he fun x H1 ⟨l, xs, y, a1, a2, a3, a4, a5⟩ => ⟨l, xs, y, a1, a2, a3, a4, hq _ _ a5⟩⟩
/-- what the module gives -/
structure WF (X : Cx) (T : List (Addr × Str)) (ca : Str → Addr) (cdw : Value) : Prop where
  i : X.mg "isinstance" = none
  c : ∀ p ∈ (wF.map (·.1) ++ wP.map (·.1)), X.mg p = some (.ref (ca p))
  se : ∃ se, X.mg "SetError" = some se ∧ ∀ p ∈ (wF.map (·.1) ++ wP.map (·.1)), PySem.W.exmOne X.K (.ref (ca p)) se = some true
  ct : ∃ gc fdc, X.mg "_law_caught" = some (.ref gc) ∧ PySem.W.keepIn X.K (.ref gc) = true ∧ Fun X.K "_law_caught" "_law_caught" (topC 40) gc fdc ∧ L2.Binds X.K fdc ["action"] []
  tb : ∃ cw Pw, cdw = .ref cw ∧ TabB X.base X.mg cw Pw ∧ (Pw, lamQ "_law_word") ∈ T ∧ ∀ p ∈ T, p.1 = Pw → p.2 = lamQ "_law_word"
  ex : ∀ p ∈ (wF.map (·.1) ++ wP.map (·.1)), ExcC X.K (ca p)
  kt : ∀ p ∈ (wF.map (·.1) ++ wP.map (·.1)), ∀ q ∈ (wF.map (·.1) ++ wP.map (·.1)), PySem.W.kitOne X.K (.ref (ca p)) (.ref (ca q)) = some (p == q)
  fl : ∀ p ∈ wF, PySem.W.findIn X.K (.ref (ca p.1)) p.2.2 = some none
section
variable {X : Cx} {pins : List (Addr × Obj)} {σ : L2.St} {H : Hp} {s : Shared} {body : Expr} {scope : Scope} {f1 c1 g : Addr} {cdw : Value} {k : Nat} {tb1 : XK → TE} {T : List (Addr × Str)} {ca : Str → Addr}
theorem word_call (tm : TMono tb1) (M1 : LamH X pins σ H s noArgs body scope f1 c1) (hr : Room (k + 5) X.A) (hgu : X.A.guards = some []) {gc cw Pw : Addr} {se dV kV doc pm cdv ct oc : Value} {an od : Option Addr} {osl : Array (Option Value)} {p1 p2 p3 p4 p5 p6 p7 p8 : Pos} (hl : (p3.endLine == p6.line) = true)
    (hbody : ∀ (A : Around) (outer : List Env) (s : Shared) (H : Hp) (E' : XK) (fa ca : Addr), A.guards = some [] → Room k (A.deeper (lamEnv X scope s.heap.objs.size fa ca)) → PE (lamCx X A outer s H E' scope fa ca) body (tb1 E'))
    (wse : X.mg "SetError" = some se) (gm : X.mg "_law_caught" = some (.ref gc)) (gk : PySem.W.keepIn X.K (.ref gc) = true) (lk : X.K.lookup gc = some ⟨oc, od, .func (PySem.W.fnOf "_law_caught" "_law_caught" (defArgs (topC 40)) (defBody (topC 40)) (defScope (topC 40)) dV kV doc pm an cdv ct), osl⟩) (hcd : PySem.W.codeIn X.K cdv "_law_caught" = true)
    (gb : L2.Binds X.K (PySem.W.fnOf "_law_caught" "_law_caught" (defArgs (topC 40)) (defBody (topC 40)) (defScope (topC 40)) dV kV doc pm an cdv ct) ["action"] []) (wT : TabB X.base X.mg cw Pw) (wm : (Pw, lamQ "_law_word") ∈ T) (wu : ∀ p ∈ T, p.1 = Pw → p.2 = lamQ "_law_word") :
    PE (XW X s H g (.ref cw)) (.Call (.Name "_law_caught" p1) [.Lambda noArgs (.Call (.Attribute (.Name "told" p2) "append" p3) [.Call (.Name "action" p4) [] [] p5] [] p6) ⟨.function, [("action", .free), ("told", .free)], false, false, []⟩ p7] [] p8)
      (fun σ' H' Q => Tabs T H' ∧ ∀ H1, ExtN H' H1 → Tabs T H1 → tCaught (tb2 X.K f1 c1 (X.env.qual ++ "<lambda>") σ tb1) X.K se σ' H1 Q) := by
  refine pe_give (X := XW X s H g (.ref cw)) (T := T) (TT := tCaught (tb2 X.K f1 c1 (X.env.qual ++ "<lambda>") σ tb1) X.K se) (k := k + 3) (Ng := Nc) (c := cw) (P := Pw) rfl gm gk lk hcd gb scC wT rfl wm wu (hr.deeper _) (show LamS (defScope (topC 41)) _ from lamS_by (by decide +kernel)) rfl (fun q cl pm cv ctv => rfl) fun pins1 σ1 H1 s1 Q1 f2 c2 M2 T1 hr' hTT => ?_
  have hb2 : ∀ (E : XK) (sY : Shared) (HY : Hp), Un (frs (XW X s H g (.ref cw)).stack) [] H1 HY s1.heap sY.heap → Room (k + 1) ((XC (XW X s H g (.ref cw)) s1 H1 gc cdv).A.deeper (lamEnv (XW X s H g (.ref cw)) ⟨.function, [("action", .free), ("told", .free)], false, false, []⟩ sY.heap.objs.size f2 c2)) →
      PE (lamCx (XW X s H g (.ref cw)) (XC (XW X s H g (.ref cw)) s1 H1 gc cdv).A (XC (XW X s H g (.ref cw)) s1 H1 gc cdv).stack sY HY E ⟨.function, [("action", .free), ("told", .free)], false, false, []⟩ f2 c2)
        (.Call (.Attribute (.Name "told" p2) "append" p3) [.Call (.Name "action" p4) [] [] p5] [] p6) (tb2 X.K f1 c1 (X.env.qual ++ "<lambda>") σ tb1 E) := by
    intro E sY HY un hr2
    have top : ∀ {h : Heap} {b : Addr}, h.objs.size ≤ b → h.get? b = none := fun {h b} z => by
      cases q : h.get? b with
      | none => rfl
      | some o => exact absurd (Heap.lt_size q) (Nat.not_lt.mpr z)
    have nw : ∀ x ∈ frs (XW X s H g (.ref cw)).stack, x ∉ frs X.stack → s.heap.get? x = none := fun x hx hn => by
      rcases List.mem_cons.mp (show x ∈ s.heap.objs.size :: frs X.stack from hx) with z | z
      · rw [z]
        exact top (Nat.le_refl _)
      · exact absurd z hn
    have nn : ∀ b ∈ frs (XC (XW X s H g (.ref cw)) s1 H1 gc cdv).stack, b ∉ frs X.stack → s.heap.get? b = none := fun b hb hn => by
      rcases List.mem_cons.mp (show b ∈ s1.heap.objs.size :: s.heap.objs.size :: frs X.stack from hb) with z | z
      · cases q : s.heap.get? b with
        | none => rfl
        | some o =>
          obtain ⟨o', q'⟩ := (show Un (frs X.stack) [] H H1 s.heap s1.heap from M2.inv.base).there b o q (by simp)
          rw [top (Nat.le_of_eq z.symm)] at q'
          cases q'
      · rcases List.mem_cons.mp z with z | z
        · rw [z]
          exact top (Nat.le_refl _)
        · exact absurd z hn
    refine pe_bm PySem.F.plainAttrs_list PySem.F.slot_list_append PySem.F.type_list_append mt_append (pv 1) (pa_cons (pe_lam (X := X) (k := k) (i := 0) (tb := tb1) M1 (takes_of rfl rfl rfl rfl) hr2 (Un.widen M2.inv.base un nw) nn (fun E' sZ HZ _ hrz => hbody _ _ sZ HZ E' f1 c1 hgu hrz) rfl (.inr (.inr rfl))) pa_nil) rfl rfl hl
  obtain ⟨t, ht, hq⟩ := caught_run (X1 := XW X s H g (.ref cw)) (g := gc) (cdv := cdv) (k := k + 1) (tb2_mono tm) M2 ((hr.deeper _).mono (by omega)) wse hb2
  exact ⟨t, ht, hq Q1 hTT⟩
/-- what is told of a refusal -/
def WV (x : Str) (fs : List (Str × V)) (vr : V) (H2 : Hp) : Prop := (∃ w v t, wF.lookup x = some w ∧ fs.lookup w.2 = some v ∧ vr = .ref t ∧ H2 t = some (.tup [.str w.1, v])) ∨ (wF.lookup x = none ∧ ∃ w, wP.lookup x = some w ∧ vr = .str w)
/-- what is wanted of the action, from the heap in which the lambda was made -/
def tWord (T : List (Addr × Str)) (tb1 : XK → TE) (ca : Str → Addr) : L2.St → Hp → VK → Prop := fun σ H Q => ∀ p0, H p0 = none → Tabs T (upd H p0 (.lst [])) ∧ ∀ H1, ExtN (upd H p0 (.lst [])) H1 → Tabs T H1 → ∀ p, H1 p = none →
  tb1 (fun cls d H' => (H' p0 = some (.lst []) ∧ H' p = some (.lst [])) ∧ ∃ x fs, cls = .ref (ca x) ∧ x ∈ (wF.map (·.1) ++ wP.map (·.1)) ∧ XdAt H' fs d ∧ (∀ w, wF.lookup x = some w → (∃ dd, d = some dd) ∧ ∃ v, fs.lookup w.2 = some v) ∧
      ∀ e H2 vr, H' e = none → Exh (upd (upd H' p (.lst [.ref e])) e (ExV cls d e)) H2 → WV x fs vr H2 → Q vr H2)
    σ (upd H1 p (.lst [])) fun v H' => (H' p0 = some (.lst []) ∧ H' p = some (.lst [])) ∧ ∀ b, upd H' p0 (.lst [v]) b = none → Q v (upd (upd H' p0 (.lst [v])) b (.lst []))
theorem find_lookup {x : Str} : ∀ ps : List (Str × Str), firstB (fun c => x == c) ps = ps.lookup x
  | [] => rfl
  | (c, w) :: r => by
    unfold firstB
    cases h : x == c with
    | true => simp [List.find?_cons, List.lookup_cons, h]
    | false =>
      have := find_lookup (x := x) r
      unfold firstB at this
      simp [List.find?_cons, List.lookup_cons, h, this]
theorem word_run (tm : TMono tb1) (M1 : LamH X pins σ H s noArgs body scope f1 c1) (W : WF X T ca cdw) (hr : Room (k + 5) X.A) (hgu : X.A.guards = some [])
    (hbody : ∀ (A : Around) (outer : List Env) (s : Shared) (H : Hp) (E' : XK) (fa ca : Addr), A.guards = some [] → Room k (A.deeper (lamEnv X scope s.heap.objs.size fa ca)) → PE (lamCx X A outer s H E' scope fa ca) body (tb1 E')) :
    ∃ t, PSs (XW X s H g cdw) (defBody (topC 41)) t ∧ ∀ Q, tWord T tb1 ca σ H Q → t { nx := fun _ H' => Q .non H', rt := Q } (L2.start Nw [.ref f1]) H := by
  obtain ⟨wi, wc, ⟨se, wse, wex⟩, ⟨gc, fdc, gm, gk, ⟨⟨oc, od, kV, doc, pm, an, cdv, ct, osl, rfl, lk, hcd⟩, _⟩, gb⟩, ⟨cw, Pw, rfl, wT, wm, wu⟩, wx, wk, wl⟩ := W
  have m : ∀ {c : Str}, (wF.map (·.1) ++ wP.map (·.1)).contains c = true → X.mg c = some (.ref (ca c)) := fun h => wc _ (List.contains_iff_mem.mp h)
  refine ⟨_, pss_cons (ps_set (i := 1) scW.nd rfl (.inr rfl) (pe_lst pa_nil))
    (pss_cons (ps_set (i := 2) scW.nd rfl (.inl rfl) (word_call tm M1 hr hgu rfl hbody wse gm gk lk hcd gb wT wm wu))
    (pss_cons (ps_if (pt_cmp (pc_isN (pv 2)) rfl) (pss_one (ps_ret (pe_ix ix_list (pv 1) pe_int fun _ _ => rfl))) pss_nil)
    (pss_cons (ps_ifF (t := "Used") wi (m (by decide +kernel)) (by rfl) (by decide))
    (pss_cons (ps_ifF (t := "TooMany") wi (m (by decide +kernel)) (by rfl) (by decide))
    (pss_cons (ps_ifF (t := "NoText") wi (m (by decide +kernel)) (by rfl) (by decide))
    (pss_cons (ps_ifF (t := "Full") wi (m (by decide +kernel)) (by rfl) (by decide))
    (pss_cons (ps_for PassesOwn.never rfl (pi_list (pe_lst (pa_cons (pe_pair (t := "NoName") wi (m (by decide +kernel)) (by rfl) (by decide))
      (pa_cons (pe_pair (t := "Twice") wi (m (by decide +kernel)) (by rfl) (by decide))
      (pa_cons (pe_pair (t := "NoSet") wi (m (by decide +kernel)) (by rfl) (by decide))
      (pa_cons (pe_pair (t := "NoDeed") wi (m (by decide +kernel)) (by rfl) (by decide))
      (pa_cons (pe_pair (t := "NoAmount") wi (m (by decide +kernel)) (by rfl) (by decide))
      (pa_cons (pe_pair (t := "NoNumber") wi (m (by decide +kernel)) (by rfl) (by decide))
      (pa_cons (pe_pair (t := "NoPast") wi (m (by decide +kernel)) (by rfl) (by decide))
      (pa_cons (pe_pair (t := "NoRegion") wi (m (by decide +kernel)) (by rfl) (by decide))
      (pa_cons (pe_pair (t := "NoLaw") wi (m (by decide +kernel)) (by rfl) (by decide))
      (pa_cons (pe_pair (t := "NoRule") wi (m (by decide +kernel)) (by rfl) (by decide))
      (pa_cons (pe_pair (t := "NoBook") wi (m (by decide +kernel)) (by rfl) (by decide))
      (pa_cons (pe_pair (t := "NoState") wi (m (by decide +kernel)) (by rfl) (by decide))
      (pa_nil)))))))))))))))
      (pg_tup rfl (pgs_cons (pg_name (i := 3) scW.nd rfl (.inl rfl)) (pgs_cons (pg_name (i := 4) scW.nd rfl (.inl rfl)) pgs_nil)))
      (pss_one (ps_if (pt_val (pv 4)) (pss_one (ps_ret (pv 3))) pss_nil)))
    (pss_one (ps_ret pe_str))))))))), ?_⟩
  intro Q h
  refine ⟨Nat.zero_le _, fun p0 n0 => ?_⟩
  obtain ⟨t1, h⟩ := h p0 n0
  refine ⟨t1, fun H1 e1 t2 p np => ?_⟩
  have h := h H1 e1 t2 p np
  have q0 : H1 p0 = some (.lst []) := e1 p0 _ upd_same fun _ z => nomatch z
  have ne : p0 ≠ p := fun z => by rw [z, np] at q0; cases q0
  have qc : H1 c1 = some (CodeO c1 (X.env.qual ++ "<lambda>")) := e1 c1 _ ((upd_ne (by intro z; have := M1.code; rw [z, n0] at this; cases this)).trans M1.code) fun _ z => nomatch z
  have nc : c1 ≠ p := fun z => by rw [z, np] at qc; cases qc
  refine ⟨.ref p0, rfl, .inl ⟨rfl, _, .of ((upd_ne ne).trans q0)⟩, rfl, (upd_ne nc).trans qc, tm _ _ _ _ _ _ h (fun cls d H' he => ?_) fun v H' hq => ?_⟩
  · obtain ⟨⟨g0, g1⟩, x, fs, rfl, hx, hd, hf, hQ⟩ := he
    refine ⟨wex x hx, g1, fun a b na nb => ⟨.ref a, rfl, false, rfl, ?_⟩⟩
    have a1 : upd H' p (.lst [.ref a]) p = some (.lst [.ref a]) := upd_same
    have npa : a ≠ p := fun z => by rw [z, g1] at na; cases na
    have e2 : Exh (upd (upd H' p (.lst [.ref a])) a (ExV (.ref (ca x))  d a)) (upd (upd (upd H' p (.lst [.ref a])) a (ExV (.ref (ca x))  d a)) b (.lst [])) := Exh.new nb
    have E : ErrAt (((L2.start Nw [.ref f1]).set 1 (some (.ref p0))).set 2 (some (.ref a))) (upd (upd (upd H' p (.lst [.ref a])) a (ExV (.ref (ca x))  d a)) b (.lst [])) a (ca x) d fs := by
      refine ⟨rfl, e2 _ _ upd_same, ?_⟩
      cases d with
      | none => exact hd
      | some dd =>
        have hd : H' dd = some (.xd fs) := hd
        refine e2 _ _ ?_
        rw [upd_ne (by intro z; rw [z, na] at hd; cases hd), upd_ne (by intro z; rw [z, g1] at hd; cases hd)]
        exact hd
    have hfin : ∀ {vr H2}, Exh (upd (upd (upd H' p (.lst [.ref a])) a (ExV (.ref (ca x))  d a)) b (.lst [])) H2 → WV x fs vr H2 → Q vr H2 := fun {vr H2} e w => hQ a H2 vr na (e2.trans e) w
    have hme : ∀ {c : Str}, (wF.map (·.1) ++ wP.map (·.1)).contains c = true → PySem.W.kitOne X.K (.ref (ca x)) (.ref (ca c)) = some (x == c) := fun h => wk x hx _ (List.contains_iff_mem.mp h)
    have hfl : ∀ {c : Str} {w : Str × Str}, wF.lookup c = some w → (x == c) = true → (∃ dd, d = some dd) ∧ PySem.W.findIn X.K (.ref (ca x)) w.2 = some none ∧ ∃ v, fs.lookup w.2 = some v ∧ ∀ t, upd (upd (upd H' p (.lst [.ref a])) a (ExV (.ref (ca x))  d a)) b (.lst []) t = none →
        Q (.ref t) (upd (upd (upd (upd H' p (.lst [.ref a])) a (ExV (.ref (ca x))  d a)) b (.lst [])) t (.tup [.str w.1, v])) := fun {c w} hl he => by
      have ec : x = c := by simpa using he
      subst ec
      obtain ⟨hdd, v, hv⟩ := hf w hl
      exact ⟨hdd, wl (x, w) (PySem.mem_of_lookup hl), v, hv, fun t nt => hfin (Exh.new nt) (.inl ⟨w, v, t, hl, hv, rfl, upd_same⟩)⟩
    dsimp only
    rw [if_neg (by decide)]
    refine ifF_go (wx x hx) E (hme (by decide +kernel)) (fun h => hfl (w := ("used", "name")) (by decide +kernel) h) fun h1 => ?_
    refine ifF_go (wx x hx) E (hme (by decide +kernel)) (fun h => hfl (w := ("many", "most")) (by decide +kernel) h) fun h2 => ?_
    refine ifF_go (wx x hx) E (hme (by decide +kernel)) (fun h => hfl (w := ("text", "line")) (by decide +kernel) h) fun h3 => ?_
    refine ifF_go (wx x hx) E (hme (by decide +kernel)) (fun h => hfl (w := ("full", "region")) (by decide +kernel) h) fun h4 => ?_
    have hF : wF.lookup x = none := by
      simp only [wF, List.lookup_cons, h1, h2, h3, h4, List.lookup_nil]
    refine for_go (B := fun c => x == c) (wx x hx) rfl wP (by decide) (fun q hq => wk x hx _ ?_) E (fun w H2 hw e => hfin e (.inr ⟨hF, w, ?_, rfl⟩)) fun σ' H2 hw e => ?_
    · exact List.mem_append_right _ (List.mem_map.mpr ⟨q, hq, rfl⟩)
    · rw [← find_lookup]
      exact hw
    · exfalso
      rw [find_lookup] at hw
      rcases List.mem_append.mp hx with z | z
      · obtain ⟨q, hq, rfl⟩ := List.mem_map.mp z
        have := List.lookup_eq_none_iff.mp hF q hq
        simp at this
      · obtain ⟨q, hq, rfl⟩ := List.mem_map.mp z
        have := List.lookup_eq_none_iff.mp hw q hq
        simp at this
  · obtain ⟨⟨g0, g1⟩, hQ⟩ := hq
    refine ⟨p0, [], v, rfl, rfl, g0, by rw [sizeLine_eq]; decide, (upd_ne (Ne.symm ne)).trans g1, fun b nb => ?_⟩
    have n2 : p0 ≠ b := fun z => by
      rw [← z, upd_same] at nb
      cases nb
    refine ⟨.non, rfl, true, rfl, ?_⟩
    dsimp only
    rw [if_pos rfl]
    exact ⟨.ref p0, rfl, p0, [v], 0, v, rfl, rfl, .of ((upd_ne n2).trans upd_same), rfl, hQ b nb⟩
end
section
variable {L : Lv}
theorem RS.extN {B : Bx} {M : Addr → Prop} {σ : Sg} {H H1 : Hp} {ρ : En} {ω : Om} (R : RS L B M σ H ρ ω) (e : ExtN H H1) (t : Tabs L.tb H1) : RS L B M σ H1 ρ ω := by
  have ex : Exd M H M H1 := fun a o h m nt => ⟨e a o h nt, m⟩
  have A := R.af
  have mt : ∀ a, M a → ∃ o, H a = some o ∧ H1 a = some o ∧ Mk o := fun a m => let ⟨o, q, k⟩ := A.mt a m; ⟨o, q, e a o q k.nt, k⟩
  refine R.move ex (fun a h => ?_) ⟨A.am.st ex fun a f => ?_, A.fm, fun a m => ?_, A.m0, A.mx, fun a o h f nt => e a o (A.kp a o h f nt) nt, fun a o h nt => ?_, A.fg, A.t0, t⟩
  · obtain ⟨h1, h2, _, o, q, nt⟩ := R.held h
    exact ⟨(e a o q nt).trans q.symm, h1, h2⟩
  · obtain ⟨o, q1, q2, _⟩ := mt a (A.fm a f)
    exact ⟨q2.trans q1.symm, A.fm a f⟩
  · obtain ⟨o, q1, q2, k⟩ := mt a m
    exact ⟨o, q2, k⟩
  · obtain ⟨o', q, n'⟩ := A.dm a o h nt
    exact ⟨o', e a o' q n', n'⟩
/-- one's own, changed for good -/
theorem RS.scrap {B : Bx} {M : Addr → Prop} {σ : Sg} {H : Hp} {ρ : En} {ω : Om} {a : Addr} {o u : HO} (ko : Mk o) (R : RS L (B.pn a u) M σ H ρ ω) (nd : ∀ p ∈ B.pins, p.1 ≠ a) : RS L B M σ (L2.upd H a o) ρ ω ∧ Exf M H M (L2.upd H a o) := by
  obtain ⟨p1, p2, p3, p4, p5⟩ := R.pn (a, u) List.mem_cons_self
  have R' : RS L B M σ H ρ ω := ⟨R.af.to rfl rfl rfl, R.ln, R.sl, R.ap, fun p hp => R.pn p (List.mem_cons_of_mem _ hp), fun p hp => R.po p (List.mem_cons_of_mem _ hp), R.ho⟩
  have ex : Exf M H M (L2.upd H a o) := fun b v h n => ⟨by
    rw [upd_ne (by intro z; subst z; exact n p2)]
    exact h, n⟩
  refine ⟨R'.move ex (fun b hb => ?_) (R'.af.own ko p2 p3 p4), ex⟩
  obtain ⟨h1, h2, _⟩ := R'.held hb
  refine ⟨upd_ne fun z => ?_, h1, h2⟩
  subst z
  rcases hb with ⟨j, d, q1, q2⟩ | ⟨p, hp, q⟩
  · exact R.po (b, u) List.mem_cons_self j d q1 q2
  · exact nd p hp q
theorem RS.ext {B : Bx} {M : Addr → Prop} {σ : Sg} {H H1 : Hp} {ρ : En} {ω : Om} (R : RS L B M σ H ρ ω) (e : Exh H H1) : RS L B M σ H1 ρ ω := RS.extN R (ExtN.of e) (R.af.tbs.ext e)
theorem RS.unpin {B : Bx} {M : Addr → Prop} {σ : Sg} {H : Hp} {ρ : En} {ω : Om} {a : Addr} {u : HO} (R : RS L (B.pn a u) M σ H ρ ω) : RS L B M σ H ρ ω :=
  ⟨R.af.to rfl rfl rfl, R.ln, R.sl, R.ap, fun p hp => R.pn p (List.mem_cons_of_mem _ hp), fun p hp => R.po p (List.mem_cons_of_mem _ hp), R.ho⟩
theorem lookup1 {f : Str} {v : V} : List.lookup f [(f, v)] = some v := by simp
theorem word_sem {ca : Str → Addr} (hca : ∀ x C, L.ca x = some C → C = ca x ∧ x ∈ (wF.map (·.1) ++ wP.map (·.1))) {f : Nat} {es : Exs} {B : Bx} {M : Addr → Prop} {σ : Sg} {H : Hp} {ρ : En} {ω : Om} {Q : VK} {E' : KX} (R : RS L B M σ H ρ ω)
    (h : wordQ L f es ρ ω (PQ L B σ Q) E') : tWord L.tb (tActL L f es) ca σ H Q := by
  intro p0 n0
  have R1 := R.pinNew (o := .lst []) mk_lst n0
  refine ⟨R1.af.tbs, fun H1 e1 t1 p np => ?_⟩
  have R2 := RS.extN R1 e1 t1
  have R3 := R2.pinNew (o := .lst []) mk_lst np
  have q0 : H1 p0 = some (.lst []) := e1 p0 _ upd_same fun _ z => nomatch z
  have npp : p0 ≠ p := fun z => by rw [z, np] at q0; cases q0
  have nd0 : ∀ q ∈ B.pins, q.1 ≠ p0 := fun q hq z => by
    have := (R.pn q hq).1
    rw [z, n0] at this
    cases this
  have ndp : ∀ q ∈ (B.pn p0 (.lst [])).pins, q.1 ≠ p := fun q hq z => by
    have := (R2.pn q hq).1
    rw [z, np] at this
    cases this
  refine ⟨_, _, ρ, ω, R3, evs_mono es (evs_len es h) (fun ds ρ1 ω1 ⟨ld, h1⟩ M1 vs H2 R4 rs => ⟨by rw [rs.len, ld], ds, M1, ω1, R4.af.am, R4.af.fm, R4.af.mt, R4.af.tbs, rs, L.cm (fun x ω' hq M' v H' A hv => ?_) (fun x ω' hx M' H' c d A X' => ?_) h1⟩) fun _ _ z => z.elim⟩
  · have R5 := R4.called A
    have V5 : VR L ((B.pn p0 (.lst [])).pn p (.lst [])) M' σ H' ρ1 ω' v x := by
      cases x with
      | no => exact hv
      | sh d => exact hv
      | ow d =>
        obtain ⟨a, rfl, o1, o2, o3, o4⟩ := hv
        have o3 : NwP H2 a := o3
        refine ⟨a, rfl, ⟨o1, o2, R4.af.fresh' o3, o4⟩, fun hd => ?_⟩
        obtain ⟨_, _, _, o, q, nt⟩ := R4.held hd
        exact o3 o q nt
    obtain ⟨M6, R6, r, _⟩ := R5.share V5
    have g1 := (R6.pn (p, .lst []) List.mem_cons_self).1
    have g0 := (R6.pn (p0, .lst []) (List.mem_cons_of_mem _ List.mem_cons_self)).1
    refine ⟨⟨g0, g1⟩, fun b nb => ?_⟩
    obtain ⟨R8, e8⟩ := RS.scrap (o := .lst [v]) mk_lst (RS.unpin R6) nd0
    exact hq M6 v _ (R8.new nb) ((r.exd e8.w).exd (exd_new nb))
  · have R5 := R4.called A
    have g1 := (R5.pn (p, .lst []) List.mem_cons_self).1
    have g0 := (R5.pn (p0, .lst []) (List.mem_cons_of_mem _ List.mem_cons_self)).1
    obtain ⟨d', hd', hq⟩ := hx
    obtain ⟨C, hC, rfl, hf⟩ := X'
    obtain ⟨rfl, hm⟩ := hca _ _ hC
    have fin : ∀ {e : Addr} {H3 : Hp} {vr : V}, H' e = none → Exh (upd (upd H' p (.lst [.ref e])) e (ExV (.ref (ca x.cls)) d e)) H3 → (∀ M3, RS L B M3 σ H3 ρ1 ω' → Exd M' H' M3 H3 → Rp L.K H3 M3 vr d') → Q vr H3 := fun {e H3 vr} ne ex hr => by
      have nep : e ≠ p := fun z => by rw [z, g1] at ne; cases ne
      obtain ⟨R8, e8⟩ := RS.scrap (o := .lst [.ref e]) mk_lst R5 ndp
      have ne' : upd H' p (.lst [.ref e]) e = none := (upd_ne nep).trans ne
      have R9 := RS.ext ((RS.unpin R8).new (o := ExV (.ref (ca x.cls)) d e) ne') ex
      refine hq M' vr H3 R9 (hr M' R9 fun a o ho m nt => ?_)
      obtain ⟨h1, _⟩ := e8 a o ho m
      exact ⟨ex _ _ ((upd_ne (by intro z; rw [z, ne] at ho; cases ho)).trans h1), m⟩
    cases hfl : x.fld with
    | none =>
      rw [hfl] at hf
      have hf : d = none := hf
      subst hf
      have hw : wF.lookup x.cls = none := by
        cases e : wF.lookup x.cls with
        | none => rfl
        | some w =>
          unfold wordD at hd'
          rw [e, hfl] at hd'
          cases hd'
      refine ⟨⟨g0, g1⟩, x.cls, [], rfl, hm, rfl, fun w e => (by rw [hw] at e; cases e), fun e H3 vr ne ex w => fin ne ex fun M3 _ _ => ?_⟩
      rcases w with ⟨w, _, _, e1, _⟩ | ⟨_, w, e1, rfl⟩
      · rw [hw] at e1
        cases e1
      · unfold wordD at hd'
        rw [hw, e1] at hd'
        cases hd'
        exact .str _
    | some fe =>
      obtain ⟨fn, e0⟩ := fe
      rw [hfl] at hf
      obtain ⟨dx, v, rfl, hdx, rv⟩ := hf
      have hd2 := hd'
      unfold wordD at hd2
      rw [hfl] at hd2
      refine ⟨⟨g0, g1⟩, x.cls, [(fn, v)], rfl, hm, hdx, fun w e => ⟨⟨_, rfl⟩, ?_⟩, fun e H3 vr ne ex w => fin ne ex fun M3 R9 ex9 => ?_⟩
      · rw [e] at hd2
        simp only at hd2
        split at hd2
        · rename_i q
          exact ⟨v, by rw [← q]; exact lookup1⟩
        · cases hd2
      · rcases w with ⟨w, v', t, e1, e2, rfl, ht⟩ | ⟨e1, w, e2, rfl⟩
        · rw [e1] at hd2
          simp only at hd2
          split at hd2
          · rename_i q
            cases hd2
            rw [← q, lookup1] at e2
            cases e2
            refine .tup ht (fun m => ?_) (.cons (.str _) (.cons (rv.exd ex9) .nil))
            obtain ⟨o, q, k⟩ := R9.af.mt t m
            rw [ht] at q
            cases q
            exact k
          · cases hd2
        · rw [e1, e2] at hd2
          cases hd2
          exact .str _
theorem tActL_mono {f : Nat} {es : Exs} : TMono (tActL L f es) := by
  rintro E E' σ H Q Q' ⟨B, M, ρ, ω, R, h⟩ he hq
  refine ⟨B, M, ρ, ω, R, evs_mono es h (fun ds ρ ω h M vs H R r => ?_) fun _ _ h => h⟩
  obtain ⟨l, ds, M, ω, h1, h2, h3, h4, h5, h6⟩ := h M vs H R r
  refine ⟨l, ds, M, ω, h1, h2, h3, h4, h5, L.cm (fun x ω' k M' v H' A V => hq _ _ (k M' v H' A V)) (fun x ω' k M' H' c d A X => he _ _ _ (k M' H' c d A X)) h6⟩
/-- THE PROMISE of `_law_word` -/
theorem word_pe {P : Program} {w : World} {K : PySem.W.Frag} {mg : Str → Option Value} {base : Heap} {k : Nat} {ca : Str → Addr} {gw : Addr} {fdw : FuncData} (hca : ∀ x C, L.ca x = some C → C = ca x ∧ x ∈ (wF.map (·.1) ++ wP.map (·.1)))
    (gm : mg "_law_word" = some (.ref gw)) (gk : PySem.W.keepIn K (.ref gw) = true) (Fn : Fun K "_law_word" "_law_word" (topC 41) gw fdw) (gb : L2.Binds K fdw ["action"] []) (W : ∀ X : Cx, X.K = K → X.mg = mg → X.base = base → WF X L.tb ca fdw.code) :
    ∀ x, some ("_law_word" : Str) = some x → ∀ (X : Cx) (E : XK) (f : Nat) (es : Exs) (sc : Scope) (p pn lp bp bpn : Pos) (bx : Str), X.prog = P → X.w = w → X.K = K → X.mg = mg → X.base = base → X.calm = true → X.N.Nodup → X.A.guards = some [] → Room (k + 5) X.A → Gl X x → LmI L X → LamX.LamS X.env.scope sc →
    (∀ (A : Around) (outer : List Env) (s : Shared) (H : Hp) (E' : XK) (fa ca : Addr), A.guards = some [] → Room k (A.deeper (LamX.lamEnv X sc s.heap.objs.size fa ca)) → PE (LamX.lamCx X A outer s H E' sc fa ca) (.Call (.Name bx bpn) (uns es) [] bp) (tActL L f es E')) →
    PE X (.Call (.Name x pn) [.Lambda noArgs (.Call (.Name bx bpn) (uns es) [] bp) sc lp] [] p) (rdQ L E (wordQ L f es)) := by
  intro x hx X E f es sc p pn lp bp bpn bx hP hw hK hmg hb hc hN hgu hr hg hl hs hbody
  cases hx
  have W1 := W X hK hmg hb
  subst hP hw hK hmg hb
  obtain ⟨⟨oc, od, kV, doc, pm, an, cdv, ct, osl, rfl, lk, hcd⟩, _⟩ := Fn
  obtain ⟨c, P', h1, h2, h3, h4⟩ := hl.ex
  refine PE_imp (pe_give (X := X) (T := L.tb) (TT := tWord L.tb (tActL L f es) ca) (k := k + 4) (Ng := Nw) (c := c) (P := P') hg gm gk lk hcd gb scW h1 h2 h3 h4 hr hs rfl (fun q cl pm cv ctv => rfl) fun pins σ H s Q f1 c1 M1 t1 hr' hTT => ?_) ?_
  · obtain ⟨t, ht, hq⟩ := word_run (g := gw) tActL_mono M1 W1 hr hgu hbody
    exact ⟨t, ht, hq Q hTT⟩
  · rintro σ H Q ⟨B, M, ρ, ω, R, h⟩
    exact ⟨R.af.tbs, fun H1 e1 t1 => word_sem hca (RS.extN R e1 t1) h⟩
end
end
end K8
namespace K8
open L2 PyProof.Rows PySem.Spec PySem
abbrev Rw : PySem.W.OpenLaw := PySem.Challenge.rw_setbook_k88_values_written
abbrev Pg : Program := Rw.prog
def df (p : Str × Nat) : He.DefD := ⟨(p.1, none), p.1, p.1, defArgs (topC p.2), defBody (topC p.2), defScope (topC p.2), [], []⟩
def dfs : List (Str × Nat) := ([("is_word", 24), ("is_figure", 25), ("is_value", 26), ("value_text", 27), ("pieces_of", 28), ("plain_of", 29), ("value_of", 30), ("read_value", 31), ("_law_begun", 33), ("_law_mixed", 34)] : List (Str × Nat)) ++
  ([("_law_draw", 35), ("_law_pick", 36), ("_law_plain", 37), ("_law_is", 38), ("_law_value_text", 39), ("_law_caught", 40), ("_law_word", 41), ("_law_some_value", 42), ("_law_nested", 43), ("law", 44)] : List (Str × Nat))
def fn : List He.DefD := dfs.map df
def glos : List Str := dfs.map (·.1) ++ ("SetError" : Str) :: Sb.allX
def frees : List Str := ("super" : Str) :: ("ValueError" : Str) :: Ev.bNames
def consts : List He.Fa := [.int "MOST_DEEP" 60, .int "MOST_FIGURES" 12, .int "MOST_NUMBER" 1000000000000, .str "SMALL" "abcdefghijklmnopqrstuvwxyz", .str "FIGURES" "0123456789"]
def fa : List He.Fa := glos.map He.Fa.glo ++ frees.map He.Fa.free ++ consts
def tf : List He.Defn := [("_law_word", none), ("law", none)]
def meth (s : Stmt) (i : Nat) : Stmt := match s with
  | .ClassDef _ _ _ body _ _ _ _ _ _ _ => body.getD i s
  | _ => s
def xs : List Sb.XD := [⟨"NoText", "line", meth (topC 14) 0⟩]
def exB (K : PySem.W.Frag) : Bool := Sb.wordB K && (Sb.ownB K "/claim/cut.py" xs && !((He.cT K ("_law_word", none)).2 == (He.cT K ("law", none)).2))
abbrev R : PySem.W.OpenRow := PySem.W.OpenLaw.row Rw
abbrev hk : PySem.W.Hook := Sb.hookZ 5 fa fn xs tf exB
def ob (s : PySem.W.SharedT) : Sb.SeenZ := Sb.seenZ 5 fa fn xs tf exB (HandSHeadRun.getT s)
theorem ob_eq (s : PySem.W.SharedT) : ob s = hk.obs s.abs := Sb.seenZ_eq (HandSHeadRun.getT_eq s)
def names : List Str := (["SetError", "NoName", "NoNumber", "NoRegion", "NoRule", "NoSet", "NoAmount", "NoBook", "NoState", "NoLaw", "NoDeed", "NoPast"] : List Str) ++ (["Twice", "NoText", "Used", "Full", "TooMany", "MOST_DEEP", "MOST_FIGURES", "MOST_NUMBER", "SMALL", "FIGURES"] : List Str) ++ (dfs.map (·.1)).dropLast
theorem run (w : World) : HandSHeadRun.RunEq R (PySem.W.view R.prog [44]) hk ob 6000 names w := by
  intro os
  kernel_rfl
end K8
namespace K8
open PySem PySem.Spec L2 Ev K8M
local macro_rules | `(tactic| walk_at "RUN") => `(tactic| repeat (first | ((with_reducible apply isGot); (with_reducible apply got_mk); exact rfl) | ((with_reducible apply isEv); first | with_reducible apply Iev_var | with_reducible apply Iev_int | with_reducible apply Iev_str | with_reducible apply Iev_cmp | with_reducible apply Iev_call | with_reducible apply Iev_bi | with_reducible apply Iev_and | with_reducible apply Iev_isi | with_reducible apply Iev_gc | with_reducible apply Iev_not | with_reducible apply Iev_sub | with_reducible apply Iev_bin | with_reducible apply Iev_tup | with_reducible apply Iev_lst | with_reducible apply Iev_or | with_reducible apply Iev_lc | with_reducible apply Iev_ife | with_reducible apply Iev_emp | with_reducible apply Iev_isN | with_reducible apply Iev_non | with_reducible apply Iev_bl | with_reducible apply Iev_cmp2 | with_reducible apply Iev_callK | with_reducible apply Iev_isi2 | with_reducible apply Iev_slL | with_reducible apply Iev_slH | with_reducible apply Iev_slB | with_reducible apply Iev_join | with_reducible apply Iev_pop | with_reducible apply Iev_reprEq | with_reducible apply Iev_usub | with_reducible apply Iev_subv | with_reducible apply Iev_dk | with_reducible apply Iev_dkEmp | with_reducible apply Iev_dkPop0 | with_reducible apply Iev_dNew | with_reducible apply Iev_lNew | with_reducible apply Iev_cTup | with_reducible apply Iev_word) | ((with_reducible apply rdV_ms); exact rfl) | ((with_reducible apply rdV_mo); exact rfl) | ((with_reducible apply br_mt); exact rfl) | ((with_reducible apply br_mf); exact rfl) | ((with_reducible apply isEx); first | with_reducible apply Iex_ife | with_reducible apply Iex_asg | with_reducible apply Iex_ret | with_reducible apply Iex_fr | with_reducible apply Iex_par | with_reducible apply Iex_aug | with_reducible apply Iex_exp | with_reducible apply Iex_app | with_reducible apply Iex_ext | with_reducible apply Iex_raise | with_reducible apply Iex_whl | with_reducible apply Iex_dkSet | with_reducible apply Iex_cApp | with_reducible apply Iex_brk | with_reducible apply Iex_cont | ((with_reducible apply rv_s); exact rfl) | ((with_reducible apply rv_o); exact rfl)) | with_reducible apply Isx_nx | with_reducible apply Isx_rt | with_reducible apply Ilp_nx | with_reducible apply Ilp_rt | with_reducible apply Ifl_rt | with_reducible apply Isx_ct | with_reducible apply Isx_ex | with_reducible apply Ilp_ct | with_reducible apply Ilp_ex | with_reducible apply Ifl_ex | with_reducible apply Ifl_nx | with_reducible apply Isx_bk | with_reducible apply Ilp_bk | with_reducible apply Iexs_nil | with_reducible apply Iexs_cons | ((with_reducible apply isExs); apply Iexs_cons) | with_reducible apply Ievs_nil | with_reducible apply Ievs_cons | with_reducible apply IevAnd_1 | with_reducible apply IevAnd_2 | with_reducible apply IevI_val | with_reducible apply IevI_rng | with_reducible apply IevI_er | with_reducible apply IevOr_1 | with_reducible apply IevOr_2 | with_reducible apply IevIf_0 | with_reducible apply IevIf_1 | with_reducible apply IbindT_n | with_reducible apply IbindT_2 | ((with_reducible apply pkV_ms); exact rfl) | ((with_reducible apply pkV_mo); exact rfl) | ((with_reducible apply upV_m); exact rfl) | ((with_reducible apply look_m); exact rfl) | ((with_reducible apply ow_m); exact rfl) | ((with_reducible apply lst_m); exact rfl) | ((with_reducible apply tup_m); exact rfl) | ((with_reducible apply pkT_m); exact rfl; exact Sl.noConfusion) | with_reducible apply atw))
abbrev CQ := Sl → Om → Prop
abbrev CE := Xn → Om → Prop
/-- a piece that Python can hold -/
def fineP (p : Cs) : Prop := SeqAt.shaped (.str ⟨p.toArray⟩) = true ∧ p.length ≤ 1000000
structure Ok (b : Bs) : Prop where
  P : b.P = Pd
  g19 : b.gv 19 = some (.int 60)
  g20 : b.gv 20 = some (.int 12)
  g21 : b.gv 21 = some (.int 1000000000000)
  g22 : b.gv 22 = some (.str "abcdefghijklmnopqrstuvwxyz")
  g23 : b.gv 23 = some (.str "0123456789")
  r14 : ∀ (s : Str) (k : D) (ω : Om) (Q : CQ) (E : CE), E ⟨"NoText", some ("line", k)⟩ ω → b.pr 14 [.str s, k] ω Q E
theorem ite_fals {α : Sort _} {A B : α} : (if false = true then A else B) = B := by simp
theorem ite_tru {α : Sort _} {A B : α} : (if true = true then A else B) = A := by simp
section
variable {b : Bs} {ω : Om} {Q : CQ} {E : CE} {n : Nat}
theorem lvgv {g : Nat} : (lv b n).gv g = b.gv g := rfl
theorem lcGo_ind {bd : D → En → Om → (Option D → En → Om → Prop) → Prop} {R : En → Prop} {g : D → Option D} {Q : List D → En → Om → Prop} : ∀ {ds acc : List D} {ρ : En}, (∀ d ∈ ds, ∀ ρ k, R ρ → (∀ ρ', R ρ' → k (g d) ρ' ω) → bd d ρ ω k) → acc.length + ds.length ≤ sizeLine → R ρ →
    (∀ ρ', R ρ' → Q (acc ++ ds.filterMap g) ρ' ω) → lcGo bd ds acc ρ ω Q
  | [], acc, ρ, hb, l, r, q => by
    have z := q ρ r
    simpa [lcGo] using z
  | d :: ds, acc, ρ, hb, l, r, q => by
    simp only [lcGo]
    refine hb d List.mem_cons_self ρ _ r fun ρ' r' => ?_
    simp only [List.length_cons] at l
    cases e : g d with
    | none =>
      refine lcGo_ind (fun d hd => hb d (List.mem_cons_of_mem _ hd)) (by omega) r' fun ρ'' r'' => ?_
      have z := q ρ'' r''
      simpa [List.filterMap_cons, e] using z
    | some x =>
      refine ⟨by omega, lcGo_ind (fun d hd => hb d (List.mem_cons_of_mem _ hd)) (by simp; omega) r' fun ρ'' r'' => ?_⟩
      have z := q ρ'' r''
      simpa [List.filterMap_cons, e] using z
theorem toBs_map {α : Type} (f : α → Bool) : ∀ xs : List α, toBs (xs.map fun x => .bool (f x)) = some (xs.map f)
  | [] => rfl
  | x :: xs => by simp [toBs, toBs_map f xs]
theorem in_small (c : Nat) : decide (c ∈ ("abcdefghijklmnopqrstuvwxyz" : Str).cps.toList) = small c := by
  have e : ("abcdefghijklmnopqrstuvwxyz" : Str).cps.toList = List.range' 97 26 := by decide +kernel
  rw [e]
  unfold small
  rw [← Bool.decide_and]
  apply decide_eq_decide.mpr
  rw [List.mem_range'_1]
  omega
theorem in_figs (c : Nat) : decide (c ∈ ("0123456789" : Str).cps.toList) = digit c := by
  have e : ("0123456789" : Str).cps.toList = List.range' 48 10 := by decide +kernel
  rw [e]
  unfold digit
  rw [← Bool.decide_and]
  apply decide_eq_decide.mpr
  rw [List.mem_range'_1]
  omega
theorem in_marks (c : Nat) : decide (c ∈ ("() " : Str).cps.toList) = special c := by
  have e : ("() " : Str).cps.toList = [40, 41, 32] := by decide +kernel
  rw [e]
  unfold special
  rw [← Bool.decide_or, ← Bool.decide_or]
  apply decide_eq_decide.mpr
  simp [or_assoc]
def chF (f : Nat → Bool) : D → Option D
  | .str ⟨⟨[c]⟩⟩ => some (.bool (f c))
  | _ => none
theorem chF_map (f : Nat → Bool) : ∀ cs : List Nat, (cs.map fun c => PyData.str ⟨#[c]⟩).filterMap (chF f) = cs.map fun c => PyData.bool (f c)
  | [] => rfl
  | c :: cs => by
    simp only [List.map_cons, List.filterMap_cons, chF_map f cs]
    rfl
def nod : D → Bool
  | .dict _ => false
  | _ => true
/-- a text that Python can hold -/
def tx (s : Str) : Prop := SeqAt.shaped (.str s) = true ∧ s.length ≤ sizeLine
def isW : D → Bool
  | .str s => isWord s.cps.toList
  | _ => false
def isF : D → Bool
  | .int i => decide (i.natAbs < 10 ^ 12)
  | _ => false
theorem empty_eq (s : Str) : PyData.eqv (.str s) (.str "") = s.cps.toList.isEmpty := by
  show (s == ("" : Str)) = _
  have e : ("" : Str) = ⟨#[]⟩ := by decide +kernel
  rw [e]
  obtain ⟨⟨l⟩⟩ := s
  cases l with
  | nil => rfl
  | cons c l =>
    have z : ((⟨⟨c :: l⟩⟩ : Str) == (⟨#[]⟩ : Str)) = false := by
      rw [beq_eq_false_iff_ne]
      intro q
      cases q
    rw [z]
    rfl
theorem t24 (h : Ok b) {d : D} (hd : nod d = true) (hs : ∀ s, d = .str s → tx s) (q : Q (.sh (.bool (isW d))) ω) : (lv b (n + 1)).cl 24 [d] ω Q E := by
  rw [lv_def (fd := d24) (by rw [h.P]; rfl), callF_1 rfl]
  cases d with
  | str s =>
    obtain ⟨h1, h2⟩ := hs s rfl
    walk_at "RUN"
    refine got_mk (a := .bool (!s.cps.toList.isEmpty)) ?_ ?_
    · simp only [Sl_s, cmp_Ne, eqD, h1, show SeqAt.shaped (.str "") = true from by decide +kernel, and_self, if_true, Option.map_some, empty_eq]
    · walk_at "RUN"
      refine br_i (fun e => ?_) fun e => ?_
      · walk_at "RUN"
        refine lcGo_ind (R := fun ρ => ∃ y, ρ = [.sh (.str s), y]) (g := chF small) ?_ ?_ ⟨_, rfl⟩ ?_
        · intro d hd ρ k ⟨y, hy⟩ hk
          obtain ⟨c, hc, rfl⟩ := List.mem_map.mp hd
          subst hy
          walk_at "RUN"
          refine got_mk h.g22 ?_
          walk_at "RUN"
          rw [in_small]
          exact hk _ ⟨_, rfl⟩
        · have z : s.cps.toList.length = s.length := by simp [Str.length]
          simp only [List.length_nil, List.length_map]
          omega
        · rintro ρ' ⟨y, rfl⟩
          refine Eq.mpr evs_nil ?_
          refine got_mk (a := (false, .bool ((s.cps.toList.map small).all id))) ?_ ?_
          · simp only [Sl_o, List.nil_append, chF_map, bif_all, toBs_map, Option.map_some]
          · walk_at "RUN"
            have e' : s.cps.toList.isEmpty = false := by simpa using e
            have z : isW (.str s) = (s.cps.toList.map small).all id := by
              show (!s.cps.toList.isEmpty && s.cps.toList.all small) = _
              rw [e', List.all_map]
              rfl
            rw [z] at q
            first | exact q | exact dQ_id q
      · have e' : s.cps.toList.isEmpty = true := by simpa using e
        have z : isW (.str s) = false := by
          show (!s.cps.toList.isEmpty && s.cps.toList.all small) = _
          rw [e']
          rfl
        rw [z] at q
        first | exact q | exact dQ_id q
  | dict _ => cases hd
  | _ =>
    walk_at "RUN"
    first | exact q | exact dQ_id q
def AtW (ω : Om) (A : Prop) (ω' : Om) : Prop := A ∧ ω' = ω
theorem atw {ω : Om} {A : Prop} (h : A) : AtW ω A ω := ⟨h, rfl⟩
theorem for_ind {L : Lv} {tg : Tg} {a : List St'} {F : Fl} {I : List D → En → Prop}
    (step : ∀ d ds ρ, I (d :: ds) ρ → bindT tg d ρ fun ρ => exs L a ρ ω (F.lp fun ρ' ω' => AtW ω (I ds ρ') ω')) :
    ∀ (ds : List D) (ρ : En), I ds ρ → (∀ ρ, I [] ρ → F.nx ρ ω) → loopF L tg a ds ρ ω F
  | [], ρ, i, q => q ρ i
  | d :: ds, ρ, i, q => by
    show bindT tg d ρ fun ρ' => exs L a ρ' ω _
    exact bindT_imp (step d ds ρ i) fun ρ h => exs_mono a h ⟨fun ρ' _ i => i.2 ▸ for_ind step ds ρ' i.1 q, fun _ _ h => h, fun _ _ h => h, fun ρ' _ i => i.2 ▸ for_ind step ds ρ' i.1 q, fun _ _ h => h⟩
theorem wh_ind {L : Lv} {c : Ex} {a : List St'} {F : Fl} {I : En → Prop} {μ : En → Nat}
    (step : ∀ ρ, I ρ → ev L c ρ ω (fun x ρ' ω1 => got (toB x.d) fun k => br k (exs L a ρ' ω1 (F.lp fun ρ'' ω'' => AtW ω (I ρ'' ∧ μ ρ'' < μ ρ) ω'')) (F.nx ρ' ω1)) F.ex) :
    ∀ (m : Nat) (ρ : En), μ ρ < m → I ρ → ∃ n, loopW L c a n ρ ω F := by
  intro m
  suffices h : ∀ (m : Nat) (ρ : En), μ ρ < m → I ρ → loopW L c a m ρ ω F from fun ρ hm i => ⟨m, h m ρ hm i⟩
  intro m
  induction m with
  | zero => intro ρ hm; exact absurd hm (Nat.not_lt_zero _)
  | succ m ih =>
    intro ρ hm i
    unfold loopW
    simp only [whGo]
    refine ev_mono c (step ρ i) (fun x ρ' ω' h => got_imp h fun k h => ?_) fun _ _ h => h
    cases k with
    | true =>
      simp only [if_true, br] at h ⊢
      exact exs_mono a h ⟨fun ρ'' ω2 (i : AtW ω (I ρ'' ∧ μ ρ'' < μ ρ) ω2) => by obtain ⟨i, rfl⟩ := i; exact ih ρ'' (by omega) i.1, fun _ _ h => h, fun _ _ h => h, fun ρ'' ω2 (i : AtW ω (I ρ'' ∧ μ ρ'' < μ ρ) ω2) => by obtain ⟨i, rfl⟩ := i; exact ih ρ'' (by omega) i.1, fun _ _ h => h⟩
    | false =>
      simp only [Bool.false_eq_true, if_false, br] at h ⊢
      exact h
theorem t25 (h : Ok b) {d : D} (hd : nod d = true) (hb : ∀ k, d ≠ .bool k) (q : Q (.sh (.bool (isF d))) ω) : (lv b (n + 1)).cl 25 [d] ω Q E := by
  rw [lv_def (fd := d25) (by rw [h.P]; rfl), callF_1 rfl]
  cases d with
  | dict _ => cases hd
  | bool k => exact absurd rfl (hb k)
  | int i =>
    walk_at "RUN"
    refine got_mk h.g21 ?_
    walk_at "RUN"
    have e : decide ((if i < 0 then -i else i) < 1000000000000) = decide (i.natAbs < 10 ^ 12) := by
      apply decide_eq_decide.mpr
      split <;> omega
    show Q (.sh (.bool (decide ((if i < 0 then -i else i) < 1000000000000)))) ω
    rw [e]
    first | exact q | exact dQ_id q
  | _ =>
    walk_at "RUN"
    first | exact q | exact dQ_id q
theorem t25b (h : Ok b) {k : Bool} (q : Q (.sh (.bool false)) ω) : (lv b (n + 1)).cl 25 [.bool k] ω Q E := by
  rw [lv_def (fd := d25) (by rw [h.P]; rfl), callF_1 rfl]
  walk_at "RUN"
  first | exact q | exact dQ_id q
mutual
def fine : D → Bool
  | .str s => SeqAt.shaped (.str s) && decide (s.length ≤ sizeLine)
  | .list ds => fineAll ds
  | .tuple ds => fineAll ds
  | .dict _ => false
  | _ => true
def fineAll : List D → Bool
  | [] => true
  | d :: ds => fine d && fineAll ds
def cnt : D → Nat
  | .tuple ds => cntAll ds + 1
  | _ => 1
def cntAll : List D → Nat
  | [] => 0
  | d :: ds => cnt d + cntAll ds
end
theorem fine_nod {d : D} (h : fine d = true) : nod d = true := by
  cases d <;> first | rfl | (simp [fine] at h)
theorem fine_tx {d : D} (h : fine d = true) : ∀ s, d = .str s → tx s := by
  rintro s rfl
  simpa [fine, tx] using h
/-- one of a layer may stand there: r turns are left -/
def eo (r : Nat) : D → Bool
  | .tuple _ => decide (1 < r)
  | .none => true
  | .str s => isWord s.cps.toList
  | .int i => decide (i.natAbs < 10 ^ 12)
  | _ => false
def subs : D → List D
  | .tuple ds => ds
  | _ => []
def lay : Nat → List D → Bool
  | 0, _ => false
  | r + 1, ds => ds.all (eo (r + 1)) && ((ds.flatMap subs).isEmpty || lay r (ds.flatMap subs))
def isv (d : D) : Bool := lay 60 [d]
theorem fineAll_mem : ∀ {ds : List D}, fineAll ds = true ↔ ∀ d ∈ ds, fine d = true
  | [] => by simp [fineAll]
  | d :: ds => by simp [fineAll, fineAll_mem (ds := ds)]
theorem fine_subs {d : D} (h : fine d = true) : fineAll (subs d) = true := by
  cases d <;> first | rfl | (simpa [fine, subs] using h)
theorem fine_flat {ds : List D} (h : fineAll ds = true) : fineAll (ds.flatMap subs) = true := by
  rw [fineAll_mem] at h ⊢
  intro d hd
  obtain ⟨e, he, hd⟩ := List.mem_flatMap.mp hd
  exact fineAll_mem.mp (fine_subs (h e he)) d hd
theorem cntAll_app : ∀ (a c : List D), cntAll (a ++ c) = cntAll a + cntAll c
  | [], c => by simp [cntAll]
  | d :: a, c => by simp [cntAll, cntAll_app a c]; omega
theorem cnt_subs (d : D) : cntAll (subs d) ≤ cnt d - 1 := by
  cases d <;> simp [subs, cnt, cntAll]
theorem cnt_pos (d : D) : 1 ≤ cnt d := by
  cases d <;> simp [cnt]
theorem cnt_flat : ∀ ds : List D, cntAll (ds.flatMap subs) ≤ cntAll ds
  | [] => Nat.le_refl _
  | d :: ds => by
    have h1 := cnt_flat ds
    have h2 := cnt_subs d
    have h3 := cnt_pos d
    simp only [List.flatMap_cons, cntAll_app, cntAll]
    omega
theorem cnt_len : ∀ ds : List D, ds.length ≤ cntAll ds
  | [] => Nat.le_refl _
  | d :: ds => by
    have h1 := cnt_len ds
    have h3 := cnt_pos d
    simp only [List.length_cons, cntAll]
    omega
end
end K8
namespace K8
open PySem PySem.Spec L2 Ev K8M
local macro_rules | `(tactic| walk_at "RUN") => `(tactic| repeat (first | ((with_reducible apply isGot); (with_reducible apply got_mk); exact rfl) | ((with_reducible apply isEv); first | with_reducible apply Iev_var | with_reducible apply Iev_int | with_reducible apply Iev_str | with_reducible apply Iev_cmp | with_reducible apply Iev_call | with_reducible apply Iev_bi | with_reducible apply Iev_and | with_reducible apply Iev_isi | with_reducible apply Iev_gc | with_reducible apply Iev_not | with_reducible apply Iev_sub | with_reducible apply Iev_bin | with_reducible apply Iev_tup | with_reducible apply Iev_lst | with_reducible apply Iev_or | with_reducible apply Iev_lc | with_reducible apply Iev_ife | with_reducible apply Iev_emp | with_reducible apply Iev_isN | with_reducible apply Iev_non | with_reducible apply Iev_bl | with_reducible apply Iev_cmp2 | with_reducible apply Iev_callK | with_reducible apply Iev_isi2 | with_reducible apply Iev_slL | with_reducible apply Iev_slH | with_reducible apply Iev_slB | with_reducible apply Iev_join | with_reducible apply Iev_pop | with_reducible apply Iev_reprEq | with_reducible apply Iev_usub | with_reducible apply Iev_subv | with_reducible apply Iev_dk | with_reducible apply Iev_dkEmp | with_reducible apply Iev_dkPop0 | with_reducible apply Iev_dNew | with_reducible apply Iev_lNew | with_reducible apply Iev_cTup | with_reducible apply Iev_word) | ((with_reducible apply rdV_ms); exact rfl) | ((with_reducible apply rdV_mo); exact rfl) | ((with_reducible apply br_mt); exact rfl) | ((with_reducible apply br_mf); exact rfl) | ((with_reducible apply isEx); first | with_reducible apply Iex_ife | with_reducible apply Iex_asg | with_reducible apply Iex_ret | with_reducible apply Iex_fr | with_reducible apply Iex_par | with_reducible apply Iex_aug | with_reducible apply Iex_exp | with_reducible apply Iex_app | with_reducible apply Iex_ext | with_reducible apply Iex_raise | with_reducible apply Iex_whl | with_reducible apply Iex_dkSet | with_reducible apply Iex_cApp | with_reducible apply Iex_brk | with_reducible apply Iex_cont | ((with_reducible apply rv_s); exact rfl) | ((with_reducible apply rv_o); exact rfl)) | with_reducible apply Isx_nx | with_reducible apply Isx_rt | with_reducible apply Ilp_nx | with_reducible apply Ilp_rt | with_reducible apply Ifl_rt | with_reducible apply Isx_ct | with_reducible apply Isx_ex | with_reducible apply Ilp_ct | with_reducible apply Ilp_ex | with_reducible apply Ifl_ex | with_reducible apply Ifl_nx | with_reducible apply Isx_bk | with_reducible apply Ilp_bk | with_reducible apply Iexs_nil | with_reducible apply Iexs_cons | ((with_reducible apply isExs); apply Iexs_cons) | with_reducible apply Ievs_nil | with_reducible apply Ievs_cons | with_reducible apply IevAnd_1 | with_reducible apply IevAnd_2 | with_reducible apply IevI_val | with_reducible apply IevI_rng | with_reducible apply IevI_er | with_reducible apply IevOr_1 | with_reducible apply IevOr_2 | with_reducible apply IevIf_0 | with_reducible apply IevIf_1 | with_reducible apply IbindT_n | with_reducible apply IbindT_2 | ((with_reducible apply pkV_ms); exact rfl) | ((with_reducible apply pkV_mo); exact rfl) | ((with_reducible apply upV_m); exact rfl) | ((with_reducible apply look_m); exact rfl) | ((with_reducible apply ow_m); exact rfl) | ((with_reducible apply lst_m); exact rfl) | ((with_reducible apply tup_m); exact rfl) | ((with_reducible apply pkT_m); exact rfl; exact Sl.noConfusion) | with_reducible apply atw))
section
variable {b : Bs} {ω : Om} {Q : CQ} {E : CE} {n : Nat}
theorem rdV_x {i : Nat} {ρ : En} {d : D} {k : D → En → Prop} {x : Sl} (h : ρ[i]? = some x) (hx : x = .sh d ∨ x = .ow d) (q : k d (ρ.set i (.sh d))) : rdV ρ i k := by
  rcases hx with rfl | rfl
  · refine rdV_ms h ?_
    have e : ρ.set i (.sh d) = ρ := set_same h
    rw [e] at q
    first | exact q | exact dQ_id q
  · exact rdV_mo h q
theorem t26 (h : Ok b) {d : D} (hd : fine d = true) (hc : cnt d ≤ sizeLine) (q : Q (.sh (.bool (isv d))) ω) : (lv b (n + 2)).cl 26 [d] ω Q E := by
  rw [lv_def (fd := d26) (by rw [h.P]; rfl), callF_1 rfl]
  walk_at "RUN"
  refine ⟨by have := sizeLine_eq; show 1 ≤ sizeLine; omega, ?_⟩
  walk_at "RUN"
  refine got_mk h.g19 ?_
  walk_at "RUN"
  refine ⟨by decide, ?_⟩
  have e60 : ((List.range (Int.toNat 60)).map fun (i : Nat) => (PyData.int (i : Int))) = (List.range' (60 - 60) 60).map fun (i : Nat) => PyData.int (i : Int) := by
    rw [List.range_eq_range'] <;> rfl
  rw [e60]
  refine for_ind (I := fun rest ρ => ∃ (r : Nat) (layer : List D) (sl y2 y3 y4 : Sl), ρ = [.sh d, sl, y2, y3, y4] ∧ (sl = .sh (.list layer) ∨ sl = .ow (.list layer)) ∧ fineAll layer = true ∧ cntAll layer ≤ sizeLine ∧ r ≤ 60 ∧
    rest = (List.range' (60 - r) r).map (fun (i : Nat) => PyData.int (i : Int)) ∧ lay r layer = isv d) ?_ _ _ ⟨60, [d], _, _, _, _, rfl, .inr rfl, by simp [fineAll, hd], by simp [cntAll, hc], Nat.le_refl _, rfl, rfl⟩ ?_
  · rintro x rest ρ ⟨r, layer, sl, y2, y3, y4, rfl, hsl, hf, hcn, hr, hrest, hlay⟩
    cases r with
    | zero => cases hrest
    | succ r =>
      have er : 60 - (r + 1) + 1 = 60 - r := by omega
      simp only [List.range'_succ, List.map_cons, List.cons.injEq, er] at hrest
      obtain ⟨rfl, rfl⟩ := hrest
      walk_at "RUN"
      refine ⟨by have := sizeLine_eq; show 0 ≤ sizeLine; omega, ?_⟩
      walk_at "RUN"
      refine rdV_x (x := sl) (d := .list layer) rfl hsl ?_
      walk_at "RUN"
      refine for_ind (I := fun rest ρ => ∃ (acc : List D) (y4 : Sl) (done : List D), ρ = [.sh d, .sh (.list layer), .sh (.int ((60 - (r + 1) : Nat) : Int)), .ow (.list acc), y4] ∧ layer = done ++ rest ∧ done.all (eo (r + 1)) = true ∧ acc = if 1 < r + 1 then done.flatMap subs else []) ?_ _ _ ⟨[], _, [], rfl, rfl, rfl, by simp⟩ ?_
      · rintro one rest ρ ⟨acc, y4, done, rfl, hl, ha, hacc⟩
        have hone : fine one = true := fineAll_mem.mp hf one (by rw [hl]; simp)
        have bad : eo (r + 1) one = false → isv d = false := by
          intro he
          rw [← hlay]
          have z : layer.all (eo (r + 1)) = false := by rw [hl]; simp [he]
          simp [lay, z]
        have leaf : ∀ {y : Sl}, eo (r + 1) one = true → subs one = [] → ∃ (acc' : List D) (y4 : Sl) (done' : List D), [Sl.sh d, .sh (.list layer), .sh (.int ((60 - (r + 1) : Nat) : Int)), .ow (.list acc), y] = [.sh d, .sh (.list layer), .sh (.int ((60 - (r + 1) : Nat) : Int)), .ow (.list acc'), y4] ∧ layer = done' ++ rest ∧ done'.all (eo (r + 1)) = true ∧ acc' = if 1 < r + 1 then done'.flatMap subs else [] := by
          intro y he hs
          exact ⟨_, _, done ++ [one], rfl, by rw [hl]; simp, by simp [ha, he], by rw [hacc]; simp [hs]⟩
        have no : eo (r + 1) one = false → Q (.sh (.bool false)) ω := fun he => by
          rw [bad he] at q
          first | exact q | exact dQ_id q
        cases one with
        | none =>
          walk_at "RUN"
          exact leaf rfl rfl
        | tuple ds =>
          walk_at "RUN"
          refine got_mk h.g19 ?_
          walk_at "RUN"
          refine br_i (fun e => ?_) fun e => ?_
          · have e1 : (((60 - (r + 1) : Nat) : Int)) < 60 - 1 := of_decide_eq_true e
            have hr1 : 1 < r + 1 := by omega
            rw [if_pos hr1] at hacc
            walk_at "RUN"
            refine ⟨ds, .inr rfl, ?_, ?_⟩
            · have c1 := cnt_flat layer
              have c2 := cnt_len (layer.flatMap subs)
              rw [hl, List.flatMap_append, List.flatMap_cons, List.length_append, List.length_append, ← hacc] at c2
              rw [hl, List.flatMap_append, List.flatMap_cons, ← hacc] at c1
              have c3 : cntAll (done ++ .tuple ds :: rest) = cntAll layer := by rw [hl]
              have c4 : (subs (.tuple ds)).length = ds.length := rfl
              omega
            · walk_at "RUN"
              refine ⟨_, _, done ++ [.tuple ds], rfl, by rw [hl]; simp, by simp [ha, eo, hr1], ?_⟩
              rw [if_pos hr1, hacc]
              simp [subs]
          · have e1 : ¬ (((60 - (r + 1) : Nat) : Int)) < 60 - 1 := of_decide_eq_false e
            have hr1 : ¬ 1 < r + 1 := by omega
            have he : eo (r + 1) (.tuple ds) = false := decide_eq_false hr1
            walk_at "RUN"
            refine t24 h rfl (fun s z => nomatch z) ?_
            walk_at "RUN"
            refine t25 h rfl (fun s z => nomatch z) ?_
            walk_at "RUN"
            exact no he
        | bool k =>
          walk_at "RUN"
          refine t24 h rfl (fun s z => nomatch z) ?_
          walk_at "RUN"
          refine t25b h ?_
          walk_at "RUN"
          exact no rfl
        | int i =>
          walk_at "RUN"
          refine t24 h rfl (fun s z => nomatch z) ?_
          walk_at "RUN"
          refine t25 h rfl (fun s z => nomatch z) ?_
          walk_at "RUN"
          refine br_i (fun e => ?_) fun e => ?_
          · walk_at "RUN"
            have z : (!isF (.int i)) = true := e
            exact no (show isF (.int i) = false by simpa using z)
          · walk_at "RUN"
            have z : (!isF (.int i)) = false := e
            exact leaf (show isF (.int i) = true by simpa using z) rfl
        | str s =>
          walk_at "RUN"
          refine t24 h rfl (fine_tx hone) ?_
          walk_at "RUN"
          refine br_i (fun e => ?_) fun e => ?_
          · walk_at "RUN"
            refine t25 h rfl (fun s z => nomatch z) ?_
            walk_at "RUN"
            have z : (!isW (.str s)) = true := e
            exact no (show isW (.str s) = false by simpa using z)
          · walk_at "RUN"
            have z : (!isW (.str s)) = false := e
            exact leaf (show isW (.str s) = true by simpa using z) rfl
        | list ds =>
          walk_at "RUN"
          refine t24 h rfl (fun s z => nomatch z) ?_
          walk_at "RUN"
          refine t25 h rfl (fun s z => nomatch z) ?_
          walk_at "RUN"
          exact no rfl
        | dict kvs => simp [fine] at hone
      · rintro ρ ⟨acc, y4, done, rfl, hl, ha, hacc⟩
        simp only [List.append_nil] at hl
        subst hl
        have hflat : acc = layer.flatMap subs := by
          rw [hacc]
          split
          · rfl
          · rename_i hr1
            symm
            rw [List.flatMap_eq_nil_iff]
            intro x hx
            have z := List.all_eq_true.mp ha x hx
            cases x <;> first | rfl | (simp only [eo, decide_eq_true_eq] at z; exact absurd z hr1)
        walk_at "RUN"
        refine br_i (fun e => ?_) fun e => ?_
        · walk_at "RUN"
          have z : isv d = true := by
            rw [← hlay]
            simp only [lay, ha, ← hflat, Bool.true_and]
            have z : acc.isEmpty = true := by simpa using e
            rw [z]
            rfl
          rw [z] at q
          first | exact q | exact dQ_id q
        · walk_at "RUN"
          have z : acc.isEmpty = false := by simpa using e
          have hf' := fine_flat hf
          have hc' := cnt_flat layer
          rw [← hflat] at hf' hc'
          refine ⟨r, acc, _, _, _, _, rfl, .inl rfl, hf', by omega, by omega, rfl, ?_⟩
          rw [← hlay]
          simp only [lay, ha, ← hflat, Bool.true_and, z, Bool.false_or]
  · rintro ρ ⟨r, layer, sl, y2, y3, y4, rfl, hsl, hf, hcn, hr, hrest, hlay⟩
    cases r with
    | succ r => cases hrest
    | zero =>
      walk_at "RUN"
      have e : isv d = false := hlay.symm
      rw [e] at q
      first | exact q | exact dQ_id q
end
end K8
namespace K8
open PySem PySem.Spec L2 Ev K8M
local macro_rules | `(tactic| walk_at "RUN") => `(tactic| repeat (first | ((with_reducible apply isGot); (with_reducible apply got_mk); exact rfl) | ((with_reducible apply isEv); first | with_reducible apply Iev_var | with_reducible apply Iev_int | with_reducible apply Iev_str | with_reducible apply Iev_cmp | with_reducible apply Iev_call | with_reducible apply Iev_bi | with_reducible apply Iev_and | with_reducible apply Iev_isi | with_reducible apply Iev_gc | with_reducible apply Iev_not | with_reducible apply Iev_sub | with_reducible apply Iev_bin | with_reducible apply Iev_tup | with_reducible apply Iev_lst | with_reducible apply Iev_or | with_reducible apply Iev_lc | with_reducible apply Iev_ife | with_reducible apply Iev_emp | with_reducible apply Iev_isN | with_reducible apply Iev_non | with_reducible apply Iev_bl | with_reducible apply Iev_cmp2 | with_reducible apply Iev_callK | with_reducible apply Iev_isi2 | with_reducible apply Iev_slL | with_reducible apply Iev_slH | with_reducible apply Iev_slB | with_reducible apply Iev_join | with_reducible apply Iev_pop | with_reducible apply Iev_reprEq | with_reducible apply Iev_usub | with_reducible apply Iev_subv | with_reducible apply Iev_dk | with_reducible apply Iev_dkEmp | with_reducible apply Iev_dkPop0 | with_reducible apply Iev_dNew | with_reducible apply Iev_lNew | with_reducible apply Iev_cTup | with_reducible apply Iev_word) | ((with_reducible apply rdV_ms); exact rfl) | ((with_reducible apply rdV_mo); exact rfl) | ((with_reducible apply br_mt); exact rfl) | ((with_reducible apply br_mf); exact rfl) | ((with_reducible apply isEx); first | with_reducible apply Iex_ife | with_reducible apply Iex_asg | with_reducible apply Iex_ret | with_reducible apply Iex_fr | with_reducible apply Iex_par | with_reducible apply Iex_aug | with_reducible apply Iex_exp | with_reducible apply Iex_app | with_reducible apply Iex_ext | with_reducible apply Iex_raise | with_reducible apply Iex_whl | with_reducible apply Iex_dkSet | with_reducible apply Iex_cApp | with_reducible apply Iex_brk | with_reducible apply Iex_cont | ((with_reducible apply rv_s); exact rfl) | ((with_reducible apply rv_o); exact rfl)) | with_reducible apply Isx_nx | with_reducible apply Isx_rt | with_reducible apply Ilp_nx | with_reducible apply Ilp_rt | with_reducible apply Ifl_rt | with_reducible apply Isx_ct | with_reducible apply Isx_ex | with_reducible apply Ilp_ct | with_reducible apply Ilp_ex | with_reducible apply Ifl_ex | with_reducible apply Ifl_nx | with_reducible apply Isx_bk | with_reducible apply Ilp_bk | with_reducible apply Iexs_nil | with_reducible apply Iexs_cons | ((with_reducible apply isExs); apply Iexs_cons) | with_reducible apply Ievs_nil | with_reducible apply Ievs_cons | with_reducible apply IevAnd_1 | with_reducible apply IevAnd_2 | with_reducible apply IevI_val | with_reducible apply IevI_rng | with_reducible apply IevI_er | with_reducible apply IevOr_1 | with_reducible apply IevOr_2 | with_reducible apply IevIf_0 | with_reducible apply IevIf_1 | with_reducible apply IbindT_n | with_reducible apply IbindT_2 | ((with_reducible apply pkV_ms); exact rfl) | ((with_reducible apply pkV_mo); exact rfl) | ((with_reducible apply upV_m); exact rfl) | ((with_reducible apply look_m); exact rfl) | ((with_reducible apply ow_m); exact rfl) | ((with_reducible apply lst_m); exact rfl) | ((with_reducible apply tup_m); exact rfl) | ((with_reducible apply pkT_m); exact rfl; exact Sl.noConfusion) | with_reducible apply atw))
section
variable {b : Bs} {ω : Om} {Q : CQ} {E : CE} {n : Nat}
mutual
def sz : D → Nat
  | .tuple ds => szAll ds + 2 * ds.length + 3
  | _ => 1
def szAll : List D → Nat
  | [] => 0
  | d :: ds => sz d + szAll ds
end
theorem szAll_app : ∀ a c : List D, szAll (a ++ c) = szAll a + szAll c
  | [], c => by simp [szAll]
  | d :: a, c => by simp [szAll, szAll_app a c]; omega
theorem szAll_rev (a : List D) : szAll a.reverse = szAll a := by
  induction a with
  | nil => rfl
  | cons d a ih => simp [szAll, szAll_app, ih]; omega
/-- what a thing on the stack will give -/
def itx : D → Cs
  | .list [.str s] => s.cps.toList
  | d => lvt d
def stx : List D → Cs
  | [] => []
  | d :: r => stx r ++ itx d
theorem stx_app : ∀ a c : List D, stx (a ++ c) = stx c ++ stx a
  | [], c => by simp [stx]
  | d :: a, c => by simp [stx, stx_app a c, List.append_assoc]
/-- what may lie on the stack -/
def onS : D → Prop
  | .list [.str _] => True
  | d => ok d = true
theorem itx_ok {d : D} (h : ok d = true) : itx d = lvt d := by
  cases d <;> first | rfl | (simp [ok] at h)
theorem onS_ok {d : D} (h : ok d = true) : onS d := by
  cases d <;> first | exact h | (simp [ok] at h)
theorem okAll_mem : ∀ {ds : List D}, okAll ds = true ↔ ∀ d ∈ ds, ok d = true
  | [] => by simp [okAll]
  | d :: ds => by simp [okAll, okAll_mem (ds := ds)]
def sTs (fs : List Cs) : List D := fs.map fun p => .str ⟨p.toArray⟩
theorem joinL_nil : ∀ fs : List Cs, TL.joinL [] fs = fs.flatten
  | [] => rfl
  | [p] => by simp [TL.joinL]
  | p :: q :: r => by
    have z := joinL_nil (q :: r)
    show p ++ ([] ++ TL.joinL [] (q :: r)) = _
    rw [z]
    simp
theorem join_nil (fs : List Cs) : Txt.join "" (fs.map fun p => ⟨p.toArray⟩) = ⟨fs.flatten.toArray⟩ := by
  have e : ("" : Str) = SX.S [] := by decide +kernel
  rw [e, ← joinL_nil]
  exact SX.join_S [] fs
theorem toSs_sTs : ∀ fs : List Cs, toSs (sTs fs) = some (fs.map fun p => ⟨p.toArray⟩)
  | [] => rfl
  | p :: fs => by
    have z := toSs_sTs fs
    unfold sTs at z ⊢
    simp [toSs, z]
theorem t27f (h : Ok b) {d : D} (hd : fine d = true) (hc : cnt d ≤ sizeLine) (hv : isv d = false) (q : E ⟨"NoText", some ("line", .int 0)⟩ ω) : (lv b (n + 3)).cl 27 [d] ω Q E := by
  rw [lv_def (fd := d27) (by rw [h.P]; rfl), callF_1 rfl]
  walk_at "RUN"
  refine t26 (d := d) h hd hc ?_
  rw [hv]
  walk_at "RUN"
  rw [lv_pr (by rw [h.P]; rfl)]
  exact h.r14 _ _ _ _ _ (by walk_at "RUN"; first | exact q | exact dQ_id q)
theorem t27 (h : Ok b) {d : D} (hd : fine d = true) (hc : cnt d ≤ sizeLine) (hv : isv d = true) (ho : ok d = true) (hs : sz d ≤ 1000000) (hl : (lvt d).length ≤ 1000000) (q : Q (.sh (.str ⟨(lvt d).toArray⟩)) ω) : (lv b (n + 3)).cl 27 [d] ω Q E := by
  have hz := sizeLine_eq
  rw [lv_def (fd := d27) (by rw [h.P]; rfl), callF_1 rfl]
  walk_at "RUN"
  refine t26 (d := d) h hd hc ?_
  rw [hv]
  walk_at "RUN"
  refine ⟨by show 0 ≤ sizeLine; omega, ?_⟩
  walk_at "RUN"
  refine ⟨by show 1 ≤ sizeLine; omega, ?_⟩
  walk_at "RUN"
  refine wh_ind (I := fun ρ => ∃ (fs : List Cs) (lf : List D) (y3 y4 y5 : Sl), ρ = [.sh d, .ow (.list (sTs fs)), .ow (.list lf), y3, y4, y5] ∧ fs.length + szAll lf ≤ sz d ∧ (∀ x ∈ lf, onS x) ∧ fs.flatten ++ stx lf = lvt d)
    (μ := fun (ρ : En) => match ρ[2]? with
      | some (Sl.ow (PyData.list lf)) => szAll lf
      | _ => 0) ?_ _ _ (Nat.lt_succ_self _) ⟨[], [d], _, _, _, rfl, by simp [szAll], by simpa using onS_ok ho, by simp [stx, itx_ok ho]⟩
  rintro ρ ⟨fs, lf, y3, y4, y5, rfl, hm, hon, htx⟩
  walk_at "RUN"
  refine br_i (fun e => ?_) fun e => ?_
  · obtain ⟨init, x, rfl⟩ : ∃ init x, lf = init ++ [x] := by
      rcases List.eq_nil_or_concat lf with z | ⟨i, x, z⟩
      · subst z
        cases e
      · exact ⟨i, x, by rw [z, List.concat_eq_append]⟩
    have hx : onS x := hon x (by simp)
    have hi : ∀ y ∈ init, onS y := fun y hy => hon y (by simp [hy])
    have hsum : szAll (init ++ [x]) = szAll init + sz x := by rw [szAll_app]; simp [szAll]
    have hst : stx (init ++ [x]) = itx x ++ stx init := by rw [stx_app]; simp [stx]
    have hdl : (init ++ [x]).dropLast = init := List.dropLast_concat
    rw [hsum] at hm
    rw [hst] at htx
    have hfs : fs.length < sizeLine := by omega
    have hil : init.length ≤ 1000000 := by
      have z : ∀ l : List D, l.length ≤ szAll l := by
        intro l
        induction l with
        | nil => exact Nat.le_refl _
        | cons d l ih =>
          have : 1 ≤ sz d := by cases d <;> simp [sz]
          simp only [List.length_cons, szAll]
          omega
      have := z init
      omega
    have sTs_app : ∀ (s : Str), sTs fs ++ [.str s] = sTs (fs ++ [s.cps.toList]) := fun s => by simp [sTs]
    have put : ∀ {s : Str} {y4 y5 : Sl}, itx x = s.cps.toList → sz x = 1 → (∃ (fs2 : List Cs) (lf : List D) (y3' y4' y5' : Sl), [Sl.sh d, .ow (.list (sTs fs ++ [PyData.str s])), .ow (.list (init ++ [x]).dropLast), .sh x, y4, y5] = [.sh d, .ow (.list (sTs fs2)), .ow (.list lf), y3', y4', y5'] ∧ fs2.length + szAll lf ≤ sz d ∧ (∀ x ∈ lf, onS x) ∧ fs2.flatten ++ stx lf = lvt d) ∧ szAll (init ++ [x]).dropLast < szAll (init ++ [x]) := by
      intro s y4 y5 h1 h2
      rw [hdl, sTs_app, hsum]
      exact ⟨⟨_, _, _, _, _, rfl, by simp; omega, hi, by rw [← htx, ← h1]; simp⟩, by omega⟩
    walk_at "RUN"
    refine got_mk (a := x) (by simp) ?_
    walk_at "RUN"
    cases x with
    | bool k => cases hx
    | dict k => cases hx
    | none =>
      walk_at "RUN"
      refine ⟨by simpa [sTs] using hfs, ?_⟩
      walk_at "RUN"
      exact put (s := "-") rfl rfl
    | str z =>
      walk_at "RUN"
      refine ⟨by simpa [sTs] using hfs, ?_⟩
      walk_at "RUN"
      exact put (s := z) rfl rfl
    | int i =>
      walk_at "RUN"
      have hi' : i.natAbs < 10 ^ 12 := by
        have z : decide (i.natAbs < 10 ^ 12) = true := hx
        exact of_decide_eq_true z
      have hlog : i.natAbs.log2 < 1920 := by
        by_cases z : i.natAbs = 0
        · rw [z]; decide
        · rw [Nat.log2_lt z]
          exact Nat.lt_trans hi' (by decide)
      refine got_mk (a := (false, .str (toString i))) (if_pos hlog) ?_
      walk_at "RUN"
      refine ⟨by simpa [sTs] using hfs, ?_⟩
      walk_at "RUN"
      exact put (s := toString i) rfl rfl
    | list l =>
      obtain ⟨z, rfl⟩ : ∃ z, l = [.str z] := by
        cases l with
        | nil => cases hx
        | cons y l =>
          cases l with
          | cons _ _ => cases y <;> cases hx
          | nil => cases y <;> first | exact ⟨_, rfl⟩ | cases hx
      walk_at "RUN"
      refine ⟨by simpa [sTs] using hfs, ?_⟩
      walk_at "RUN"
      exact put (s := z) rfl rfl
    | tuple ds =>
      walk_at "RUN"
      refine ⟨by show 1 ≤ sizeLine; omega, ?_⟩
      walk_at "RUN"
      refine ⟨by rw [hdl]; omega, ?_⟩
      walk_at "RUN"
      have hds : okAll ds = true := hx
      have szt : sz (.tuple ds) = szAll ds + 2 * ds.length + 3 := rfl
      rw [szt] at hm
      refine for_ind (I := fun rest ρ => ∃ (es dn pu : List D) (y4 y5 : Sl), ρ = [.sh d, .ow (.list (sTs fs)), .ow (.list (init ++ [.list [.str ")"]] ++ pu)), .sh (.tuple ds), y4, y5] ∧ rest = enumD dn.length es ∧ ds = es.reverse ++ dn ∧
        stx pu = (if es = [] then lvtJ dn else lvtK dn) ∧ (∀ y ∈ pu, onS y) ∧ szAll pu ≤ szAll dn + dn.length ∧ pu.length ≤ 2 * dn.length) ?_ _ _ ⟨ds.reverse, [], [], y4, y5, ?_, rfl, by simp, by simp [stx, lvtJ, lvtK], by simp, by simp [szAll], by simp⟩ ?_
      · rintro it rest ρ ⟨es, dn, pu, z4, z5, rfl, hr, hd2, htp, hop, hsp, hlp⟩
        cases es with
        | nil => cases hr
        | cons e1 es =>
          simp only [enumD, List.cons.injEq] at hr
          obtain ⟨rfl, rfl⟩ := hr
          have hlen : ds.length = es.length + 1 + dn.length := by rw [hd2]; simp; omega
          have he1 : ok e1 = true := okAll_mem.mp hds e1 (by rw [hd2]; simp)
          have hd3 : ds = es.reverse ++ (e1 :: dn) := by rw [hd2]; simp
          simp only [List.cons_ne_nil, if_false] at htp
          have hlf : (init ++ [PyData.list [.str ")"]] ++ pu).length + 2 ≤ sizeLine := by
            simp only [List.length_append, List.length_cons, List.length_nil]
            omega
          walk_at "RUN"
          refine br_i (fun e => ?_) fun e => ?_
          · have e' : ((dn.length : Nat) : Int) = ((ds.length : Nat) : Int) - 1 := eq_of_beq e
            have hes : es = [] := List.eq_nil_of_length_eq_zero (by omega)
            subst hes
            walk_at "RUN"
            refine ⟨by show 1 ≤ sizeLine; omega, ?_⟩
            walk_at "RUN"
            refine ⟨[e1], .inl rfl, ?_, ?_⟩
            · simp only [List.length_append, List.length_cons, List.length_nil] at hlf ⊢
              omega
            · walk_at "RUN"
              refine ⟨[], e1 :: dn, pu ++ [e1], .sh (.int (dn.length : Nat)), .sh e1, ?_, rfl, hd3, ?_, ?_, ?_, ?_⟩
              · rw [← List.append_assoc (init ++ _) pu]
                rfl
              · rw [stx_app, htp]
                simp [stx, itx_ok he1, lvtJ]
              · intro y hy
                rcases List.mem_append.mp hy with hy | hy
                · exact hop y hy
                · rw [List.mem_singleton.mp hy]
                  exact onS_ok he1
              · rw [szAll_app]
                simp only [szAll, List.length_cons]
                omega
              · simp only [List.length_append, List.length_cons, List.length_nil]
                omega
          · have e' : ((dn.length : Nat) : Int) ≠ ((ds.length : Nat) : Int) - 1 := fun z => by
              have z2 : ((((dn.length : Nat) : Int) == ((ds.length : Nat) : Int) - 1) : Bool) = true := beq_iff_eq.mpr z
              have e2 : ((((dn.length : Nat) : Int) == ((ds.length : Nat) : Int) - 1) : Bool) = false := e
              rw [e2] at z2
              cases z2
            have hes : es ≠ [] := fun z => by
              rw [z] at hlen
              simp only [List.length_nil] at hlen
              omega
            walk_at "RUN"
            refine ⟨by show 1 ≤ sizeLine; omega, ?_⟩
            walk_at "RUN"
            refine ⟨by show 2 ≤ sizeLine; omega, ?_⟩
            walk_at "RUN"
            refine ⟨[e1, .list [.str " "]], .inl rfl, ?_, ?_⟩
            · simp only [List.length_append, List.length_cons, List.length_nil] at hlf ⊢
              omega
            · walk_at "RUN"
              refine ⟨es, e1 :: dn, pu ++ [e1, .list [.str " "]], .sh (.int (dn.length : Nat)), .sh e1, ?_, rfl, hd3, ?_, ?_, ?_, ?_⟩
              · rw [← List.append_assoc (init ++ _) pu]
                rfl
              · rw [stx_app, htp, if_neg hes]
                have e3 : itx (.list [.str " "]) = [32] := by decide +kernel
                simp [stx, itx_ok he1, lvtK, e3]
              · intro y hy
                rcases List.mem_append.mp hy with hy | hy
                · exact hop y hy
                · rcases List.mem_cons.mp hy with hy | hy
                  · rw [hy]
                    exact onS_ok he1
                  · rw [List.mem_singleton.mp hy]
                    trivial
              · rw [szAll_app]
                have e3 : sz (.list [.str " "]) = 1 := rfl
                simp only [szAll, List.length_cons, e3]
                omega
              · simp only [List.length_append, List.length_cons, List.length_nil]
                omega
      · rw [hdl]
        simp [Sl.d]
      · rintro ρ ⟨es, dn, pu, z4, z5, rfl, hr, hd2, htp, hop, hsp, hlp⟩
        cases es with
        | cons _ _ => cases hr
        | nil =>
          simp only [List.reverse_nil, List.nil_append] at hd2
          subst hd2
          rw [if_pos rfl] at htp
          walk_at "RUN"
          refine ⟨by show 1 ≤ sizeLine; omega, ?_⟩
          walk_at "RUN"
          refine ⟨?_, ?_⟩
          · simp only [List.length_append, List.length_cons, List.length_nil]
            omega
          · walk_at "RUN"
            refine ⟨⟨fs, init ++ [.list [.str ")"]] ++ pu ++ [.list [.str "("]], _, _, _, rfl, ?_, ?_, ?_⟩, ?_⟩
            · simp only [szAll_app, szAll, show sz (.list [.str "("]) = 1 from rfl, show sz (.list [.str ")"]) = 1 from rfl]
              omega
            · intro y hy
              simp only [List.mem_append, List.mem_cons, List.not_mem_nil, or_false] at hy
              rcases hy with ((hy | hy) | hy) | hy
              · exact hi y hy
              · rw [hy]; trivial
              · exact hop y hy
              · rw [hy]; trivial
            · rw [← htx]
              have e1 : itx (.list [.str "("]) = [40] := by decide +kernel
              have e2 : itx (.list [.str ")"]) = [41] := by decide +kernel
              simp only [stx_app, stx, e1, e2, htp, List.nil_append]
              simp [itx, lvt]
            · show szAll (init ++ [.list [.str ")"]] ++ pu ++ [.list [.str "("]]) < szAll (init ++ [.tuple ds])
              rw [hsum, szt]
              simp only [szAll_app, szAll, show sz (.list [.str "("]) = 1 from rfl, show sz (.list [.str ")"]) = 1 from rfl]
              omega
  · have e' : lf = [] := by
      cases lf with
      | nil => rfl
      | cons x l => cases e
    subst e'
    walk_at "RUN"
    refine got_mk (a := .str ⟨(lvt d).toArray⟩) ?_ ?_
    · have e3 : fs.flatten = lvt d := by simpa [stx] using htx
      have e4 : (fs.map fun p => (⟨p.toArray⟩ : Str)).map (·.length) = fs.map List.length := by
        rw [List.map_map]
        rfl
      have e5 : ((fs.map fun p => (⟨p.toArray⟩ : Str)).map (·.length)).sum = (lvt d).length := by
        rw [e4, ← e3, List.length_flatten]
      show joinD (.str "") (.list (sTs fs)) = _
      simp only [joinD, toSs_sTs, Option.bind_some]
      rw [if_pos (by rw [e5]; have : ("" : Str).length = 0 := by decide +kernel
                     rw [this]; omega), join_nil, e3]
    · walk_at "RUN"
      first | exact q | exact dQ_id q
end
end K8
namespace K8
open PySem PySem.Spec L2 Ev K8M
local macro_rules | `(tactic| walk_at "RUN") => `(tactic| repeat (first | ((with_reducible apply isGot); (with_reducible apply got_mk); exact rfl) | ((with_reducible apply isEv); first | with_reducible apply Iev_var | with_reducible apply Iev_int | with_reducible apply Iev_str | with_reducible apply Iev_cmp | with_reducible apply Iev_call | with_reducible apply Iev_bi | with_reducible apply Iev_and | with_reducible apply Iev_isi | with_reducible apply Iev_gc | with_reducible apply Iev_not | with_reducible apply Iev_sub | with_reducible apply Iev_bin | with_reducible apply Iev_tup | with_reducible apply Iev_lst | with_reducible apply Iev_or | with_reducible apply Iev_lc | with_reducible apply Iev_ife | with_reducible apply Iev_emp | with_reducible apply Iev_isN | with_reducible apply Iev_non | with_reducible apply Iev_bl | with_reducible apply Iev_cmp2 | with_reducible apply Iev_callK | with_reducible apply Iev_isi2 | with_reducible apply Iev_slL | with_reducible apply Iev_slH | with_reducible apply Iev_slB | with_reducible apply Iev_join | with_reducible apply Iev_pop | with_reducible apply Iev_reprEq | with_reducible apply Iev_usub | with_reducible apply Iev_subv | with_reducible apply Iev_dk | with_reducible apply Iev_dkEmp | with_reducible apply Iev_dkPop0 | with_reducible apply Iev_dNew | with_reducible apply Iev_lNew | with_reducible apply Iev_cTup | with_reducible apply Iev_word) | ((with_reducible apply rdV_ms); exact rfl) | ((with_reducible apply rdV_mo); exact rfl) | ((with_reducible apply br_mt); exact rfl) | ((with_reducible apply br_mf); exact rfl) | ((with_reducible apply isEx); first | with_reducible apply Iex_ife | with_reducible apply Iex_asg | with_reducible apply Iex_ret | with_reducible apply Iex_fr | with_reducible apply Iex_par | with_reducible apply Iex_aug | with_reducible apply Iex_exp | with_reducible apply Iex_app | with_reducible apply Iex_ext | with_reducible apply Iex_raise | with_reducible apply Iex_whl | with_reducible apply Iex_dkSet | with_reducible apply Iex_cApp | with_reducible apply Iex_brk | with_reducible apply Iex_cont | ((with_reducible apply rv_s); exact rfl) | ((with_reducible apply rv_o); exact rfl)) | with_reducible apply Isx_nx | with_reducible apply Isx_rt | with_reducible apply Ilp_nx | with_reducible apply Ilp_rt | with_reducible apply Ifl_rt | with_reducible apply Isx_ct | with_reducible apply Isx_ex | with_reducible apply Ilp_ct | with_reducible apply Ilp_ex | with_reducible apply Ifl_ex | with_reducible apply Ifl_nx | with_reducible apply Isx_bk | with_reducible apply Ilp_bk | with_reducible apply Iexs_nil | with_reducible apply Iexs_cons | ((with_reducible apply isExs); apply Iexs_cons) | with_reducible apply Ievs_nil | with_reducible apply Ievs_cons | with_reducible apply IevAnd_1 | with_reducible apply IevAnd_2 | with_reducible apply IevI_val | with_reducible apply IevI_rng | with_reducible apply IevI_er | with_reducible apply IevOr_1 | with_reducible apply IevOr_2 | with_reducible apply IevIf_0 | with_reducible apply IevIf_1 | with_reducible apply IbindT_n | with_reducible apply IbindT_2 | ((with_reducible apply pkV_ms); exact rfl) | ((with_reducible apply pkV_mo); exact rfl) | ((with_reducible apply upV_m); exact rfl) | ((with_reducible apply look_m); exact rfl) | ((with_reducible apply ow_m); exact rfl) | ((with_reducible apply lst_m); exact rfl) | ((with_reducible apply tup_m); exact rfl) | ((with_reducible apply pkT_m); exact rfl; exact Sl.noConfusion) | with_reducible apply atw))
section
variable {b : Bs} {ω : Om} {Q : CQ} {E : CE} {n : Nat}
theorem len_s {z : Str} (h : z.length ≤ sizeLine) : bifD .len [.str z] = some (false, .int (Int.ofNat z.length)) := by
  show (lenD (.str z)).map _ = _
  simp only [lenD, h, if_true, Option.map_some]
theorem at_nat {α : Type} {xs : List α} {i : Nat} {c : α} (h : xs[i]? = some c) : atI xs (i : Nat) = some c := by
  obtain ⟨hi, _⟩ := List.getElem?_eq_some_iff.mp h
  unfold atI ixN
  rw [if_pos (by omega), if_pos (by omega)]
  simpa using h
theorem sub_str {z : Str} {i : Nat} {c : Nat} (h : z.length ≤ sizeLine) (hc : z.cps.toList[i]? = some c) : subD (.str z) (.int (i : Nat)) = some (.str ⟨#[c]⟩) := by
  simp only [subD, h, if_true, at_nat hc, Option.map_some]
theorem sub_str' {z : Str} {i : Nat} {k : Int} {c : Nat} (hk : k = (i : Nat)) (h : z.length ≤ sizeLine) (hc : z.cps.toList[i]? = some c) : subD (.str z) (.int k) = some (.str ⟨#[c]⟩) := by
  rw [hk]
  exact sub_str h hc
theorem cut_str {z : Str} {i j : Nat} {lo hi : Int} (h1 : lo = (i : Nat)) (h2 : hi = (j : Nat)) (h : z.length ≤ sizeLine) (hi' : i ≤ z.length) (hj : j ≤ z.length) : slD (.str z) (some lo) (some hi) = some (.str ⟨((z.cps.toList.drop i).take (j - i)).toArray⟩) := by
  subst h1 h2
  have e1 : HT.sIx z.length 0 (some ((i : Nat) : Int)) = i := by rw [HT.sIx_nat]; omega
  have e2 : HT.sIx z.length z.length (some ((j : Nat) : Int)) = j := by rw [HT.sIx_nat]; omega
  simp only [slD, h, if_true, cutS, e1, e2]
theorem take_all {p : Nat → Bool} {l : List Nat} {m c : Nat} (h : (l.take m).all p = true) (hc : l[m]? = some c) (h2 : p c = true) : (l.take (m + 1)).all p = true := by
  obtain ⟨hm, e⟩ := List.getElem?_eq_some_iff.mp hc
  rw [List.take_succ_eq_append_getElem hm, List.all_append, h, e]
  simp [h2]
/-- a piece that ends where the text does, or ahead of a mark -/
theorem pcs_piece {l : List Nat} {m : Nat} (hm : 0 < m) (hl : m ≤ l.length) (h : (l.take m).all (fun c => !special c) = true) (he : ∀ c, l[m]? = some c → special c = true) : pcs [] l = l.take m :: pcs [] (l.drop m) := by
  have e : l = l.take m ++ l.drop m := (List.take_append_drop m l).symm
  have e2 : pcs [] l = pcs ([] ++ l.take m) (l.drop m) := by
    rw [e, pcs_run _ _ _ h]
    simp
  have e3 : ends (l.drop m) := by
    cases q : l.drop m with
    | nil => trivial
    | cons c r =>
      refine he c ?_
      have z : (l.drop m)[0]? = some c := by rw [q]; rfl
      simpa using z
  rw [e2, pcs_end e3]
  have e4 : flush ([] ++ l.take m) = [l.take m] := by
    unfold flush
    rw [if_neg]
    · rfl
    · intro z
      have := congrArg List.length z
      simp only [List.nil_append, List.length_take, List.length_nil] at this
      omega
  rw [e4]
  rfl
theorem sTs_snoc {fs : List Cs} {x : Cs} : sTs (fs ++ [x]) = sTs fs ++ [.str ⟨x.toArray⟩] := by simp [sTs]
theorem t28 (h : Ok b) {s : Str} (hs : s.length ≤ 1000000) (q : Q (.ow (.list (sTs (pieces s.cps.toList)))) ω) : (lv b (n + 1)).cl 28 [.str s] ω Q E := by
  have hz := sizeLine_eq
  have hl : s.cps.toList.length = s.length := by simp [Str.length]
  have hsl : s.length ≤ sizeLine := by omega
  rw [lv_def (fd := d28) (by rw [h.P]; rfl), callF_1 rfl]
  walk_at "RUN"
  refine ⟨by show 0 ≤ sizeLine; omega, ?_⟩
  walk_at "RUN"
  refine wh_ind (I := fun ρ => ∃ (fs : List Cs) (a : Nat) (y3 : Sl), ρ = [.sh (.str s), .ow (.list (sTs fs)), .sh (.int (a : Nat)), y3] ∧ a ≤ s.length ∧ fs.length ≤ a ∧ fs ++ pcs [] (s.cps.toList.drop a) = pieces s.cps.toList)
    (μ := fun (ρ : En) => match ρ[2]? with
      | some (Sl.sh (PyData.int a)) => s.length - a.toNat
      | _ => 0) ?_ _ _ (Nat.lt_succ_self _) ⟨[], 0, _, rfl, Nat.zero_le _, Nat.le_refl _, by simp⟩
  rintro ρ ⟨fs, a, y3, rfl, ha, hfa, htx⟩
  walk_at "RUN"
  refine got_mk (len_s hsl) ?_
  walk_at "RUN"
  refine br_i (fun e => ?_) fun e => ?_
  · have e1 : ((a : Nat) : Int) < ((s.length : Nat) : Int) := of_decide_eq_true e
    have hal : a < s.cps.toList.length := by omega
    obtain ⟨c, hc⟩ : ∃ c, s.cps.toList[a]? = some c := ⟨_, List.getElem?_eq_getElem hal⟩
    have hdrop : s.cps.toList.drop a = c :: s.cps.toList.drop (a + 1) := by
      rw [List.drop_eq_getElem_cons hal]
      congr 1
      exact Option.some.inj ((List.getElem?_eq_getElem hal).symm.trans hc)
    walk_at "RUN"
    refine got_mk (sub_str hsl hc) ?_
    walk_at "RUN"
    rw [in_marks]
    refine br_i (fun e => ?_) fun e => ?_
    · have hsp : special c = false := by simpa using e
      walk_at "RUN"
      refine wh_ind (I := fun ρ => ∃ en : Nat, ρ = [.sh (.str s), .ow (.list (sTs fs)), .sh (.int (a : Nat)), .sh (.int (en : Nat))] ∧ a < en ∧ en ≤ s.length ∧ ((s.cps.toList.drop a).take (en - a)).all (fun c => !special c) = true)
        (μ := fun (ρ : En) => match ρ[3]? with
          | some (Sl.sh (PyData.int en)) => s.length - en.toNat
          | _ => 0) ?_ _ _ (Nat.lt_succ_self _) ⟨a + 1, rfl, by omega, by omega, ?_⟩
      · rintro ρ ⟨en, rfl, h1, h2, h3⟩
        have tail : (∀ c, s.cps.toList[en]? = some c → special c = true) → ((∃ (fs2 : List Cs) (a' : Nat) (y3 : Sl), ([.sh (.str s), .ow (.list (sTs (fs ++ [(s.cps.toList.drop a).take (en - a)]))), .sh (.int (en : Nat)), .sh (.int (en : Nat))] : En) = [.sh (.str s), .ow (.list (sTs fs2)), .sh (.int (a' : Nat)), y3] ∧ a' ≤ s.length ∧ fs2.length ≤ a' ∧ fs2 ++ pcs [] (s.cps.toList.drop a') = pieces s.cps.toList) ∧ s.length - en < s.length - a) := by
          intro he
          refine ⟨⟨fs ++ [(s.cps.toList.drop a).take (en - a)], en, _, rfl, h2, by rw [List.length_append, List.length_singleton]; omega, ?_⟩, by omega⟩
          rw [← htx]
          have z := pcs_piece (l := s.cps.toList.drop a) (m := en - a) (by omega) (by rw [List.length_drop]; omega) h3 (fun c hc => he c (by
            rw [List.getElem?_drop] at hc
            have e : a + (en - a) = en := by omega
            rw [e] at hc
            exact hc))
          rw [z, List.drop_drop]
          have e : a + (en - a) = en := by omega
          rw [e]
          simp
        walk_at "RUN"
        refine got_mk (len_s hsl) ?_
        walk_at "RUN"
        refine br_i (fun e => ?_) fun e => ?_
        · have e1 : ((en : Nat) : Int) < ((s.length : Nat) : Int) := of_decide_eq_true e
          have hel : en < s.cps.toList.length := by omega
          obtain ⟨c2, hc2⟩ : ∃ c, s.cps.toList[en]? = some c := ⟨_, List.getElem?_eq_getElem hel⟩
          walk_at "RUN"
          refine got_mk (sub_str hsl hc2) ?_
          walk_at "RUN"
          rw [in_marks]
          refine br_i (fun e => ?_) fun e => ?_
          · have hs2 : special c2 = false := by simpa using e
            walk_at "RUN"
            refine ⟨_, 1, rfl, ?_⟩
            walk_at "RUN"
            refine ⟨rfl, rfl, ?_⟩
            walk_at "RUN"
            refine ⟨⟨en + 1, rfl, by omega, by omega, ?_⟩, ?_⟩
            · have e : en + 1 - a = en - a + 1 := by omega
              rw [e]
              refine take_all h3 (c := c2) ?_ (by simp [hs2])
              rw [List.getElem?_drop]
              have e : a + (en - a) = en := by omega
              rw [e]
              exact hc2
            · show s.length - ((en : Nat) + 1 : Int).toNat < s.length - ((en : Nat) : Int).toNat
              omega
          · have hs2 : special c2 = true := by simpa using e
            walk_at "RUN"
            refine got_mk (cut_str (i := a) (j := en) rfl rfl hsl (by omega) (by omega)) ?_
            walk_at "RUN"
            refine ⟨by simp [sTs]; omega, ?_⟩
            walk_at "RUN"
            have z := tail (fun c hc => by rw [hc2] at hc; cases hc; exact hs2)
            rw [sTs_snoc] at z
            exact z
        · have e1 : ¬ ((en : Nat) : Int) < ((s.length : Nat) : Int) := of_decide_eq_false e
          have ee : en = s.length := by omega
          walk_at "RUN"
          refine got_mk (cut_str (i := a) (j := en) rfl rfl hsl (by omega) (by omega)) ?_
          walk_at "RUN"
          refine ⟨by simp [sTs]; omega, ?_⟩
          walk_at "RUN"
          have z := tail (fun c hc => by
            have := (List.getElem?_eq_some_iff.mp hc).1
            omega)
          rw [sTs_snoc] at z
          exact z
      · have e : a + 1 - a = 1 := by omega
        rw [e, hdrop]
        simp [hsp]
    · have hsp : special c = true := by simpa using e
      walk_at "RUN"
      refine got_mk (cut_str (i := a) (j := a + 1) rfl rfl hsl (by omega) (by omega)) ?_
      walk_at "RUN"
      refine ⟨by simp [sTs]; omega, ?_⟩
      walk_at "RUN"
      refine ⟨⟨fs ++ [[c]], a + 1, .sh (.int ((a + 1 : Nat) : Int)), ?_, by omega, by simp; omega, ?_⟩, ?_⟩
      · have e2 : (s.cps.toList.drop a).take (a + 1 - a) = [c] := by
          have e : a + 1 - a = 1 := by omega
          rw [e, hdrop]
          rfl
        show [Sl.sh (PyData.str s), Sl.ow (PyData.list (sTs fs ++ [PyData.str ⟨((s.cps.toList.drop a).take (a + 1 - a)).toArray⟩])), Sl.sh (PyData.int ((a : Nat) + 1 : Int)), Sl.sh (PyData.int ((a : Nat) + 1 : Int))] = _
        rw [e2]
        simp [sTs]
      · rw [← htx, hdrop]
        show _ = fs ++ (if special c = true then flush [] ++ [c] :: pcs [] (s.cps.toList.drop (a + 1)) else _)
        rw [if_pos hsp]
        simp [flush]
      · show s.length - ((a : Nat) + 1 : Int).toNat < s.length - ((a : Nat) : Int).toNat
        omega
  · have e1 : ¬ ((a : Nat) : Int) < ((s.length : Nat) : Int) := of_decide_eq_false e
    have ea : a = s.length := by omega
    subst ea
    walk_at "RUN"
    have z : s.cps.toList.drop s.length = [] := by rw [← hl]; exact List.drop_length
    rw [z] at htx
    have z2 : fs = pieces s.cps.toList := by simpa [pcs, flush] using htx
    rw [← z2] at q
    first | exact q | exact dQ_id q
end
end K8
namespace K8
open PySem PySem.Spec L2 Ev K8M
local macro_rules | `(tactic| walk_at "RUN") => `(tactic| repeat (first | ((with_reducible apply isGot); (with_reducible apply got_mk); exact rfl) | ((with_reducible apply isEv); first | with_reducible apply Iev_var | with_reducible apply Iev_int | with_reducible apply Iev_str | with_reducible apply Iev_cmp | with_reducible apply Iev_call | with_reducible apply Iev_bi | with_reducible apply Iev_and | with_reducible apply Iev_isi | with_reducible apply Iev_gc | with_reducible apply Iev_not | with_reducible apply Iev_sub | with_reducible apply Iev_bin | with_reducible apply Iev_tup | with_reducible apply Iev_lst | with_reducible apply Iev_or | with_reducible apply Iev_lc | with_reducible apply Iev_ife | with_reducible apply Iev_emp | with_reducible apply Iev_isN | with_reducible apply Iev_non | with_reducible apply Iev_bl | with_reducible apply Iev_cmp2 | with_reducible apply Iev_callK | with_reducible apply Iev_isi2 | with_reducible apply Iev_slL | with_reducible apply Iev_slH | with_reducible apply Iev_slB | with_reducible apply Iev_join | with_reducible apply Iev_pop | with_reducible apply Iev_reprEq | with_reducible apply Iev_usub | with_reducible apply Iev_subv | with_reducible apply Iev_dk | with_reducible apply Iev_dkEmp | with_reducible apply Iev_dkPop0 | with_reducible apply Iev_dNew | with_reducible apply Iev_lNew | with_reducible apply Iev_cTup | with_reducible apply Iev_word) | ((with_reducible apply rdV_ms); exact rfl) | ((with_reducible apply rdV_mo); exact rfl) | ((with_reducible apply br_mt); exact rfl) | ((with_reducible apply br_mf); exact rfl) | ((with_reducible apply isEx); first | with_reducible apply Iex_ife | with_reducible apply Iex_asg | with_reducible apply Iex_ret | with_reducible apply Iex_fr | with_reducible apply Iex_par | with_reducible apply Iex_aug | with_reducible apply Iex_exp | with_reducible apply Iex_app | with_reducible apply Iex_ext | with_reducible apply Iex_raise | with_reducible apply Iex_whl | with_reducible apply Iex_dkSet | with_reducible apply Iex_cApp | with_reducible apply Iex_brk | with_reducible apply Iex_cont | ((with_reducible apply rv_s); exact rfl) | ((with_reducible apply rv_o); exact rfl)) | with_reducible apply Isx_nx | with_reducible apply Isx_rt | with_reducible apply Ilp_nx | with_reducible apply Ilp_rt | with_reducible apply Ifl_rt | with_reducible apply Isx_ct | with_reducible apply Isx_ex | with_reducible apply Ilp_ct | with_reducible apply Ilp_ex | with_reducible apply Ifl_ex | with_reducible apply Ifl_nx | with_reducible apply Isx_bk | with_reducible apply Ilp_bk | with_reducible apply Iexs_nil | with_reducible apply Iexs_cons | ((with_reducible apply isExs); apply Iexs_cons) | with_reducible apply Ievs_nil | with_reducible apply Ievs_cons | with_reducible apply IevAnd_1 | with_reducible apply IevAnd_2 | with_reducible apply IevI_val | with_reducible apply IevI_rng | with_reducible apply IevI_er | with_reducible apply IevOr_1 | with_reducible apply IevOr_2 | with_reducible apply IevIf_0 | with_reducible apply IevIf_1 | with_reducible apply IbindT_n | with_reducible apply IbindT_2 | ((with_reducible apply pkV_ms); exact rfl) | ((with_reducible apply pkV_mo); exact rfl) | ((with_reducible apply upV_m); exact rfl) | ((with_reducible apply look_m); exact rfl) | ((with_reducible apply ow_m); exact rfl) | ((with_reducible apply lst_m); exact rfl) | ((with_reducible apply tup_m); exact rfl) | ((with_reducible apply pkT_m); exact rfl; exact Sl.noConfusion) | with_reducible apply atw))
section
variable {b : Bs} {ω : Om} {Q : CQ} {E : CE} {n : Nat}
theorem shp_iff {p : Cs} : SeqAt.shaped (.str ⟨p.toArray⟩) = true ↔ ∀ c ∈ p, c < 1114112 := by
  unfold SeqAt.shaped
  simp [PyData.canLay0, PyData.depth, PyData.strOk]
theorem eqv_cs {p q : Cs} : PyData.eqv (.str ⟨p.toArray⟩) (.str ⟨q.toArray⟩) = decide (p = q) := by
  show ((⟨p.toArray⟩ : Str) == ⟨q.toArray⟩) = _
  rw [Bool.eq_iff_iff]
  simp
theorem eq_cs {p q : Cs} (hp : SeqAt.shaped (.str ⟨p.toArray⟩) = true) (hq : SeqAt.shaped (.str ⟨q.toArray⟩) = true) : eqD (.str ⟨p.toArray⟩) (.str ⟨q.toArray⟩) = some (decide (p = q)) := by
  simp only [eqD, hp, hq, and_self, if_true, eqv_cs]
theorem dash_cs : ("-" : Str) = ⟨([45] : Cs).toArray⟩ := by decide +kernel
theorem dash_ok : SeqAt.shaped (.str ⟨([45] : Cs).toArray⟩) = true := by decide +kernel
theorem cmp_eq_cs {p q : Cs} (hp : SeqAt.shaped (.str ⟨p.toArray⟩) = true) (hq : SeqAt.shaped (.str ⟨q.toArray⟩) = true) : cmpD .Eq (.str ⟨p.toArray⟩) (.str ⟨q.toArray⟩) = some (.bool (decide (p = q))) := by
  show (eqD _ _).map _ = _
  rw [eq_cs hp hq]
  rfl
theorem cut_lo {p : Cs} (h : p.length ≤ sizeLine) : slD (.str ⟨p.toArray⟩) (some 1) none = some (.str ⟨(p.drop 1).toArray⟩) := by
  have e : (⟨p.toArray⟩ : Str).length = p.length := by simp [Str.length]
  have e1 : HT.sIx p.length 0 (some 1) = min 1 p.length := HT.sIx_nat p.length 0 1
  simp only [slD, e, h, if_true, cutS, e1, HT.sIx_none]
  cases p with
  | nil => rfl
  | cons c r =>
    have e2 : min 1 (c :: r).length = 1 := by simp
    rw [e2]
    simp
theorem cut_hi {p : Cs} (h : p.length ≤ sizeLine) : slD (.str ⟨p.toArray⟩) none (some 1) = some (.str ⟨(p.take 1).toArray⟩) := by
  have e : (⟨p.toArray⟩ : Str).length = p.length := by simp [Str.length]
  have e1 : HT.sIx p.length p.length (some 1) = min 1 p.length := HT.sIx_nat p.length p.length 1
  simp only [slD, e, h, if_true, cutS, e1, HT.sIx_none]
  cases p with
  | nil => rfl
  | cons c r =>
    have e2 : min 1 (c :: r).length = 1 := by simp
    rw [e2]
    simp
theorem all_dig {cs : Cs} (h : cs.all digit = true) : NumText.AllDigits cs := fun c hc => by
  have := List.all_eq_true.mp h c hc
  unfold digit at this
  simp only [Bool.and_eq_true, decide_eq_true_eq] at this
  exact this
theorem dig_go : ∀ (cs : Cs) (acc k : Nat), NumText.AllDigits cs → acc < 10 ^ k → cs.foldl (fun acc c => acc * 10 + (c - 48)) acc < 10 ^ (k + cs.length)
  | [], acc, k, _, h => h
  | c :: cs, acc, k, hd, h => by
    have h1 := hd.head
    have z := dig_go cs (acc * 10 + (c - 48)) (k + 1) hd.tail (by rw [Nat.pow_succ]; omega)
    have e : k + (c :: cs).length = k + 1 + cs.length := by simp; omega
    rw [e]
    exact z
theorem dig_lt {cs : Cs} (hd : NumText.AllDigits cs) (h : cs.length ≤ 12) : NumText.digitsVal cs < 10 ^ 12 := by
  have z := dig_go cs 0 0 hd (by decide)
  refine Nat.lt_of_lt_of_le z (Nat.pow_le_pow_right (by decide) (by omega))
theorem dig_read {p bare : Cs} (hB : bare = if p.take 1 = [45] then p.drop 1 else p) (h1 : 1 ≤ bare.length) (h2 : bare.length ≤ 12) (hd : bare.all digit = true) : ∃ z : Int, intText? ⟨p.toArray⟩ = some z ∧ z.natAbs < 10 ^ 12 := by
  have hne : bare ≠ [] := fun e => by rw [e] at h1; simp at h1
  have hD := all_dig hd
  have hv := dig_lt hD h2
  by_cases e : p.take 1 = [45]
  · rw [if_pos e] at hB
    have hp : p = 45 :: bare := by
      rw [hB]
      have := List.take_append_drop 1 p
      rw [e] at this
      exact this.symm
    refine ⟨_, intText_neg (x := ⟨p.toArray⟩) (cs := bare) hp hD hne (by show p.toArray.size ≤ 4300; rw [hp]; simp; omega), by omega⟩
  · rw [if_neg e] at hB
    subst hB
    exact ⟨_, intText_digits (x := ⟨bare.toArray⟩) hD hne (by show bare.toArray.size ≤ 4300; simp; omega), by show ((NumText.digitsVal bare : Nat) : Int).natAbs < _; omega⟩
theorem plain_no {p bare : Cs} (h1 : ¬ p = [45]) (h2 : isWord p = false) (hB : bare = if p.take 1 = [45] then p.drop 1 else p) (h : ¬ (1 ≤ bare.length ∧ bare.length ≤ 12 ∧ bare.all digit = true)) : plainOf p = none := by
  subst hB
  unfold plainOf
  rw [if_neg h1, if_neg (by rw [h2]; decide), if_neg h]
theorem plain_yes {p bare : Cs} (h1 : ¬ p = [45]) (h2 : isWord p = false) (hB : bare = if p.take 1 = [45] then p.drop 1 else p) (h : (1 ≤ bare.length ∧ bare.length ≤ 12 ∧ bare.all digit = true)) {z : Int} (hz : intText? ⟨p.toArray⟩ = some z) : plainOf p = if iCs z = p then some (.int z) else none := by
  subst hB
  unfold plainOf
  rw [if_neg h1, if_neg (by rw [h2]; decide), if_pos h, hz]
theorem log_12 {m : Nat} (h : m < 10 ^ 12) : m.log2 < 1920 := by
  by_cases e : m = 0
  · subst e; decide
  · exact (Nat.log2_lt e).mpr (Nat.lt_trans h (by decide +kernel))
theorem str_i {z : Int} (h : z.natAbs < 10 ^ 12) : bifD .str [.int z] = some (false, .str ⟨(iCs z).toArray⟩) := by
  show (if z.natAbs.log2 < 1920 then _ else _) = _
  rw [if_pos (log_12 h)]
  rfl
theorem shp_i (z : Int) : SeqAt.shaped (.str ⟨(iCs z).toArray⟩) = true := by
  refine shp_iff.mpr fun c hc => ?_
  rcases iCs_shape z with ⟨n, _, e⟩ | ⟨n, _, e⟩ <;> rw [e] at hc
  · have := TL.numL_digits n c hc
    omega
  · rcases List.mem_cons.mp hc with e | hc
    · omega
    · have := TL.numL_digits _ c hc
      omega
theorem int_s {p : Cs} {z : Int} (hl : p.length ≤ 640) (h : intText? ⟨p.toArray⟩ = some z) : bifD .int [.str ⟨p.toArray⟩] = some (false, .int z) := by
  have e : (⟨p.toArray⟩ : Str).length = p.length := by simp [Str.length]
  show (if (⟨p.toArray⟩ : Str).length ≤ 640 then _ else _) = _
  rw [e, if_pos hl, h]
  rfl
theorem t29b (h : Ok b) {p bare : Cs} (hp : fineP p) (hb : fineP bare) (h1 : ¬ p = [45]) (h2 : isWord p = false) (hB : bare = if p.take 1 = [45] then p.drop 1 else p) {x : Sl} {L : Lv} (hL : L = lv b (n + 1)) (q : Q (.ow (.list (plainOf p).toList)) ω) : exs L (d29.body.drop 3) [.sh (.str ⟨p.toArray⟩), .sh (.str ⟨bare.toArray⟩), x] ω (fl0 Q E) := by
  subst hL
  have hz := sizeLine_eq
  have hbl : (⟨bare.toArray⟩ : Str).length = bare.length := by simp [Str.length]
  have hpl : (⟨p.toArray⟩ : Str).length = p.length := by simp [Str.length]
  have hb2 := hb.2
  show exs _ (List.drop 3 [_, _, _, _, _]) _ _ _
  simp only [List.drop]
  walk_at "RUN"
  refine got_mk (len_s (by rw [hbl]; omega)) ?_
  walk_at "RUN"
  have no : ¬ (1 ≤ bare.length ∧ bare.length ≤ 12 ∧ bare.all digit = true) → Q (.ow (.list [])) ω := fun e => by
    rw [plain_no h1 h2 hB e] at q
    first | exact q | exact dQ_id q
  refine br_i (fun e => ?_) fun e => ?_
  · have l1 : 1 ≤ bare.length := by
      have := of_decide_eq_true e
      rw [hbl] at this
      simp only [Int.ofNat_eq_natCast] at this
      omega
    walk_at "RUN"
    refine got_mk h.g20 ?_
    walk_at "RUN"
    refine br_i (fun e => ?_) fun e => ?_
    · have l2 : ¬ bare.length ≤ 12 := by
        have : ¬ ((Int.ofNat (⟨bare.toArray⟩ : Str).length) ≤ 12) := by simpa using e
        rw [hbl] at this
        simp only [Int.ofNat_eq_natCast] at this
        omega
      walk_at "RUN"
      refine ⟨by show 0 ≤ sizeLine; omega, ?_⟩
      walk_at "RUN"
      exact no fun w => l2 w.2.1
    · have l2 : bare.length ≤ 12 := by
        have : ((Int.ofNat (⟨bare.toArray⟩ : Str).length) ≤ 12) := by simpa using e
        rw [hbl] at this
        simp only [Int.ofNat_eq_natCast] at this
        omega
      walk_at "RUN"
      refine lcGo_ind (R := fun ρ => ∃ y, ρ = [.sh (.str ⟨p.toArray⟩), .sh (.str ⟨bare.toArray⟩), y]) (g := chF digit) ?_ ?_ ⟨_, rfl⟩ ?_
      · intro d hd ρ k ⟨y, hy⟩ hk
        obtain ⟨c, hc, rfl⟩ := List.mem_map.mp hd
        subst hy
        walk_at "RUN"
        refine got_mk h.g23 ?_
        walk_at "RUN"
        rw [in_figs]
        exact hk _ ⟨_, rfl⟩
      · simp only [List.length_nil, List.length_map]
        omega
      · rintro ρ' ⟨y, rfl⟩
        refine Eq.mpr evs_nil ?_
        refine got_mk (a := (false, .bool ((bare.map digit).all id))) ?_ ?_
        · simp only [Sl_o, List.nil_append, chF_map, bif_all, toBs_map, Option.map_some]
        · have ea : (bare.map digit).all id = bare.all digit := by
            rw [List.all_map]
            rfl
          rw [ea]
          walk_at "RUN"
          refine br_i (fun e => ?_) fun e => ?_
          · have l3 : ¬ bare.all digit = true := by simpa using e
            walk_at "RUN"
            refine ⟨by show 0 ≤ sizeLine; omega, ?_⟩
            walk_at "RUN"
            exact no fun w => l3 w.2.2
          · have l3 : bare.all digit = true := by simpa using e
            obtain ⟨z, hz1, hz2⟩ := dig_read hB l1 l2 l3
            rw [plain_yes h1 h2 hB ⟨l1, l2, l3⟩ hz1] at q
            have lp : p.length ≤ 640 := by
              have : p.length ≤ bare.length + 1 := by
                rw [hB]
                split <;> simp <;> omega
              omega
            walk_at "RUN"
            refine got_mk (int_s lp hz1) ?_
            walk_at "RUN"
            refine got_mk (str_i hz2) ?_
            walk_at "RUN"
            refine got_mk (cmp_eq_cs (shp_i z) hp.1) ?_
            walk_at "RUN"
            refine br_i (fun e => ?_) fun e => ?_
            · rw [if_pos (of_decide_eq_true e)] at q
              walk_at "RUN"
              refine got_mk (int_s lp hz1) ?_
              walk_at "RUN"
              refine ⟨by show 1 ≤ sizeLine; omega, ?_⟩
              walk_at "RUN"
              first | exact q | exact dQ_id q
            · rw [if_neg (of_decide_eq_false e)] at q
              walk_at "RUN"
              refine ⟨by show 0 ≤ sizeLine; omega, ?_⟩
              walk_at "RUN"
              first | exact q | exact dQ_id q
  · have l1 : ¬ 1 ≤ bare.length := by
      have := of_decide_eq_false e
      rw [hbl] at this
      simp only [Int.ofNat_eq_natCast] at this
      omega
    walk_at "RUN"
    refine ⟨by show 0 ≤ sizeLine; omega, ?_⟩
    walk_at "RUN"
    exact no fun w => l1 w.1
theorem t29 (h : Ok b) {p : Cs} (hp : fineP p) (q : Q (.ow (.list (plainOf p).toList)) ω) : (lv b (n + 2)).cl 29 [.str ⟨p.toArray⟩] ω Q E := by
  have hz := sizeLine_eq
  obtain ⟨hp1, hp2⟩ := hp
  rw [lv_def (fd := d29) (by rw [h.P]; rfl), callF_1 rfl]
  walk_at "RUN"
  rw [dash_cs]
  refine got_mk (cmp_eq_cs hp1 dash_ok) ?_
  walk_at "RUN"
  refine br_i (fun e => ?_) fun e => ?_
  · have e1 : p = [45] := of_decide_eq_true e
    have q' : plainOf p = some .none := by rw [plainOf, if_pos e1]
    rw [q'] at q
    walk_at "RUN"
    refine ⟨by show 1 ≤ sizeLine; omega, ?_⟩
    walk_at "RUN"
    first | exact q | exact dQ_id q
  · have e1 : ¬ p = [45] := of_decide_eq_false e
    walk_at "RUN"
    refine t24 (d := .str ⟨p.toArray⟩) h rfl (fun s hs => by cases hs; exact ⟨hp1, by simp [Str.length]; omega⟩) ?_
    walk_at "RUN"
    refine br_i (fun e => ?_) fun e => ?_
    · have e2 : isWord p = true := e
      have q' : plainOf p = some (.str ⟨p.toArray⟩) := by rw [plainOf, if_neg e1, if_pos e2]
      rw [q'] at q
      walk_at "RUN"
      refine ⟨by show 1 ≤ sizeLine; omega, ?_⟩
      walk_at "RUN"
      first | exact q | exact dQ_id q
    · have e2 : isWord p = false := e
      walk_at "RUN"
      refine got_mk (cut_hi (by omega)) ?_
      walk_at "RUN"
      have hs1 : SeqAt.shaped (.str ⟨(p.take 1).toArray⟩) = true := shp_iff.mpr fun c hc => shp_iff.mp hp1 c (List.mem_of_mem_take hc)
      refine got_mk (cmp_eq_cs hs1 dash_ok) ?_
      walk_at "RUN"
      refine br_i (fun e => ?_) fun e => ?_
      · have e3 : p.take 1 = [45] := of_decide_eq_true e
        walk_at "RUN"
        refine got_mk (cut_lo (by omega)) ?_
        walk_at "RUN"
        refine t29b (p := p) (bare := p.drop 1) h ⟨hp1, hp2⟩ ⟨shp_iff.mpr fun c hc => shp_iff.mp hp1 c (List.mem_of_mem_drop hc), by simp; omega⟩ e1 e2 (by rw [if_pos e3]) rfl q
      · have e3 : ¬ p.take 1 = [45] := of_decide_eq_false e
        walk_at "RUN"
        refine t29b (p := p) (bare := p) h ⟨hp1, hp2⟩ ⟨hp1, hp2⟩ e1 e2 (by rw [if_neg e3]) rfl q
end
end K8
namespace K8
open PySem PySem.Spec L2 Ev K8M
def big (d : D) : Nat := (lvt d).length + sz d + cnt d + 3
def bigs : List D → Nat
  | [] => 0
  | d :: ds => big d + bigs ds
theorem bigs_app : ∀ a c : List D, bigs (a ++ c) = bigs a + bigs c
  | [], c => by simp [bigs]
  | d :: a, c => by simp [bigs, bigs_app a c]; omega
def bigss : List (List D) → Nat
  | [] => 0
  | t :: st => bigs t + 9 + bigss st
def lens : List Cs → Nat
  | [] => 0
  | p :: ps => p.length + 9 + lens ps
theorem lvtK_len : ∀ ds : List D, (lvtK ds).length + szAll ds + 2 * ds.length + cntAll ds ≤ bigs ds
  | [] => by simp [lvtK, szAll, cntAll, bigs]
  | d :: ds => by
    have := lvtK_len ds
    simp only [lvtK, szAll, cntAll, bigs, List.length_cons, List.length_append, big]
    omega
theorem big_tuple (ds : List D) : big (.tuple ds) ≤ bigs ds + 9 := by
  have h : (lvtJ ds).length + szAll ds + 2 * ds.length + cntAll ds ≤ bigs ds := by
    cases ds with
    | nil => simp [lvtJ, szAll, cntAll, bigs]
    | cons d r =>
      have := lvtK_len r
      simp only [lvtJ, szAll, cntAll, bigs, List.length_cons, List.length_append, big]
      omega
  simp only [big, lvt, sz, cnt, List.length_append, List.length_cons, List.length_nil]
  omega
theorem plain_good {p : Cs} {v : D} (hp : fineP p) (h : plainOf p = some v) : ok v = true ∧ fine v = true ∧ lvt v = p ∧ big v ≤ p.length + 9 := by
  have hsz := sizeLine_eq
  obtain ⟨hp1, hp2⟩ := hp
  by_cases h1 : p = [45]
  · rw [plainOf, if_pos h1] at h
    cases h
    subst h1
    exact ⟨rfl, rfl, rfl, by simp [big, lvt, sz, cnt]⟩
  · by_cases h2 : isWord p = true
    · rw [plainOf, if_neg h1, if_pos h2] at h
      cases h
      refine ⟨h2, ?_, rfl, by simp [big, lvt, sz, cnt]⟩
      show (SeqAt.shaped (.str ⟨p.toArray⟩) && decide ((⟨p.toArray⟩ : Str).length ≤ sizeLine)) = true
      rw [hp1, Bool.true_and]
      refine decide_eq_true ?_
      show p.toArray.size ≤ _
      simp
      omega
    · have h2' : isWord p = false := by simpa using h2
      by_cases hd : 1 ≤ (if p.take 1 = [45] then p.drop 1 else p).length ∧ (if p.take 1 = [45] then p.drop 1 else p).length ≤ 12 ∧ (if p.take 1 = [45] then p.drop 1 else p).all digit = true
      · obtain ⟨z, z1, z2⟩ := dig_read rfl hd.1 hd.2.1 hd.2.2
        rw [plain_yes h1 h2' rfl hd z1] at h
        by_cases e : iCs z = p
        · rw [if_pos e] at h
          cases h
          refine ⟨decide_eq_true z2, rfl, e, ?_⟩
          simp [big, lvt, sz, cnt, e]
        · rw [if_neg e] at h
          cases h
      · rw [plain_no h1 h2' rfl hd] at h
        cases h
def good (ds : List D) : Prop := ∀ d ∈ ds, ok d = true ∧ fine d = true
theorem vof_good : ∀ (ps : List Cs) (st : List (List D)) (done : List D), (∀ p ∈ ps, fineP p) → (∀ t ∈ st, good t) → good done → good (vof ps st done) ∧ bigs (vof ps st done) ≤ lens ps + bigss st + bigs done
  | [], st, done, hp, hs, hd => by
    cases st with
    | nil => exact ⟨hd, by simp [vof, lens, bigss]⟩
    | cons _ _ => exact ⟨fun d h => by simp [vof] at h, by simp [vof, bigs]⟩
  | p :: r, st, done, hp, hs, hd => by
    have hr : ∀ p ∈ r, fineP p := fun q hq => hp q (List.mem_cons_of_mem _ hq)
    have nilg : good ([] : List D) := fun d h => by simp at h
    have hput : ∀ (v : D) (st : List (List D)), ok v = true → fine v = true → (∀ t ∈ st, good t) → good (put (vof r) v st done) ∧ bigs (put (vof r) v st done) ≤ lens r + bigss st + bigs done + big v := by
      intro v st h1 h2 hs
      cases st with
      | nil =>
        show good (if done = [] then vof r [] [v] else []) ∧ bigs (if done = [] then vof r [] [v] else []) ≤ _
        split
        · have := vof_good r [] [v] hr (fun _ h => by simp at h) (fun d h => by
            rw [List.mem_singleton.mp h]
            exact ⟨h1, h2⟩)
          refine ⟨this.1, ?_⟩
          have z := this.2
          simp only [bigs, bigss] at z ⊢
          omega
        · exact ⟨nilg, by simp [bigs]⟩
      | cons t st =>
        have := vof_good r ((t ++ [v]) :: st) done hr (fun u hu => by
          rcases List.mem_cons.mp hu with e | hu
          · rw [e]
            intro d h
            rcases List.mem_append.mp h with h | h
            · exact hs t List.mem_cons_self d h
            · rw [List.mem_singleton.mp h]
              exact ⟨h1, h2⟩
          · exact hs u (List.mem_cons_of_mem _ hu)) hd
        refine ⟨this.1, ?_⟩
        have z := this.2
        simp only [bigs, bigss, bigs_app] at z ⊢
        show bigs (vof r ((t ++ [v]) :: st) done) ≤ _
        omega
    unfold vof
    split
    · have := vof_good r ([] :: st) done hr (fun t ht => by
        rcases List.mem_cons.mp ht with e | ht
        · rw [e]; exact nilg
        · exact hs t ht) hd
      refine ⟨this.1, ?_⟩
      have z := this.2
      simp only [bigs, bigss, lens] at z ⊢
      omega
    · split
      · have := vof_good r st done hr hs hd
        refine ⟨this.1, ?_⟩
        have z := this.2
        simp only [lens]
        omega
      · split
        · cases st with
          | nil => exact ⟨nilg, by simp [bigs]⟩
          | cons t st =>
            have ht := hs t List.mem_cons_self
            have := hput (.tuple t) st (by
              show okAll t = true
              exact okAll_mem.mpr fun d h => (ht d h).1) (by
              show fineAll t = true
              exact fineAll_mem.mpr fun d h => (ht d h).2) fun u hu => hs u (List.mem_cons_of_mem _ hu)
            refine ⟨this.1, ?_⟩
            have z := this.2
            have w := big_tuple t
            simp only [lens, bigss] at z ⊢
            show bigs (put (vof r) (.tuple t) st done) ≤ _
            omega
        · cases e : plainOf p with
          | none => exact ⟨nilg, by simp [bigs]⟩
          | some v =>
            obtain ⟨h1, h2, _, h4⟩ := plain_good (hp p List.mem_cons_self) e
            have := hput v st h1 h2 hs
            refine ⟨this.1, ?_⟩
            have z := this.2
            simp only [lens]
            show bigs (put (vof r) v st done) ≤ _
            omega
end K8
namespace K8
open PySem PySem.Spec L2 Ev K8M
local macro_rules | `(tactic| walk_at "RUN") => `(tactic| repeat (first | ((with_reducible apply isGot); (with_reducible apply got_mk); exact rfl) | ((with_reducible apply isEv); first | with_reducible apply Iev_var | with_reducible apply Iev_int | with_reducible apply Iev_str | with_reducible apply Iev_cmp | with_reducible apply Iev_call | with_reducible apply Iev_bi | with_reducible apply Iev_and | with_reducible apply Iev_isi | with_reducible apply Iev_gc | with_reducible apply Iev_not | with_reducible apply Iev_sub | with_reducible apply Iev_bin | with_reducible apply Iev_tup | with_reducible apply Iev_lst | with_reducible apply Iev_or | with_reducible apply Iev_lc | with_reducible apply Iev_ife | with_reducible apply Iev_emp | with_reducible apply Iev_isN | with_reducible apply Iev_non | with_reducible apply Iev_bl | with_reducible apply Iev_cmp2 | with_reducible apply Iev_callK | with_reducible apply Iev_isi2 | with_reducible apply Iev_slL | with_reducible apply Iev_slH | with_reducible apply Iev_slB | with_reducible apply Iev_join | with_reducible apply Iev_pop | with_reducible apply Iev_reprEq | with_reducible apply Iev_usub | with_reducible apply Iev_subv | with_reducible apply Iev_dk | with_reducible apply Iev_dkEmp | with_reducible apply Iev_dkPop0 | with_reducible apply Iev_dNew | with_reducible apply Iev_lNew | with_reducible apply Iev_cTup | with_reducible apply Iev_word) | ((with_reducible apply rdV_ms); exact rfl) | ((with_reducible apply rdV_mo); exact rfl) | ((with_reducible apply br_mt); exact rfl) | ((with_reducible apply br_mf); exact rfl) | ((with_reducible apply isEx); first | with_reducible apply Iex_ife | with_reducible apply Iex_asg | with_reducible apply Iex_ret | with_reducible apply Iex_fr | with_reducible apply Iex_par | with_reducible apply Iex_aug | with_reducible apply Iex_exp | with_reducible apply Iex_app | with_reducible apply Iex_ext | with_reducible apply Iex_raise | with_reducible apply Iex_whl | with_reducible apply Iex_dkSet | with_reducible apply Iex_cApp | with_reducible apply Iex_brk | with_reducible apply Iex_cont | ((with_reducible apply rv_s); exact rfl) | ((with_reducible apply rv_o); exact rfl)) | with_reducible apply Isx_nx | with_reducible apply Isx_rt | with_reducible apply Ilp_nx | with_reducible apply Ilp_rt | with_reducible apply Ifl_rt | with_reducible apply Isx_ct | with_reducible apply Isx_ex | with_reducible apply Ilp_ct | with_reducible apply Ilp_ex | with_reducible apply Ifl_ex | with_reducible apply Ifl_nx | with_reducible apply Isx_bk | with_reducible apply Ilp_bk | with_reducible apply Iexs_nil | with_reducible apply Iexs_cons | ((with_reducible apply isExs); apply Iexs_cons) | with_reducible apply Ievs_nil | with_reducible apply Ievs_cons | with_reducible apply IevAnd_1 | with_reducible apply IevAnd_2 | with_reducible apply IevI_val | with_reducible apply IevI_rng | with_reducible apply IevI_er | with_reducible apply IevOr_1 | with_reducible apply IevOr_2 | with_reducible apply IevIf_0 | with_reducible apply IevIf_1 | with_reducible apply IbindT_n | with_reducible apply IbindT_2 | ((with_reducible apply pkV_ms); exact rfl) | ((with_reducible apply pkV_mo); exact rfl) | ((with_reducible apply upV_m); exact rfl) | ((with_reducible apply look_m); exact rfl) | ((with_reducible apply ow_m); exact rfl) | ((with_reducible apply lst_m); exact rfl) | ((with_reducible apply tup_m); exact rfl) | ((with_reducible apply pkT_m); exact rfl; exact Sl.noConfusion) | with_reducible apply atw))
theorem for_st {L : Lv} {tg : Tg} {a : List St'} {F : Fl} {I : List D → En → Om → Prop} (step : ∀ d ds ρ ω, I (d :: ds) ρ ω → bindT tg d ρ fun ρ => exs L a ρ ω (F.lp fun ρ' ω' => I ds ρ' ω')) :
    ∀ (ds : List D) (ρ : En) (ω : Om), I ds ρ ω → (∀ ρ ω, I [] ρ ω → F.nx ρ ω) → loopF L tg a ds ρ ω F
  | [], ρ, ω, i, q => q ρ ω i
  | d :: ds, ρ, ω, i, q => by
    show bindT tg d ρ fun ρ' => exs L a ρ' ω _
    exact bindT_imp (step d ds ρ ω i) fun ρ h => exs_mono a h ⟨fun ρ' ω' i => for_st step ds ρ' ω' i q, fun _ _ h => h, fun _ _ h => h, fun ρ' ω' i => for_st step ds ρ' ω' i q, fun _ _ h => h⟩
structure Stk (ω0 ω : Om) (as : List Addr) (st : List (List D)) : Prop where
  sub : SubO ω0 ω
  nd : as.Nodup
  new : ∀ a ∈ as, ω0 a = none
  len : as.length = st.length
  at_ : ∀ (i : Nat) (a : Addr) (t : List D), as[i]? = some a → st[i]? = some t → ω a = some (.lst t)
section
variable {ω0 ω : Om} {as : List Addr} {st : List (List D)} {a : Addr} {t t' : List D}
theorem Stk.has (S : Stk ω0 ω as st) (h : a ∈ as) : ∃ t, ω a = some (.lst t) := by
  obtain ⟨i, hi, rfl⟩ := List.mem_iff_getElem.mp h
  exact ⟨st[i]'(by rw [← S.len]; exact hi), S.at_ i _ _ (List.getElem?_eq_getElem hi) (List.getElem?_eq_getElem (by rw [← S.len]; exact hi))⟩
theorem Stk.push (S : Stk ω0 ω as st) (n : ω a = none) : Stk ω0 (updO ω a (.lst [])) (a :: as) ([] :: st) := by
  have na : a ∉ as := fun h => by
    obtain ⟨t, e⟩ := S.has h
    rw [n] at e
    cases e
  have n0 : ω0 a = none := by
    cases e : ω0 a with
    | none => rfl
    | some c =>
      rw [S.sub a c e] at n
      cases n
  refine ⟨fun b c h => ?_, List.nodup_cons.mpr ⟨na, S.nd⟩, fun b h => ?_, by simp [S.len], fun i b t h1 h2 => ?_⟩
  · rw [updO_ne (by intro z; rw [z, n0] at h; cases h)]
    exact S.sub b c h
  · rcases List.mem_cons.mp h with z | z
    · rw [z]; exact n0
    · exact S.new b z
  · cases i with
    | zero =>
      simp at h1 h2
      subst h1 h2
      exact updO_same
    | succ i =>
      have h1 : as[i]? = some b := by simpa using h1
      rw [updO_ne (by intro z; subst z; exact na (List.mem_of_getElem? h1))]
      exact S.at_ i b t h1 (by simpa using h2)
theorem Stk.top (S : Stk ω0 ω (a :: as) (t :: st)) : ω a = some (.lst t) := S.at_ 0 a t rfl rfl
theorem Stk.pop (S : Stk ω0 ω (a :: as) (t :: st)) : Stk ω0 ω as st :=
  ⟨S.sub, (List.nodup_cons.mp S.nd).2, fun b h => S.new b (List.mem_cons_of_mem _ h), by simpa using S.len, fun i b u h1 h2 => S.at_ (i + 1) b u (by simpa using h1) (by simpa using h2)⟩
theorem Stk.put (S : Stk ω0 ω (a :: as) (t :: st)) : Stk ω0 (updO ω a (.lst t')) (a :: as) (t' :: st) := by
  refine ⟨fun b c h => ?_, S.nd, S.new, S.len, fun i b u h1 h2 => ?_⟩
  · rw [updO_ne (by intro z; rw [z, S.new a List.mem_cons_self] at h; cases h)]
    exact S.sub b c h
  · cases i with
    | zero =>
      simp at h1 h2
      subst h1 h2
      exact updO_same
    | succ i =>
      rw [updO_ne (by
        intro z
        subst z
        exact (List.nodup_cons.mp S.nd).1 (List.mem_of_getElem? (by simpa using h1)))]
      exact S.at_ (i + 1) b u h1 (by simpa using h2)
end
theorem at_last {α : Type} (xs : List α) (x : α) : atI (xs ++ [x]) (-1) = some x := by
  unfold atI
  have e : ixN (xs ++ [x]).length (-1) = some xs.length := by
    simp [ixN]
    omega
  rw [e]
  simp
section
variable {b : Bs} {ω : Om} {Q : CQ} {E : CE} {n : Nat}
theorem ob_cs : ("(" : Str) = ⟨([40] : Cs).toArray⟩ := by decide +kernel
theorem cb_cs : (")" : Str) = ⟨([41] : Cs).toArray⟩ := by decide +kernel
theorem sp_cs : (" " : Str) = ⟨([32] : Cs).toArray⟩ := by decide +kernel
def dnS (x : Sl) (d : List D) : Prop := x = .sh (.list d) ∨ x = .ow (.list d)
theorem vof_open {p : Cs} {r : List Cs} {st : List (List D)} {done : List D} (h : p = [40]) : vof (p :: r) st done = vof r ([] :: st) done := by
  rw [vof.eq_def]
  dsimp only
  rw [if_pos h]
theorem vof_sp {p : Cs} {r : List Cs} {st : List (List D)} {done : List D} (h1 : ¬ p = [40]) (h : p = [32]) : vof (p :: r) st done = vof r st done := by
  rw [vof.eq_def]
  dsimp only
  rw [if_neg h1, if_pos h]
theorem vof_close {p : Cs} {r : List Cs} {st : List (List D)} {done : List D} (h1 : ¬ p = [40]) (h2 : ¬ p = [32]) (h : p = [41]) : vof (p :: r) st done = match st with
    | [] => []
    | t :: st => put (vof r) (.tuple t) st done := by
  rw [vof.eq_def]
  dsimp only
  rw [if_neg h1, if_neg h2, if_pos h]
  all_goals (cases st <;> rfl)
theorem vof_other {p : Cs} {r : List Cs} {st : List (List D)} {done : List D} (h1 : ¬ p = [40]) (h2 : ¬ p = [32]) (h : ¬ p = [41]) : vof (p :: r) st done = match plainOf p with
    | some v => put (vof r) v st done
    | none => [] := by
  rw [vof.eq_def]
  dsimp only
  rw [if_neg h1, if_neg h2, if_neg h]
  all_goals (cases plainOf p <;> rfl)
def pcs1 (ps : List Cs) : List D := ps.map fun p => .str ⟨p.toArray⟩
/-- between the turns -/
def Iv (N : Nat) (ω0 : Om) (res : List D) (ds : List D) (ρ : En) (ω : Om) : Prop := ∃ (ps : List Cs) (x0 dn x y : Sl) (as : List Addr) (st : List (List D)) (done : List D),
  ds = pcs1 ps ∧ ρ = [x0, .ow (.list (as.map RF).reverse), dn, x, y] ∧ dnS dn done ∧ Stk ω0 ω as st ∧ (∀ p ∈ ps, fineP p) ∧ vof ps st done = res ∧ as.length + ps.length ≤ N ∧ (∀ t ∈ st, t.length + ps.length ≤ N) ∧ done.length ≤ 1
theorem t30 (h : Ok b) {ps : List Cs} (hN : ps.length ≤ 1000000) (hf : ∀ p ∈ ps, fineP p) (q : ∀ x : Sl, (x = .sh (.list (vof ps [] [])) ∨ x = .ow (.list (vof ps [] []))) → Q x ω) : (lv b (n + 3)).cl 30 [.list (pcs1 ps)] ω Q E := by
  have hz := sizeLine_eq
  rw [lv_def (fd := d30) (by rw [h.P]; rfl), callF_1 rfl]
  walk_at "RUN"
  refine ⟨by show 0 ≤ sizeLine; omega, ?_⟩
  walk_at "RUN"
  refine ⟨by show 0 ≤ sizeLine; omega, ?_⟩
  walk_at "RUN"
  refine for_st (I := Iv ps.length ω (vof ps [] [])) ?_ _ _ _ ?_ ?_
  · rintro d ds ρ ω' ⟨ps', x0, dn, x, y, as, st, done, e, rfl, hd, S, hf, hv, hN1, hN2, hN3⟩
    cases ps' with
    | nil => simp [pcs1] at e
    | cons p ps' =>
      simp only [pcs1, List.map_cons, List.cons.injEq] at e
      obtain ⟨rfl, rfl⟩ := e
      have hp := hf p List.mem_cons_self
      have hf' : ∀ p ∈ ps', fineP p := fun q hq => hf q (List.mem_cons_of_mem _ hq)
      simp only [List.length_cons] at hN1 hN2
      walk_at "RUN"
      rw [ob_cs]
      refine got_mk (cmp_eq_cs hp.1 (by decide +kernel)) ?_
      walk_at "RUN"
      refine br_i (fun e => ?_) fun e => ?_
      · have e1 : p = [40] := of_decide_eq_true e
        walk_at "RUN"
        intro a na
        walk_at "RUN"
        refine ⟨by simp; omega, ?_⟩
        walk_at "RUN"
        exact ⟨ps', x0, dn, .sh (.str ⟨p.toArray⟩), y, a :: as, [] :: st, done, rfl, by simp [List.set, Sl.d], hd, S.push na, hf', by rw [← hv, vof_open e1], by simp; omega, fun t ht => by
          rcases List.mem_cons.mp ht with z | z
          · subst z; simp; omega
          · have := hN2 t z; omega, hN3⟩
      · have e1 : ¬ p = [40] := of_decide_eq_false e
        walk_at "RUN"
        rw [sp_cs]
        refine got_mk (cmp_eq_cs hp.1 (by decide +kernel)) ?_
        walk_at "RUN"
        refine br_i (fun e => ?_) fun e => ?_
        · have e2 : p = [32] := of_decide_eq_true e
          walk_at "RUN"
          exact ⟨ps', x0, dn, .sh (.str ⟨p.toArray⟩), y, as, st, done, rfl, by simp [List.set, Sl.d], hd, S, hf', by rw [← hv, vof_sp e1 e2], by omega, fun t ht => by have := hN2 t ht; omega, hN3⟩
        · have e2 : ¬ p = [32] := of_decide_eq_false e
          walk_at "RUN"
          rw [cb_cs]
          refine got_mk (cmp_eq_cs hp.1 (by decide +kernel)) ?_
          walk_at "RUN"
          refine br_i (fun e => ?_) fun e => ?_
          · have e3 : p = [41] := of_decide_eq_true e
            rw [vof_close e1 e2 e3] at hv
            cases as with
            | nil =>
              have hst : st = [] := List.eq_nil_of_length_eq_zero S.len.symm
              subst hst
              walk_at "RUN"
              refine ⟨by show 0 ≤ sizeLine; omega, ?_⟩
              show dQ _ _
              exact ⟨ω, S.sub, q _ (.inr (by rw [← hv]))⟩
            | cons a as =>
              cases st with
              | nil => have := S.len; cases this
              | cons t st =>
                have hr : ((a :: as).map RF).reverse = (as.map RF).reverse ++ [RF a] := by simp
                rw [hr]
                walk_at "RUN"
                refine br_mf (by simp) ?_
                walk_at "RUN"
                refine got_mk (a := RF a) (by simp) ?_
                refine lstC_m rfl S.top ?_
                walk_at "RUN"
                refine ⟨by show 1 ≤ sizeLine; omega, ?_⟩
                walk_at "RUN"
                have S1 := S.pop
                have hN3' : ∀ t ∈ st, t.length + (ps'.length + 1) ≤ ps.length := fun t h => hN2 t (List.mem_cons_of_mem _ h)
                have hN4 : as.length + (ps'.length + 1) ≤ ps.length := by simp at hN1; omega
                have hv : put (vof ps') (.tuple t) st done = vof ps [] [] := hv
                rw [show ((as.map RF).reverse ++ [RF a]).dropLast = (as.map RF).reverse by simp]
                cases as with
                | nil =>
                  have hst : st = [] := List.eq_nil_of_length_eq_zero S1.len.symm
                  subst hst
                  walk_at "RUN"
                  cases done with
                  | nil =>
                    rcases hd with rfl | rfl
                    · walk_at "RUN"
                      exact ⟨ps', x0, .sh (.list [PyData.tuple t]), .sh (.str ⟨p.toArray⟩), .sh (.list [PyData.tuple t]), [], [], [PyData.tuple t], rfl, by simp [List.set, Sl.d], .inl rfl, S1, hf', by rw [← hv]; rfl, by simp; omega, fun t h => by simp at h, by simp⟩
                    · walk_at "RUN"
                      exact ⟨ps', x0, .sh (.list [PyData.tuple t]), .sh (.str ⟨p.toArray⟩), .sh (.list [PyData.tuple t]), [], [], [PyData.tuple t], rfl, by simp [List.set, Sl.d], .inl rfl, S1, hf', by rw [← hv]; rfl, by simp; omega, fun t h => by simp at h, by simp⟩
                  | cons z done =>
                    rcases hd with rfl | rfl
                    · walk_at "RUN"
                      refine ⟨by show 0 ≤ sizeLine; omega, ?_⟩
                      show dQ _ _
                      exact ⟨ω, S1.sub, q _ (.inr (by rw [← hv]; rfl))⟩
                    · walk_at "RUN"
                      refine ⟨by show 0 ≤ sizeLine; omega, ?_⟩
                      show dQ _ _
                      exact ⟨ω, S1.sub, q _ (.inr (by rw [← hv]; rfl))⟩
                | cons a' as =>
                  cases st with
                  | nil => have := S1.len; cases this
                  | cons t' st =>
                    have hr2 : ((a' :: as).map RF).reverse = (as.map RF).reverse ++ [RF a'] := by simp
                    rw [hr2]
                    refine br_mf (by simp) ?_
                    walk_at "RUN"
                    refine br_mf (by simp) ?_
                    walk_at "RUN"
                    refine got_mk (at_last _ _) ?_
                    refine ⟨⟨a', t', rfl, S1.top⟩, ?_⟩
                    walk_at "RUN"
                    refine lstC_m rfl S1.top ⟨by have := hN3' t' List.mem_cons_self; omega, ?_⟩
                    walk_at "RUN"
                    exact ⟨ps', x0, dn, .sh (.str ⟨p.toArray⟩), .sh (.list [PyData.tuple t]), a' :: as, (t' ++ [PyData.tuple t]) :: st, done, rfl, by simp [List.set, Sl.d], hd, S1.put, hf', by rw [← hv]; rfl, by simp at hN4 ⊢; omega, fun t ht => by
                      rcases List.mem_cons.mp ht with z | z
                      · subst z
                        have := hN3' t' List.mem_cons_self
                        simp
                        omega
                      · have := hN3' t (List.mem_cons_of_mem _ z)
                        omega, hN3⟩
          · have e3 : ¬ p = [41] := of_decide_eq_false e
            rw [vof_other e1 e2 e3] at hv
            walk_at "RUN"
            refine t29 (n := n) h hp ?_
            cases hpl : plainOf p with
            | none =>
              rw [hpl] at hv
              walk_at "RUN"
              refine ⟨by show 0 ≤ sizeLine; omega, ?_⟩
              show dQ _ _
              exact ⟨ω, S.sub, q _ (.inr (by rw [← hv]))⟩
            | some v =>
              rw [hpl] at hv
              have S1 := S
              have hN3' := hN2
              have hN4 := hN1
              have hv : put (vof ps') v st done = vof ps [] [] := hv
              simp only [Option.toList]
              walk_at "RUN"
              cases as with
              | nil =>
                have hst : st = [] := List.eq_nil_of_length_eq_zero S1.len.symm
                subst hst
                walk_at "RUN"
                cases done with
                | nil =>
                  rcases hd with rfl | rfl
                  · walk_at "RUN"
                    exact ⟨ps', x0, .sh (.list [v]), .sh (.str ⟨p.toArray⟩), .sh (.list [v]), [], [], [v], rfl, by simp [List.set, Sl.d], .inl rfl, S1, hf', by rw [← hv]; rfl, by simp; omega, fun t h => by simp at h, by simp⟩
                  · walk_at "RUN"
                    exact ⟨ps', x0, .sh (.list [v]), .sh (.str ⟨p.toArray⟩), .sh (.list [v]), [], [], [v], rfl, by simp [List.set, Sl.d], .inl rfl, S1, hf', by rw [← hv]; rfl, by simp; omega, fun t h => by simp at h, by simp⟩
                | cons z done =>
                  rcases hd with rfl | rfl
                  · walk_at "RUN"
                    refine ⟨by show 0 ≤ sizeLine; omega, ?_⟩
                    show dQ _ _
                    exact ⟨ω, S1.sub, q _ (.inr (by rw [← hv]; rfl))⟩
                  · walk_at "RUN"
                    refine ⟨by show 0 ≤ sizeLine; omega, ?_⟩
                    show dQ _ _
                    exact ⟨ω, S1.sub, q _ (.inr (by rw [← hv]; rfl))⟩
              | cons a' as =>
                cases st with
                | nil => have := S1.len; cases this
                | cons t' st =>
                  have hr2 : ((a' :: as).map RF).reverse = (as.map RF).reverse ++ [RF a'] := by simp
                  rw [hr2]
                  refine br_mf (by simp) ?_
                  walk_at "RUN"
                  refine br_mf (by simp) ?_
                  walk_at "RUN"
                  refine got_mk (at_last _ _) ?_
                  refine ⟨⟨a', t', rfl, S1.top⟩, ?_⟩
                  walk_at "RUN"
                  refine lstC_m rfl S1.top ⟨by have := hN3' t' List.mem_cons_self; omega, ?_⟩
                  walk_at "RUN"
                  exact ⟨ps', x0, dn, .sh (.str ⟨p.toArray⟩), .sh (.list [v]), a' :: as, (t' ++ [v]) :: st, done, rfl, by simp [List.set, Sl.d], hd, S1.put, hf', by rw [← hv]; rfl, by simp at hN4 ⊢; omega, fun t ht => by
                    rcases List.mem_cons.mp ht with z | z
                    · subst z
                      have := hN3' t' List.mem_cons_self
                      simp
                      omega
                    · have := hN3' t (List.mem_cons_of_mem _ z)
                      omega, hN3⟩
  · exact ⟨ps, _, _, _, _, [], [], [], rfl, rfl, .inr rfl, ⟨fun _ _ h => h, List.nodup_nil, fun a h => by simp at h, rfl, fun i a t h => by simp at h⟩, hf, rfl, by simp, fun t h => by simp at h, by simp⟩
  · rintro ρ ω' ⟨ps, x0, dn, x, y, as, st, done, e, rfl, hd, S, _, hv, _, _, _⟩
    have e : ps = [] := List.map_eq_nil_iff.mp e.symm
    subst e
    have fin : ∀ z : Sl, (z = .sh (.list (vof ps [] [])) ∨ z = .ow (.list (vof ps [] []))) → dQ (Q z) ω' := fun z hz => ⟨ω, S.sub, q z hz⟩
    cases as with
    | nil =>
      have : st = [] := List.eq_nil_of_length_eq_zero S.len.symm
      subst this
      simp only [vof] at hv
      walk_at "RUN"
      rcases hd with rfl | rfl
      · exact rdV_ms rfl (fin _ (.inl (by rw [← hv])))
      · exact rdV_mo rfl (fin _ (.inl (by rw [← hv])))
    | cons a as =>
      walk_at "RUN"
      refine br_mf (by simp) ?_
      refine Iev_lst (Ievs_nil ⟨Nat.zero_le _, ?_⟩)
      refine fin _ (.inr ?_)
      cases st with
      | nil => have := S.len; cases this
      | cons t st => rw [← hv]; rfl
end
end K8
namespace K8
open PySem PySem.Spec L2 Ev K8M
local macro_rules | `(tactic| walk_at "RUN") => `(tactic| repeat (first | ((with_reducible apply isGot); (with_reducible apply got_mk); exact rfl) | ((with_reducible apply isEv); first | with_reducible apply Iev_var | with_reducible apply Iev_int | with_reducible apply Iev_str | with_reducible apply Iev_cmp | with_reducible apply Iev_call | with_reducible apply Iev_bi | with_reducible apply Iev_and | with_reducible apply Iev_isi | with_reducible apply Iev_gc | with_reducible apply Iev_not | with_reducible apply Iev_sub | with_reducible apply Iev_bin | with_reducible apply Iev_tup | with_reducible apply Iev_lst | with_reducible apply Iev_or | with_reducible apply Iev_lc | with_reducible apply Iev_ife | with_reducible apply Iev_emp | with_reducible apply Iev_isN | with_reducible apply Iev_non | with_reducible apply Iev_bl | with_reducible apply Iev_cmp2 | with_reducible apply Iev_callK | with_reducible apply Iev_isi2 | with_reducible apply Iev_slL | with_reducible apply Iev_slH | with_reducible apply Iev_slB | with_reducible apply Iev_join | with_reducible apply Iev_pop | with_reducible apply Iev_reprEq | with_reducible apply Iev_usub | with_reducible apply Iev_subv | with_reducible apply Iev_dk | with_reducible apply Iev_dkEmp | with_reducible apply Iev_dkPop0 | with_reducible apply Iev_dNew | with_reducible apply Iev_lNew | with_reducible apply Iev_cTup | with_reducible apply Iev_word) | ((with_reducible apply rdV_ms); exact rfl) | ((with_reducible apply rdV_mo); exact rfl) | ((with_reducible apply br_mt); exact rfl) | ((with_reducible apply br_mf); exact rfl) | ((with_reducible apply isEx); first | with_reducible apply Iex_ife | with_reducible apply Iex_asg | with_reducible apply Iex_ret | with_reducible apply Iex_fr | with_reducible apply Iex_par | with_reducible apply Iex_aug | with_reducible apply Iex_exp | with_reducible apply Iex_app | with_reducible apply Iex_ext | with_reducible apply Iex_raise | with_reducible apply Iex_whl | with_reducible apply Iex_dkSet | with_reducible apply Iex_cApp | with_reducible apply Iex_brk | with_reducible apply Iex_cont | ((with_reducible apply rv_s); exact rfl) | ((with_reducible apply rv_o); exact rfl)) | with_reducible apply Isx_nx | with_reducible apply Isx_rt | with_reducible apply Ilp_nx | with_reducible apply Ilp_rt | with_reducible apply Ifl_rt | with_reducible apply Isx_ct | with_reducible apply Isx_ex | with_reducible apply Ilp_ct | with_reducible apply Ilp_ex | with_reducible apply Ifl_ex | with_reducible apply Ifl_nx | with_reducible apply Isx_bk | with_reducible apply Ilp_bk | with_reducible apply Iexs_nil | with_reducible apply Iexs_cons | ((with_reducible apply isExs); apply Iexs_cons) | with_reducible apply Ievs_nil | with_reducible apply Ievs_cons | with_reducible apply IevAnd_1 | with_reducible apply IevAnd_2 | with_reducible apply IevI_val | with_reducible apply IevI_rng | with_reducible apply IevI_er | with_reducible apply IevOr_1 | with_reducible apply IevOr_2 | with_reducible apply IevIf_0 | with_reducible apply IevIf_1 | with_reducible apply IbindT_n | with_reducible apply IbindT_2 | ((with_reducible apply pkV_ms); exact rfl) | ((with_reducible apply pkV_mo); exact rfl) | ((with_reducible apply upV_m); exact rfl) | ((with_reducible apply look_m); exact rfl) | ((with_reducible apply ow_m); exact rfl) | ((with_reducible apply lst_m); exact rfl) | ((with_reducible apply tup_m); exact rfl) | ((with_reducible apply pkT_m); exact rfl; exact Sl.noConfusion) | with_reducible apply atw))
section
variable {b : Bs} {ω : Om} {Q : CQ} {E : CE} {n : Nat}
theorem flush_facts (cur : Cs) : lens (flush cur) ≤ 10 * cur.length ∧ (flush cur).length ≤ cur.length ∧ ∀ p ∈ flush cur, p = cur := by
  unfold flush
  split
  · simp [lens]
  · rename_i h
    have : 1 ≤ cur.length := by
      cases cur with
      | nil => exact absurd rfl h
      | cons _ _ => simp
    refine ⟨by simp only [lens]; omega, by simp; omega, fun p hp => List.mem_singleton.mp hp⟩
theorem lens_app : ∀ a c : List Cs, lens (a ++ c) = lens a + lens c
  | [], c => by simp [lens]
  | d :: a, c => by simp [lens, lens_app a c]; omega
theorem pcs_facts : ∀ (cs cur : Cs), lens (pcs cur cs) ≤ 10 * (cur.length + cs.length) ∧ (pcs cur cs).length ≤ cur.length + cs.length ∧ ∀ p ∈ pcs cur cs, p.length ≤ cur.length + cs.length ∧ ∀ c ∈ p, c ∈ cur ∨ c ∈ cs
  | [], cur => by
    obtain ⟨h1, h2, h3⟩ := flush_facts cur
    refine ⟨by simpa [pcs] using h1, by simpa [pcs] using h2, fun p hp => ?_⟩
    have e := h3 p (by simpa [pcs] using hp)
    subst e
    exact ⟨by simp, fun c hc => .inl hc⟩
  | c :: r, cur => by
    unfold pcs
    split
    · obtain ⟨h1, h2, h3⟩ := flush_facts cur
      obtain ⟨g1, g2, g3⟩ := pcs_facts r []
      simp only [List.length_nil, Nat.zero_add] at g1 g2 g3
      refine ⟨by simp only [lens_app, lens, List.length_cons, List.length_nil]; omega, by simp only [List.length_append, List.length_cons]; omega, fun p hp => ?_⟩
      rcases List.mem_append.mp hp with hp | hp
      · have e := h3 p hp
        subst e
        exact ⟨by omega, fun c hc => .inl hc⟩
      · rcases List.mem_cons.mp hp with e | hp
        · subst e
          exact ⟨by simp only [List.length_cons, List.length_nil]; omega, fun x hx => .inr (by rw [List.mem_singleton.mp hx]; exact List.mem_cons_self)⟩
        · obtain ⟨k1, k2⟩ := g3 p hp
          exact ⟨by simp only [List.length_cons]; omega, fun x hx => .inr (by
            rcases k2 x hx with h | h
            · simp at h
            · exact List.mem_cons_of_mem _ h)⟩
    · obtain ⟨g1, g2, g3⟩ := pcs_facts r (cur ++ [c])
      simp only [List.length_append, List.length_cons, List.length_nil] at g1 g2 g3
      refine ⟨by simp only [List.length_cons]; omega, by simp only [List.length_cons]; omega, fun p hp => ?_⟩
      obtain ⟨k1, k2⟩ := g3 p hp
      refine ⟨by simp only [List.length_cons]; omega, fun x hx => ?_⟩
      rcases k2 x hx with h | h
      · rcases List.mem_append.mp h with h | h
        · exact .inl h
        · exact .inr (by rw [List.mem_singleton.mp h]; exact List.mem_cons_self)
      · exact .inr (List.mem_cons_of_mem _ h)
mutual
theorem lvt_lt : ∀ d : D, ok d = true → ∀ c ∈ lvt d, c < 1114112
  | .tuple ds, h, c, hc => by
    rcases List.mem_cons.mp hc with e | hc
    · omega
    · rcases List.mem_append.mp hc with hc | hc
      · exact lvtJ_lt ds h c hc
      · have := List.mem_singleton.mp hc
        omega
  | .none, _, c, hc => by
    have := List.mem_singleton.mp hc
    omega
  | .str s, h, c, hc => by
    have := (word_plain h).2 c hc
    omega
  | .int i, h, c, hc => shp_iff.mp (shp_i i) c hc
  | .bool _, h, _, _ => by cases h
  | .list _, h, _, _ => by cases h
  | .dict _, h, _, _ => by cases h
theorem lvtJ_lt : ∀ ds : List D, okAll ds = true → ∀ c ∈ lvtJ ds, c < 1114112
  | [], _, c, hc => by cases hc
  | d :: r, h, c, hc => by
    have h' : (ok d && okAll r) = true := h
    rw [Bool.and_eq_true] at h'
    rcases List.mem_append.mp hc with hc | hc
    · exact lvt_lt d h'.1 c hc
    · exact lvtK_lt r h'.2 c hc
theorem lvtK_lt : ∀ ds : List D, okAll ds = true → ∀ c ∈ lvtK ds, c < 1114112
  | [], _, c, hc => by cases hc
  | d :: r, h, c, hc => by
    have h' : (ok d && okAll r) = true := h
    rw [Bool.and_eq_true] at h'
    rcases List.mem_cons.mp hc with e | hc
    · omega
    · rcases List.mem_append.mp hc with hc | hc
      · exact lvt_lt d h'.1 c hc
      · exact lvtK_lt r h'.2 c hc
end
theorem lvt_shp {d : D} (h : ok d = true) : SeqAt.shaped (.str ⟨(lvt d).toArray⟩) = true := shp_iff.mpr (lvt_lt d h)
theorem cmp_ne_s {p : Cs} {s : Str} (hp : SeqAt.shaped (.str ⟨p.toArray⟩) = true) (hs : SeqAt.shaped (.str s) = true) : cmpD .NotEq (.str ⟨p.toArray⟩) (.str s) = some (.bool (!decide (p = s.cps.toList))) := by
  have hs' : SeqAt.shaped (.str ⟨s.cps.toList.toArray⟩) = true := by simpa using hs
  have z := eq_cs hp hs'
  have e : (⟨s.cps.toList.toArray⟩ : Str) = s := by simp
  rw [e] at z
  show (eqD _ _).map _ = _
  rw [z]
  rfl
/-- what read_value answers -/
def rdv (s : Str) : Option D :=
  match vof (pieces s.cps.toList) [] [] with
  | d :: _ => if isv d = true ∧ lvt d = s.cps.toList then some d else none
  | [] => none
theorem t31n (h : Ok b) {d : D} (hd : nod d = true) (hn : ∀ s, d ≠ .str s) (q : E ⟨"NoText", some ("line", .int 0)⟩ ω) : (lv b (n + 4)).cl 31 [d] ω Q E := by
  rw [lv_def (fd := d31) (by rw [h.P]; rfl), callF_1 rfl]
  cases d with
  | str s => exact absurd rfl (hn s)
  | dict _ => cases hd
  | _ =>
    walk_at "RUN"
    rw [lv_pr (by rw [h.P]; rfl)]
    exact h.r14 _ _ _ _ _ (dQ_id q)
theorem t31 (h : Ok b) {s : Str} (hs : s.length ≤ 90000) (hsh : SeqAt.shaped (.str s) = true)
    (q1 : ∀ d, rdv s = some d → ∀ x : Sl, (x = .sh d ∨ x = .ow d) → Q x ω) (q2 : rdv s = none → E ⟨"NoText", some ("line", .int 0)⟩ ω) : (lv b (n + 4)).cl 31 [.str s] ω Q E := by
  have hz := sizeLine_eq
  have hl : s.cps.toList.length = s.length := by simp [Str.length]
  obtain ⟨p1, p2, p3⟩ := pcs_facts s.cps.toList []
  simp only [List.length_nil, Nat.zero_add] at p1 p2 p3
  have hfp : ∀ p ∈ pieces s.cps.toList, fineP p := fun p hp => by
    obtain ⟨k1, k2⟩ := p3 p hp
    have hsh' : SeqAt.shaped (.str ⟨s.cps.toList.toArray⟩) = true := by simpa using hsh
    refine ⟨shp_iff.mpr fun c hc => shp_iff.mp hsh' c ?_, by omega⟩
    rcases k2 c hc with h | h
    · simp at h
    · exact h
  obtain ⟨v1, v2⟩ := vof_good (pieces s.cps.toList) [] [] hfp (fun _ h => by simp at h) (fun _ h => by simp at h)
  rw [lv_def (fd := d31) (by rw [h.P]; rfl), callF_1 rfl]
  walk_at "RUN"
  refine t28 h (by omega) ?_
  walk_at "RUN"
  refine t30 h (by show (pcs [] s.cps.toList).length ≤ _; omega) hfp ?_
  intro x hx
  cases e : vof (pieces s.cps.toList) [] [] with
  | nil =>
    have hr : rdv s = none := by rw [rdv, e]
    rw [e] at hx
    rcases hx with rfl | rfl
    all_goals
      walk_at "RUN"
      rw [lv_pr (by rw [h.P]; rfl)]
      exact h.r14 _ _ _ _ _ (dQ_id (q2 hr))
  | cons d r =>
    rw [e] at hx v1 v2
    obtain ⟨o1, o2⟩ := v1 d List.mem_cons_self
    have o3 : big d ≤ 1000000 := by
      have p1' : lens (pieces s.cps.toList) ≤ 10 * s.cps.toList.length := p1
      simp only [bigs, bigss] at v2
      omega
    unfold big at o3
    rcases hx with rfl | rfl
    all_goals
      walk_at "RUN"
      refine got_mk (at_nat (i := 0) rfl) ?_
      walk_at "RUN"
      refine t26 (d := d) (n := n + 1) h o2 (by omega) ?_
      walk_at "RUN"
      refine br_i (fun e2 => ?_) fun e2 => ?_
      · have e2' : isv d = false := by simpa using e2
        have hr : rdv s = none := by
          rw [rdv, e]
          simp [e2']
        walk_at "RUN"
        rw [lv_pr (by rw [h.P]; rfl)]
        exact h.r14 _ _ _ _ _ (dQ_id (q2 hr))
      · have e2' : isv d = true := by simpa using e2
        walk_at "RUN"
        refine got_mk (at_nat (i := 0) rfl) ?_
        walk_at "RUN"
        refine t27 (d := d) (n := n) h o2 (by omega) e2' o1 (by omega) (by omega) ?_
        walk_at "RUN"
        refine got_mk (a := .bool (!decide (lvt d = s.cps.toList))) ?_ ?_
        · exact cmp_ne_s (lvt_shp o1) hsh
        · walk_at "RUN"
          refine br_i (fun e3 => ?_) fun e3 => ?_
          · have e3' : ¬ lvt d = s.cps.toList := by simpa using e3
            have hr : rdv s = none := by
              rw [rdv, e]
              simp [e3']
            walk_at "RUN"
            rw [lv_pr (by rw [h.P]; rfl)]
            exact h.r14 _ _ _ _ _ (dQ_id (q2 hr))
          · have e3' : lvt d = s.cps.toList := by simpa using e3
            have hr : rdv s = some d := by
              rw [rdv, e]
              simp [e2', e3']
            walk_at "RUN"
            refine got_mk (at_nat (i := 0) rfl) ?_
            walk_at "RUN"
            exact q1 d hr _ (.inl rfl)
end
end K8
namespace K8
open PySem PySem.Spec L2 Ev K8M
local macro_rules | `(tactic| walk_at "RUN") => `(tactic| repeat (first | ((with_reducible apply isGot); (with_reducible apply got_mk); exact rfl) | ((with_reducible apply isEv); first | with_reducible apply Iev_var | with_reducible apply Iev_int | with_reducible apply Iev_str | with_reducible apply Iev_cmp | with_reducible apply Iev_call | with_reducible apply Iev_bi | with_reducible apply Iev_and | with_reducible apply Iev_isi | with_reducible apply Iev_gc | with_reducible apply Iev_not | with_reducible apply Iev_sub | with_reducible apply Iev_bin | with_reducible apply Iev_tup | with_reducible apply Iev_lst | with_reducible apply Iev_or | with_reducible apply Iev_lc | with_reducible apply Iev_ife | with_reducible apply Iev_emp | with_reducible apply Iev_isN | with_reducible apply Iev_non | with_reducible apply Iev_bl | with_reducible apply Iev_cmp2 | with_reducible apply Iev_callK | with_reducible apply Iev_isi2 | with_reducible apply Iev_slL | with_reducible apply Iev_slH | with_reducible apply Iev_slB | with_reducible apply Iev_join | with_reducible apply Iev_pop | with_reducible apply Iev_reprEq | with_reducible apply Iev_usub | with_reducible apply Iev_subv | with_reducible apply Iev_dk | with_reducible apply Iev_dkEmp | with_reducible apply Iev_dkPop0 | with_reducible apply Iev_dNew | with_reducible apply Iev_lNew | with_reducible apply Iev_cTup | with_reducible apply Iev_word) | ((with_reducible apply rdV_ms); exact rfl) | ((with_reducible apply rdV_mo); exact rfl) | ((with_reducible apply br_mt); exact rfl) | ((with_reducible apply br_mf); exact rfl) | ((with_reducible apply isEx); first | with_reducible apply Iex_ife | with_reducible apply Iex_asg | with_reducible apply Iex_ret | with_reducible apply Iex_fr | with_reducible apply Iex_par | with_reducible apply Iex_aug | with_reducible apply Iex_exp | with_reducible apply Iex_app | with_reducible apply Iex_ext | with_reducible apply Iex_raise | with_reducible apply Iex_whl | with_reducible apply Iex_dkSet | with_reducible apply Iex_cApp | with_reducible apply Iex_brk | with_reducible apply Iex_cont | ((with_reducible apply rv_s); exact rfl) | ((with_reducible apply rv_o); exact rfl)) | with_reducible apply Isx_nx | with_reducible apply Isx_rt | with_reducible apply Ilp_nx | with_reducible apply Ilp_rt | with_reducible apply Ifl_rt | with_reducible apply Isx_ct | with_reducible apply Isx_ex | with_reducible apply Ilp_ct | with_reducible apply Ilp_ex | with_reducible apply Ifl_ex | with_reducible apply Ifl_nx | with_reducible apply Isx_bk | with_reducible apply Ilp_bk | with_reducible apply Iexs_nil | with_reducible apply Iexs_cons | ((with_reducible apply isExs); apply Iexs_cons) | with_reducible apply Ievs_nil | with_reducible apply Ievs_cons | with_reducible apply IevAnd_1 | with_reducible apply IevAnd_2 | with_reducible apply IevI_val | with_reducible apply IevI_rng | with_reducible apply IevI_er | with_reducible apply IevOr_1 | with_reducible apply IevOr_2 | with_reducible apply IevIf_0 | with_reducible apply IevIf_1 | with_reducible apply IbindT_n | with_reducible apply IbindT_2 | ((with_reducible apply pkV_ms); exact rfl) | ((with_reducible apply pkV_mo); exact rfl) | ((with_reducible apply upV_m); exact rfl) | ((with_reducible apply look_m); exact rfl) | ((with_reducible apply ow_m); exact rfl) | ((with_reducible apply lst_m); exact rfl) | ((with_reducible apply tup_m); exact rfl) | ((with_reducible apply pkT_m); exact rfl; exact Sl.noConfusion) | with_reducible apply atw))
section
variable {b : Bs} {ω : Om} {Q : CQ} {E : CE} {n : Nat}
mutual
/-- how deep -/
def dp : D → Nat
  | .tuple ds => dps ds + 1
  | _ => 1
def dps : List D → Nat
  | [] => 0
  | d :: r => max (dp d) (dps r)
end
theorem dps_mem : ∀ {ds : List D} {d : D}, d ∈ ds → dp d ≤ dps ds
  | e :: r, d, h => by
    simp only [dps]
    rcases List.mem_cons.mp h with e | h
    · subst e; omega
    · have := dps_mem h
      omega
theorem cnt_mem : ∀ {ds : List D} {d : D}, d ∈ ds → cnt d ≤ cntAll ds
  | e :: r, d, h => by
    simp only [cntAll]
    rcases List.mem_cons.mp h with e | h
    · subst e; omega
    · have := cnt_mem h
      omega
theorem nil_shp : SeqAt.shaped (.list []) = true := by decide +kernel
theorem cmp_nil : cmpD .Eq (.list []) (.list []) = some (.bool true) := by
  simp only [cmp_Eq, eqD, nil_shp, and_self, if_true]
  rfl
theorem fm_none {α β : Type} : ∀ ds : List α, ds.filterMap (fun _ => (none : Option β)) = []
  | [] => rfl
  | d :: ds => by simp
theorem t37 (h : Ok b) : ∀ (m : Nat) {d : D} {ω : Om} {Q : CQ} {E : CE}, ok d = true ∨ (∃ s, d = .str s) → dp d ≤ m → cnt d ≤ sizeLine → Q (.sh (.bool true)) ω → (lv b (n + m)).cl 37 [d] ω Q E := by
  intro m
  induction m with
  | zero =>
    intro d ω Q E _ hd
    have : 1 ≤ dp d := by cases d <;> simp [dp]
    omega
  | succ m ih =>
    intro d ω Q E ho hd hc q
    rw [show n + (m + 1) = (n + m) + 1 from rfl, lv_def (fd := d37) (by rw [h.P]; rfl), callF_1 rfl]
    cases d with
    | tuple ds =>
      have hok : okAll ds = true := by
        rcases ho with h | ⟨s, e⟩
        · exact h
        · cases e
      have hlen : ds.length ≤ sizeLine := by
        have := cnt_len ds
        simp only [cnt] at hc
        omega
      walk_at "RUN"
      refine lcGo_ind (R := fun ρ => ∃ y, ρ = [.sh (.tuple ds), y]) (g := fun _ => none) ?_ ?_ ⟨_, rfl⟩ ?_
      · intro d hdm ρ k ⟨y, hy⟩ hk
        subst hy
        walk_at "RUN"
        refine ih (d := d) (.inl (okAll_mem.mp hok d hdm)) ?_ ?_ ?_
        · have := dps_mem hdm
          simp only [dp] at hd
          omega
        · have := cnt_mem hdm
          simp only [cnt] at hc
          omega
        · walk_at "RUN"
          exact hk _ ⟨_, rfl⟩
      · show 0 + ds.length ≤ sizeLine
        omega
      · rintro ρ' ⟨y, rfl⟩
        rw [fm_none]
        walk_at "RUN"
        refine ⟨by show 0 ≤ sizeLine; omega, ?_⟩
        walk_at "RUN"
        first | exact q | exact dQ_id q
    | bool k =>
      rcases ho with h | ⟨s, e⟩
      · cases h
      · cases e
    | list ds =>
      rcases ho with h | ⟨s, e⟩
      · cases h
      · cases e
    | dict ds =>
      rcases ho with h | ⟨s, e⟩
      · cases h
      · cases e
    | _ =>
      walk_at "RUN"
      first | exact q | exact dQ_id q
def nest (d : D) : Nat → D
  | 0 => d
  | k + 1 => .tuple [nest d k]
theorem t43 (h : Ok b) {k : Nat} (hk : k ≤ 60) {d : D} (q : Q (.sh (nest d k)) ω) : (lv b (n + 1)).cl 43 [.int (k : Nat), d] ω Q E := by
  rw [lv_def (fd := d43) (by rw [h.P]; rfl), callF_1 rfl]
  walk_at "RUN"
  refine ⟨by omega, ?_⟩
  refine for_ind (I := fun ds ρ => ∃ (i : Nat) (y : Sl), ρ = [.sh (.int (k : Nat)), .sh (nest d i), y] ∧ ds.length + i = k) ?_ _ _ ⟨0, _, rfl, by simp⟩ ?_
  · rintro x ds ρ ⟨i, y, rfl, hl⟩
    walk_at "RUN"
    refine ⟨by have := sizeLine_eq; show 1 ≤ sizeLine; omega, ?_⟩
    walk_at "RUN"
    refine ⟨i + 1, _, rfl, ?_⟩
    simp only [List.length_cons] at hl
    omega
  · rintro ρ ⟨i, y, rfl, hl⟩
    have e : i = k := by simpa using hl
    subst e
    walk_at "RUN"
    first | exact q | exact dQ_id q
theorem cmp_self {d : D} (hs : SeqAt.shaped d = true) : cmpD .Eq d d = some (.bool true) := by
  have hr := SeqAt.eqv_refl d (SeqAt.canLay_of_shaped hs)
  simp only [cmp_Eq, eqD, hs, and_self, if_true, hr]
  rfl
theorem t38 (h : Ok b) {m : Nat} {d : D} (ho : ok d = true ∨ (∃ s, d = .str s)) (hm : dp d ≤ m) (hc : cnt d ≤ sizeLine) (hs : SeqAt.shaped d = true) (hw : shows d = true) (q : Q (.sh (.bool true)) ω) : (lv b (n + m + 1)).cl 38 [d, d] ω Q E := by
  rw [lv_def (fd := d38) (by rw [h.P]; rfl), callF_1 rfl]
  walk_at "RUN"
  refine t37 h m ho hm hc ?_
  walk_at "RUN"
  refine got_mk (cmp_self hs) ?_
  walk_at "RUN"
  refine got_mk (cmp_self hs) ?_
  walk_at "RUN"
  refine ⟨hw, ?_⟩
  walk_at "RUN"
  refine ⟨rfl, ?_⟩
  walk_at "RUN"
  first | exact q | exact dQ_id q
theorem lvtJ_join : ∀ ds : List D, lvtJ ds = TL.joinL [32] (ds.map lvt)
  | [] => rfl
  | [d] => by simp [lvtJ, lvtK, TL.joinL]
  | d :: e :: r => by
    have z := lvtJ_join (e :: r)
    show lvt d ++ (32 :: (lvt e ++ lvtK r)) = lvt d ++ ([32] ++ TL.joinL [32] ((e :: r).map lvt))
    rw [← z]
    rfl
theorem join_sp (fs : List Cs) : Txt.join " " (fs.map fun p => ⟨p.toArray⟩) = ⟨(TL.joinL [32] fs).toArray⟩ := by
  have e : (" " : Str) = SX.S [32] := by decide +kernel
  rw [e]
  exact SX.join_S [32] fs
theorem lvtK_ge : ∀ ds : List D, (ds.map fun d => (lvt d).length).sum + ds.length ≤ (lvtK ds).length ∧ ∀ d ∈ ds, (lvt d).length ≤ (lvtK ds).length
  | [] => by simp [lvtK]
  | d :: r => by
    obtain ⟨h1, h2⟩ := lvtK_ge r
    simp only [lvtK, List.map_cons, List.sum_cons, List.length_cons, List.length_append]
    refine ⟨by omega, fun e he => ?_⟩
    rcases List.mem_cons.mp he with e | he
    · subst e; omega
    · have := h2 e he
      omega
theorem lvtJ_ge (ds : List D) : (ds.map fun d => (lvt d).length).sum + ds.length ≤ (lvtJ ds).length + 1 ∧ ∀ d ∈ ds, (lvt d).length ≤ (lvtJ ds).length := by
  cases ds with
  | nil => simp [lvtJ]
  | cons d r =>
    obtain ⟨h1, h2⟩ := lvtK_ge r
    simp only [lvtJ, List.map_cons, List.sum_cons, List.length_cons, List.length_append]
    refine ⟨by omega, fun e he => ?_⟩
    rcases List.mem_cons.mp he with e | he
    · subst e; omega
    · have := h2 e he
      omega
theorem join_lvt {ds : List D} (h : (lvtJ ds).length ≤ 1000000) : joinD (.str " ") (.list (ds.map fun d => .str ⟨(lvt d).toArray⟩)) = some (.str ⟨(lvtJ ds).toArray⟩) := by
  have e : (ds.map fun d => PyData.str ⟨(lvt d).toArray⟩) = sTs (ds.map lvt) := by simp [sTs]
  rw [e]
  simp only [joinD, toSs_sTs, Option.bind_some]
  have e2 : (((ds.map lvt).map fun p => (⟨p.toArray⟩ : Str)).map (·.length)).sum = (ds.map fun d => (lvt d).length).sum := by
    rw [List.map_map, List.map_map]
    congr 1
  have e3 : (" " : Str).length = 1 := by decide +kernel
  have z := (lvtJ_ge ds).1
  rw [e2, e3, if_pos (by simp only [List.length_map]; omega), join_sp, lvtJ_join]
theorem add_cs {p q : Cs} (h : p.length + q.length ≤ sizeLine) : binD .Add (.str ⟨p.toArray⟩) (.str ⟨q.toArray⟩) = some (.str ⟨(p ++ q).toArray⟩) := by
  show (if p.toArray.size + q.toArray.size ≤ sizeLine then some (PyData.str ((⟨p.toArray⟩ : Str) ++ ⟨q.toArray⟩)) else none) = _
  rw [if_pos (by simpa using h)]
  have e : ((⟨p.toArray⟩ : Str) ++ ⟨q.toArray⟩) = ⟨(p ++ q).toArray⟩ := by
    show (⟨p.toArray ++ q.toArray⟩ : Str) = _
    simp
  rw [e]
theorem op_cs : ("(" : Str) = ⟨([40] : Cs).toArray⟩ := by decide +kernel
theorem cl_cs : (")" : Str) = ⟨([41] : Cs).toArray⟩ := by decide +kernel
/-- `_law_value_text` -/
theorem t39 (h : Ok b) : ∀ (m : Nat) {d : D} {ω : Om} {Q : CQ} {E : CE}, ok d = true → dp d ≤ m → cnt d ≤ 1000000 → (lvt d).length ≤ 1000000 → Q (.sh (.str ⟨(lvt d).toArray⟩)) ω → (lv b (n + m)).cl 39 [d] ω Q E := by
  have hz := sizeLine_eq
  intro m
  induction m with
  | zero =>
    intro d ω Q E _ hd
    have : 1 ≤ dp d := by cases d <;> simp [dp]
    omega
  | succ m ih =>
    intro d ω Q E ho hd hc hl q
    rw [show n + (m + 1) = (n + m) + 1 from rfl, lv_def (fd := d39) (by rw [h.P]; rfl), callF_1 rfl]
    cases d with
    | tuple ds =>
      have hlen : ds.length ≤ sizeLine := by
        have := cnt_len ds
        simp only [cnt] at hc
        omega
      walk_at "RUN"
      refine lcGo_ind (R := fun ρ => ∃ y, ρ = [.sh (.tuple ds), y]) (g := fun d => some (.str ⟨(lvt d).toArray⟩)) ?_ ?_ ⟨_, rfl⟩ ?_
      · intro d hdm ρ k ⟨y, hy⟩ hk
        subst hy
        walk_at "RUN"
        refine ih (d := d) (okAll_mem.mp ho d hdm) ?_ ?_ ?_ ?_
        · have := dps_mem hdm
          simp only [dp] at hd
          omega
        · have := cnt_mem hdm
          simp only [cnt] at hc
          omega
        · have := (lvtJ_ge ds).2 d hdm
          simp only [lvt, List.length_cons, List.length_append] at hl
          omega
        · walk_at "RUN"
          exact hk _ ⟨_, rfl⟩
      · show 0 + ds.length ≤ sizeLine
        omega
      · rintro ρ' ⟨y, rfl⟩
        simp only [lvt, List.length_cons, List.length_append, List.length_nil] at hl
        walk_at "RUN"
        rw [List.filterMap_eq_map', List.nil_append]
        refine got_mk (join_lvt (by omega)) ?_
        walk_at "RUN"
        rw [op_cs]
        refine got_mk (add_cs (by simp; omega)) ?_
        walk_at "RUN"
        rw [cl_cs]
        refine got_mk (add_cs (by simp; omega)) ?_
        walk_at "RUN"
        first | exact q | exact dQ_id q
    | bool k => cases ho
    | list ds => cases ho
    | dict ds => cases ho
    | int i =>
      walk_at "RUN"
      refine got_mk (str_i (of_decide_eq_true ho)) ?_
      walk_at "RUN"
      first | exact q | exact dQ_id q
    | _ =>
      walk_at "RUN"
      first | exact q | exact dQ_id q
end
end K8
namespace K8
open PySem PySem.Spec L2 Ev K8M
local macro_rules | `(tactic| walk_at "RUN") => `(tactic| repeat (first | ((with_reducible apply isGot); (with_reducible apply got_mk); exact rfl) | ((with_reducible apply isEv); first | with_reducible apply Iev_var | with_reducible apply Iev_int | with_reducible apply Iev_str | with_reducible apply Iev_cmp | with_reducible apply Iev_call | with_reducible apply Iev_bi | with_reducible apply Iev_and | with_reducible apply Iev_isi | with_reducible apply Iev_gc | with_reducible apply Iev_not | with_reducible apply Iev_sub | with_reducible apply Iev_bin | with_reducible apply Iev_tup | with_reducible apply Iev_lst | with_reducible apply Iev_or | with_reducible apply Iev_lc | with_reducible apply Iev_ife | with_reducible apply Iev_emp | with_reducible apply Iev_isN | with_reducible apply Iev_non | with_reducible apply Iev_bl | with_reducible apply Iev_cmp2 | with_reducible apply Iev_callK | with_reducible apply Iev_isi2 | with_reducible apply Iev_slL | with_reducible apply Iev_slH | with_reducible apply Iev_slB | with_reducible apply Iev_join | with_reducible apply Iev_pop | with_reducible apply Iev_reprEq | with_reducible apply Iev_usub | with_reducible apply Iev_subv | with_reducible apply Iev_dk | with_reducible apply Iev_dkEmp | with_reducible apply Iev_dkPop0 | with_reducible apply Iev_dNew | with_reducible apply Iev_lNew | with_reducible apply Iev_cTup | with_reducible apply Iev_word) | ((with_reducible apply rdV_ms); exact rfl) | ((with_reducible apply rdV_mo); exact rfl) | ((with_reducible apply br_mt); exact rfl) | ((with_reducible apply br_mf); exact rfl) | ((with_reducible apply isEx); first | with_reducible apply Iex_ife | with_reducible apply Iex_asg | with_reducible apply Iex_ret | with_reducible apply Iex_fr | with_reducible apply Iex_par | with_reducible apply Iex_aug | with_reducible apply Iex_exp | with_reducible apply Iex_app | with_reducible apply Iex_ext | with_reducible apply Iex_raise | with_reducible apply Iex_whl | with_reducible apply Iex_dkSet | with_reducible apply Iex_cApp | with_reducible apply Iex_brk | with_reducible apply Iex_cont | ((with_reducible apply rv_s); exact rfl) | ((with_reducible apply rv_o); exact rfl)) | with_reducible apply Isx_nx | with_reducible apply Isx_rt | with_reducible apply Ilp_nx | with_reducible apply Ilp_rt | with_reducible apply Ifl_rt | with_reducible apply Isx_ct | with_reducible apply Isx_ex | with_reducible apply Ilp_ct | with_reducible apply Ilp_ex | with_reducible apply Ifl_ex | with_reducible apply Ifl_nx | with_reducible apply Isx_bk | with_reducible apply Ilp_bk | with_reducible apply Iexs_nil | with_reducible apply Iexs_cons | ((with_reducible apply isExs); apply Iexs_cons) | with_reducible apply Ievs_nil | with_reducible apply Ievs_cons | with_reducible apply IevAnd_1 | with_reducible apply IevAnd_2 | with_reducible apply IevI_val | with_reducible apply IevI_rng | with_reducible apply IevI_er | with_reducible apply IevOr_1 | with_reducible apply IevOr_2 | with_reducible apply IevIf_0 | with_reducible apply IevIf_1 | with_reducible apply IbindT_n | with_reducible apply IbindT_2 | ((with_reducible apply pkV_ms); exact rfl) | ((with_reducible apply pkV_mo); exact rfl) | ((with_reducible apply upV_m); exact rfl) | ((with_reducible apply look_m); exact rfl) | ((with_reducible apply ow_m); exact rfl) | ((with_reducible apply lst_m); exact rfl) | ((with_reducible apply tup_m); exact rfl) | ((with_reducible apply pkT_m); exact rfl; exact Sl.noConfusion) | with_reducible apply atw))
/-- numbers that may be drawn from: not below 0 -/
def okN (i : Int) : Prop := 0 ≤ i
def stC (g : Addr) (gs cs : List Int) (r t : Int) : List (Str × Fv) := [("great", .ow g (.list (gs.map .int))), ("cells", .sh (.list (cs.map .int))), ("rest", .sh (.int r)), ("turn", .sh (.int t))]
theorem k_gc : (("cells" : Str) == ("great" : Str)) = false := by decide +kernel
theorem k_gr : (("rest" : Str) == ("great" : Str)) = false := by decide +kernel
theorem k_gt : (("turn" : Str) == ("great" : Str)) = false := by decide +kernel
theorem k_cr : (("rest" : Str) == ("cells" : Str)) = false := by decide +kernel
theorem k_ct : (("turn" : Str) == ("cells" : Str)) = false := by decide +kernel
theorem k_rt : (("turn" : Str) == ("rest" : Str)) = false := by decide +kernel
section
variable {g : Addr} {gs cs : List Int} {r t : Int}
theorem lk_great : (stC g gs cs r t).lookup ("great" : Str) = some (Fv.ow g (.list (gs.map .int))) := by simp [stC, List.lookup_cons]
theorem lk_cells : (stC g gs cs r t).lookup ("cells" : Str) = some (Fv.sh (.list (cs.map .int))) := by simp [stC, List.lookup_cons, k_gc]
theorem lk_rest : (stC g gs cs r t).lookup ("rest" : Str) = some (Fv.sh (.int r)) := by simp [stC, List.lookup_cons, k_gr, k_cr]
theorem lk_turn : (stC g gs cs r t).lookup ("turn" : Str) = some (Fv.sh (.int t)) := by simp [stC, List.lookup_cons, k_gt, k_ct, k_rt]
theorem ne_of_k {a b : Str} (h : (a == b) = false) : ¬ b = a := fun e => by
  subst e
  simp at h
theorem ne_tr : ¬ ("turn" : Str) = "rest" := fun e => ne_of_k k_rt e.symm
theorem sa_rest {x : Int} : setA (stC g gs cs r t) ("rest" : Str) (.sh (.int x)) = stC g gs cs x t := by
  simp only [setA, stC, List.map_cons, List.map_nil, if_neg (ne_of_k k_gr), if_neg (ne_of_k k_cr), if_neg ne_tr, if_true]
theorem sa_turn {x : Int} : setA (stC g gs cs r t) "turn" (.sh (.int x)) = stC g gs cs r x := by
  simp only [setA, stC, List.map_cons, List.map_nil, if_neg (ne_of_k k_gt), if_neg (ne_of_k k_ct), if_neg (ne_of_k k_rt), if_true]
theorem sf_great {gs' : List Int} : setF (stC g gs cs r t) "great" (.ow g (.list (gs'.map .int))) = stC g gs' cs r t := by
  simp only [setF, stC, if_true]
end
/-- the drawing state -/
structure Dst (m : Nat) (c : Cell) : Prop where
  ex : ∃ (g : Addr) (gs cs : List Int) (r t : Int), c = .dct (stC g gs cs r t) ∧ (∀ i ∈ gs, okN i) ∧ (∀ i ∈ cs, okN i) ∧ cs.length ≤ 63 ∧ okN r ∧ 0 ≤ t ∧ t + (m : Nat) < 2 ^ 40
theorem lk_m {fs : List (Str × Fv)} {key : Str} {d : D} {k : D → Prop} (h : fs.lookup key = some (.sh d)) (q : k d) : ∃ d, fs.lookup key = some (.sh d) ∧ k d := ⟨d, h, q⟩
section
variable {ω : Om} {a g : Addr} {gs cs : List Int} {r t t' : Int} {x y : D} {P : Om → Prop}
theorem set_turn (e : x = RF a) (hs : ω a = some (.dct (stC g gs cs r t))) (ey : y = .int t') (q : P (updO ω a (.dct (stC g gs cs r t')))) : dctC ω x fun b fs => ((∃ d, fs.lookup ("turn" : Str) = some (Fv.sh d)) ∧ fs.length ≤ 1000) ∧ P (updO ω b (.dct (setA fs "turn" (.sh y)))) := by
  subst ey
  refine dct_m e hs ⟨⟨⟨_, lk_turn⟩, by simp [stC]⟩, ?_⟩
  rw [sa_turn]
  exact q
theorem set_rest (e : x = RF a) (hs : ω a = some (.dct (stC g gs cs r t))) (ey : y = .int t') (q : P (updO ω a (.dct (stC g gs cs t' t)))) : dctC ω x fun b fs => ((∃ d, fs.lookup ("rest" : Str) = some (Fv.sh d)) ∧ fs.length ≤ 1000) ∧ P (updO ω b (.dct (setA fs "rest" (.sh y)))) := by
  subst ey
  refine dct_m e hs ⟨⟨⟨_, lk_rest⟩, by simp [stC]⟩, ?_⟩
  rw [sa_rest]
  exact q
theorem updO_updO {c d : Cell} : updO (updO ω a c) a d = updO ω a d := by
  funext b
  unfold updO
  split <;> rfl
end
section
variable {b : Bs} {ω : Om} {Q : CQ} {E : CE} {n : Nat} {a : Addr}
theorem t34 (h : Ok b) {g : Addr} {gs cs : List Int} {r t : Int} (hs : ω a = some (.dct (stC g gs cs r t))) (hl : cs.length ≤ 63)
    (hc : ∀ i ∈ cs, okN i) (h0 : 0 ≤ t) (h1 : t + 1 < 2 ^ 40) (q : ∀ i, okN i → Q (.sh (.int i)) (updO ω a (.dct (stC g gs cs r (t + 1))))) :
    (lv b (n + 1)).cl 34 [RF a] ω Q E := by
  have hz := sizeLine_eq
  rw [lv_def (fd := d34) (by rw [h.P]; rfl), callF_1 rfl]
  walk_at "RUN"
  refine dct_m rfl hs (lk_m lk_turn ?_)
  walk_at "RUN"
  refine set_turn rfl hs rfl ?_
  walk_at "RUN"
  refine ⟨by show 4 ≤ sizeLine; omega, ?_⟩
  walk_at "RUN"
  refine for_ind (I := fun ds ρ => ∃ (f : Int) (ps : List Int) (x y z : Sl), ds = ps.map .int ∧ (∀ p ∈ ps, 2147483000 < p ∧ p < 2147483648) ∧ 0 ≤ f ∧ ρ = [.sh (RF a), .sh (.int (t + 1)), .sh (.int f), x, y, z]) ?_ _ _ ?_ ?_
  · rintro d ds ρ ⟨f, ps, x, y, z, e, hp, f0, rfl⟩
    cases ps with
    | nil => simp at e
    | cons p ps =>
      simp only [List.map_cons, List.cons.injEq] at e
      obtain ⟨rfl, rfl⟩ := e
      obtain ⟨p0, p1⟩ := hp p List.mem_cons_self
      walk_at "RUN"
      refine dct_m rfl updO_same (lk_m lk_cells ?_)
      walk_at "RUN"
      refine for_ind (I := fun ds ρ => ∃ (bl : Int) (is : List Int) (z : Sl), ds = is.map .int ∧ (∀ i ∈ is, okN i) ∧ 0 ≤ bl ∧ bl < 2 ^ 60 ∧ ρ = [.sh (RF a), .sh (.int (t + 1)), .sh (.int f), .sh (.int p), .sh (.int bl), z]) ?_ _ _ ?_ ?_
      · rintro d ds ρ ⟨bl, is, z, e, hi, b0, b1, rfl⟩
        cases is with
        | nil => simp at e
        | cons i is =>
          simp only [List.map_cons, List.cons.injEq] at e
          obtain ⟨rfl, rfl⟩ := e
          walk_at "RUN"
          refine got_mk (a := .int (bl * 48271)) (by show (if CMul bl 48271 then _ else _) = _; rw [if_pos (.inr (by omega))]) ?_
          walk_at "RUN"
          refine got_mk (a := .int ((bl * 48271 + i + (t + 1)) % p)) (by show (if 0 < p then _ else _) = _; rw [if_pos (by omega)]) ?_
          walk_at "RUN"
          refine ⟨_, is, _, rfl, fun j hj => hi j (List.mem_cons_of_mem _ hj), Int.emod_nonneg _ (by omega), ?_, rfl⟩
          have := Int.emod_lt_of_pos (bl * 48271 + i + (t + 1)) (b := p) (by omega)
          omega
      · exact ⟨_, cs, _, rfl, hc, by omega, by omega, rfl⟩
      · rintro ρ ⟨bl, is, z, e, hi, b0, b1, rfl⟩
        walk_at "RUN"
        refine got_mk (a := .int (f * 2147483659)) (by show (if CMul f 2147483659 then _ else _) = _; rw [if_pos (.inr (by omega))]) ?_
        walk_at "RUN"
        refine got_mk (a := .int (bl ^ 5)) (by show (if CPow bl 5 then _ else _) = _; rw [if_pos (by unfold CPow; omega)]; rfl) ?_
        walk_at "RUN"
        refine got_mk (a := .int (bl ^ 5 % p)) (by show (if 0 < p then _ else _) = _; rw [if_pos (by omega)]) ?_
        walk_at "RUN"
        have q0 : 0 ≤ bl ^ 5 % p := Int.emod_nonneg _ (by omega)
        have q1 : bl ^ 5 % p < p := Int.emod_lt_of_pos _ (by omega)
        exact ⟨_, ps, _, _, _, rfl, fun q hq => hp q (List.mem_cons_of_mem _ hq), by omega, rfl⟩
  · exact ⟨0, [2147483629, 2147483587, 2147483579, 2147483563], _, _, _, rfl, by decide, by omega, rfl⟩
  · rintro ρ ⟨f, ps, x, y, z, e, hp, f0, rfl⟩
    walk_at "RUN"
    exact q f f0
theorem Dst.le {m m' : Nat} {c : Cell} (d : Dst m c) (h : m' ≤ m) : Dst m' c := by
  obtain ⟨g, gs, cs, r, t, e, k1, k2, k3, k4, k5, k6⟩ := d
  exact ⟨g, gs, cs, r, t, e, k1, k2, k3, k4, k5, by omega⟩
theorem t35 (h : Ok b) {c : Cell} {m : Nat} {room : Int} (hs : ω a = some c) (hd : Dst (m + 1) c) (h1 : 0 < room) (h2 : room ≤ 1000000000) (q : ∀ (i : Int) (c' : Cell), 0 ≤ i → i < room → Dst m c' → Q (.sh (.int i)) (updO ω a c')) :
    (lv b (n + 2)).cl 35 [RF a, .int room] ω Q E := by
  obtain ⟨g, gs, cs, r, t, rfl, k1, k2, k3, k4, k5, k6⟩ := hd
  have hz := sizeLine_eq
  rw [lv_def (fd := d35) (by rw [h.P]; rfl), callF_1 rfl]
  walk_at "RUN"
  refine dct_m rfl hs (lk_m lk_rest ?_)
  walk_at "RUN"
  refine br_i (fun e => ?_) fun e => ?_
  · cases gs with
    | nil =>
      walk_at "RUN"
      refine dct_m rfl hs ⟨g, _, lk_great, ?_⟩
      walk_at "RUN"
      refine t34 h hs k3 k2 k5 (by omega) fun i hi => ?_
      walk_at "RUN"
      refine set_rest rfl updO_same rfl ?_
      rw [updO_updO]
      walk_at "RUN"
      refine dct_m rfl updO_same (lk_m lk_rest ?_)
      walk_at "RUN"
      refine got_mk (a := .int (i % room)) (by show (if 0 < room then _ else _) = _; rw [if_pos (by omega)]) ?_
      walk_at "RUN"
      refine dct_m rfl updO_same (lk_m lk_rest ?_)
      walk_at "RUN"
      refine got_mk (a := .int (i / room)) (by show (if CDiv i room then _ else _) = _; rw [if_pos (by unfold CDiv; omega)]) ?_
      walk_at "RUN"
      refine set_rest rfl updO_same rfl ?_
      rw [updO_updO]
      walk_at "RUN"
      exact q _ _ (Int.emod_nonneg _ (by omega)) (Int.emod_lt_of_pos _ h1) ⟨g, [], cs, _, t + 1, rfl, fun _ h => by simp at h, k2, k3, Int.ediv_nonneg hi (by omega), by omega, by omega⟩
    | cons i gs =>
      walk_at "RUN"
      refine dct_m rfl hs ⟨g, _, lk_great, ?_⟩
      walk_at "RUN"
      refine dct_m rfl hs ⟨g, _, _, lk_great, ?_⟩
      rw [show setF (stC g (i :: gs) cs r t) "great" (.ow g (.list (gs.map .int))) = _ from sf_great]
      walk_at "RUN"
      refine set_rest rfl updO_same rfl ?_
      rw [updO_updO]
      walk_at "RUN"
      refine dct_m rfl updO_same (lk_m lk_rest ?_)
      walk_at "RUN"
      refine got_mk (a := .int (i % room)) (by show (if 0 < room then _ else _) = _; rw [if_pos (by omega)]) ?_
      walk_at "RUN"
      refine dct_m rfl updO_same (lk_m lk_rest ?_)
      walk_at "RUN"
      refine got_mk (a := .int (i / room)) (by show (if CDiv i room then _ else _) = _; rw [if_pos (by unfold CDiv; omega)]) ?_
      walk_at "RUN"
      refine set_rest rfl updO_same rfl ?_
      rw [updO_updO]
      walk_at "RUN"
      exact q _ _ (Int.emod_nonneg _ (by omega)) (Int.emod_lt_of_pos _ h1) ⟨g, gs, cs, _, t, rfl, fun j h => k1 j (List.mem_cons_of_mem _ h), k2, k3, Int.ediv_nonneg (k1 i List.mem_cons_self) (by omega), by omega, by omega⟩
  · walk_at "RUN"
    refine dct_m rfl hs (lk_m lk_rest ?_)
    walk_at "RUN"
    refine got_mk (a := .int (r % room)) (by show (if 0 < room then _ else _) = _; rw [if_pos (by omega)]) ?_
    walk_at "RUN"
    refine dct_m rfl hs (lk_m lk_rest ?_)
    walk_at "RUN"
    refine got_mk (a := .int (r / room)) (by show (if CDiv r room then _ else _) = _; rw [if_pos (by unfold CDiv; omega)]) ?_
    walk_at "RUN"
    refine set_rest rfl hs rfl ?_
    walk_at "RUN"
    exact q _ _ (Int.emod_nonneg _ (by omega)) (Int.emod_lt_of_pos _ h1) ⟨g, gs, cs, _, t, rfl, k1, k2, k3, Int.ediv_nonneg k4 (by omega), by omega, by omega⟩
def ab (i : Int) : Int := if i < 0 then -i else i
def grt (i : Int) : Option Int := if 1000000000000000000 ≤ ab i then some (ab i - 1000000000000000000) else none
def grD : D → Option D
  | .int i => (grt i).map .int
  | _ => none
def abD : D → Option D
  | .int i => some (.int (ab i))
  | _ => none
theorem grD_map : ∀ is : List Int, (is.map PyData.int).filterMap grD = (is.filterMap grt).map .int
  | [] => rfl
  | i :: is => by
    simp only [List.map_cons, List.filterMap_cons, grD_map is, grD]
    cases grt i <;> rfl
theorem abD_map : ∀ is : List Int, (is.map PyData.int).filterMap abD = (is.map ab).map .int
  | [] => rfl
  | i :: is => by
    simp only [List.map_cons, List.filterMap_cons, abD_map is, abD]
theorem ab0 (i : Int) : okN (ab i) := by
  unfold okN ab
  split <;> omega
theorem t33 (h : Ok b) {is : List Int} {m : Nat} (hl : is.length ≤ 63) (hm : m < 2 ^ 39) (q : ∀ (a : Addr) (c : Cell), ω a = none → Dst m c → Q (.sh (RF a)) (updO ω a c)) : (lv b (n + 1)).cl 33 [FZ (is.map .int)] ω Q E := by
  have hz := sizeLine_eq
  rw [lv_def (fd := d33) (by rw [h.P]; rfl), callF_1 rfl]
  walk_at "RUN"
  refine lcGo_ind (R := fun ρ => ∃ y, ρ = [.sh (FZ (is.map .int)), .no, y]) (g := grD) ?_ ?_ ⟨_, rfl⟩ ?_
  · intro d hd ρ k ⟨y, hy⟩ hk
    obtain ⟨i, hi, rfl⟩ := List.mem_map.mp hd
    subst hy
    walk_at "RUN"
    have e10 : (10 : Int) ^ Int.toNat 18 = 1000000000000000000 := by decide
    rw [e10]
    by_cases hi : 1000000000000000000 ≤ ab i
    · have hi' : (1000000000000000000 ≤ if i < 0 then -i else i) := hi
      rw [if_pos (by rw [decide_eq_true hi'])]
      have hg : grD (.int i) = some (.int (ab i - 1000000000000000000)) := by simp [grD, grt, hi]
      walk_at "RUN"
      rw [e10]
      have := hk [.sh (FZ (is.map .int)), .no, .sh (.int i)] ⟨_, rfl⟩
      rw [hg] at this
      exact this
    · have hi' : ¬ (1000000000000000000 ≤ if i < 0 then -i else i) := hi
      rw [if_neg (by rw [decide_eq_false hi']; decide)]
      have hg : grD (.int i) = none := by simp [grD, grt, hi]
      have := hk [.sh (FZ (is.map .int)), .no, .sh (.int i)] ⟨_, rfl⟩
      rw [hg] at this
      exact this
  · simp
    omega
  · rintro ρ ⟨y, rfl⟩
    rw [grD_map]
    walk_at "RUN"
    refine own_m rfl ?_
    walk_at "RUN"
    refine lcGo_ind (R := fun ρ => ∃ y, ρ = [.sh (FZ (is.map .int)), .ow (.list ((is.filterMap grt).map .int)), y]) (g := abD) ?_ ?_ ⟨_, rfl⟩ ?_
    · intro d hd ρ k ⟨y, hy⟩ hk
      obtain ⟨i, hi, rfl⟩ := List.mem_map.mp hd
      subst hy
      walk_at "RUN"
      rw [if_pos rfl]
      walk_at "RUN"
      exact hk [.sh (FZ (is.map .int)), .ow (.list ((is.filterMap grt).map .int)), .sh (.int i)] ⟨_, rfl⟩
    · simp
      omega
    · rintro ρ ⟨y, rfl⟩
      rw [abD_map]
      walk_at "RUN"
      refine ownd_m rfl fun a g na => ?_
      walk_at "RUN"
      refine q a _ na ⟨g, is.filterMap grt, is.map ab, 0, 0, rfl, fun j hj => ?_, fun j hj => ?_, by simpa using hl, by unfold okN; omega, by omega, by omega⟩
      · obtain ⟨i, _, hi⟩ := List.mem_filterMap.mp hj
        unfold grt at hi
        split at hi
        · cases hi
          unfold okN
          omega
        · cases hi
      · obtain ⟨i, _, rfl⟩ := List.mem_map.mp hj
        exact ab0 i
end
end K8
namespace K8
open PySem PySem.Spec L2 Ev K8M
local macro_rules | `(tactic| walk_at "RUN") => `(tactic| repeat (first | ((with_reducible apply isGot); (with_reducible apply got_mk); exact rfl) | ((with_reducible apply isEv); first | with_reducible apply Iev_var | with_reducible apply Iev_int | with_reducible apply Iev_str | with_reducible apply Iev_cmp | with_reducible apply Iev_call | with_reducible apply Iev_bi | with_reducible apply Iev_and | with_reducible apply Iev_isi | with_reducible apply Iev_gc | with_reducible apply Iev_not | with_reducible apply Iev_sub | with_reducible apply Iev_bin | with_reducible apply Iev_tup | with_reducible apply Iev_lst | with_reducible apply Iev_or | with_reducible apply Iev_lc | with_reducible apply Iev_ife | with_reducible apply Iev_emp | with_reducible apply Iev_isN | with_reducible apply Iev_non | with_reducible apply Iev_bl | with_reducible apply Iev_cmp2 | with_reducible apply Iev_callK | with_reducible apply Iev_isi2 | with_reducible apply Iev_slL | with_reducible apply Iev_slH | with_reducible apply Iev_slB | with_reducible apply Iev_join | with_reducible apply Iev_pop | with_reducible apply Iev_reprEq | with_reducible apply Iev_usub | with_reducible apply Iev_subv | with_reducible apply Iev_dk | with_reducible apply Iev_dkEmp | with_reducible apply Iev_dkPop0 | with_reducible apply Iev_dNew | with_reducible apply Iev_lNew | with_reducible apply Iev_cTup | with_reducible apply Iev_word) | ((with_reducible apply rdV_ms); exact rfl) | ((with_reducible apply rdV_mo); exact rfl) | ((with_reducible apply br_mt); exact rfl) | ((with_reducible apply br_mf); exact rfl) | ((with_reducible apply isEx); first | with_reducible apply Iex_ife | with_reducible apply Iex_asg | with_reducible apply Iex_ret | with_reducible apply Iex_fr | with_reducible apply Iex_par | with_reducible apply Iex_aug | with_reducible apply Iex_exp | with_reducible apply Iex_app | with_reducible apply Iex_ext | with_reducible apply Iex_raise | with_reducible apply Iex_whl | with_reducible apply Iex_dkSet | with_reducible apply Iex_cApp | with_reducible apply Iex_brk | with_reducible apply Iex_cont | ((with_reducible apply rv_s); exact rfl) | ((with_reducible apply rv_o); exact rfl)) | with_reducible apply Isx_nx | with_reducible apply Isx_rt | with_reducible apply Ilp_nx | with_reducible apply Ilp_rt | with_reducible apply Ifl_rt | with_reducible apply Isx_ct | with_reducible apply Isx_ex | with_reducible apply Ilp_ct | with_reducible apply Ilp_ex | with_reducible apply Ifl_ex | with_reducible apply Ifl_nx | with_reducible apply Isx_bk | with_reducible apply Ilp_bk | with_reducible apply Iexs_nil | with_reducible apply Iexs_cons | ((with_reducible apply isExs); apply Iexs_cons) | with_reducible apply Ievs_nil | with_reducible apply Ievs_cons | with_reducible apply IevAnd_1 | with_reducible apply IevAnd_2 | with_reducible apply IevI_val | with_reducible apply IevI_rng | with_reducible apply IevI_er | with_reducible apply IevOr_1 | with_reducible apply IevOr_2 | with_reducible apply IevIf_0 | with_reducible apply IevIf_1 | with_reducible apply IbindT_n | with_reducible apply IbindT_2 | ((with_reducible apply pkV_ms); exact rfl) | ((with_reducible apply pkV_mo); exact rfl) | ((with_reducible apply upV_m); exact rfl) | ((with_reducible apply look_m); exact rfl) | ((with_reducible apply ow_m); exact rfl) | ((with_reducible apply lst_m); exact rfl) | ((with_reducible apply tup_m); exact rfl) | ((with_reducible apply pkT_m); exact rfl; exact Sl.noConfusion) | with_reducible apply atw))
/-- the drawing state lies at a, good for m draws -/
def S (m : Nat) (a : Addr) (ω : Om) : Prop := ∃ c, ω a = some c ∧ Dst m c
theorem S.le {m m' : Nat} {a : Addr} {ω : Om} (s : S m a ω) (h : m' ≤ m) : S m' a ω := let ⟨c, e, d⟩ := s; ⟨c, e, d.le h⟩
section
variable {b : Bs} {ω : Om} {Q : CQ} {E : CE} {n m : Nat} {a : Addr}
theorem pick (h : Ok b) {room : Int} (hs : S (m + 1) a ω) (h1 : 0 < room) (h2 : room ≤ 1000000000) (q : ∀ (r : Int) (ω' : Om), 0 ≤ r → r < room → S m a ω' → Q (.sh (.int r)) ω') : (lv b (n + 2)).cl 35 [RF a, .int room] ω Q E := by
  obtain ⟨c, e, d⟩ := hs
  exact t35 h e d h1 h2 fun i c' r0 r1 d' => q i _ r0 r1 ⟨c', updO_same, d'⟩
theorem t36 (h : Ok b) (hs : S (m + 1) a ω) {ds : List D} (h1 : ds ≠ []) (h2 : ds.length ≤ 1000000) (q : ∀ d ∈ ds, ∀ ω', S m a ω' → Q (.sh d) ω') : (lv b (n + 3)).cl 36 [RF a, .list ds] ω Q E := by
  have hz := sizeLine_eq
  rw [lv_def (fd := d36) (by rw [h.P]; rfl), callF_1 rfl]
  walk_at "RUN"
  have hp : 1 ≤ ds.length := by
    cases ds with
    | nil => exact absurd rfl h1
    | cons _ _ => simp
  refine pick (room := Int.ofNat ds.length) h hs (by simp only [Int.ofNat_eq_natCast]; omega) (by simp only [Int.ofNat_eq_natCast]; omega) fun r ω' r0 r1 s' => ?_
  simp only [Int.ofNat_eq_natCast] at r1
  obtain ⟨i, rfl⟩ : ∃ i : Nat, r = (i : Nat) := ⟨r.toNat, by omega⟩
  have hi : i < ds.length := by omega
  refine got_mk (at_nat (i := i) (List.getElem?_eq_getElem hi)) ?_
  walk_at "RUN"
  exact q _ (List.getElem_mem hi) ω' s'
/-- what is drawn -/
def Dn (k : Nat) (d : D) : Prop := ok d = true ∧ dp d ≤ k + 1 ∧ cnt d + (lvt d).length + sz d ≤ 30 * 5 ^ k
theorem dn_le {k : Nat} {d : D} (h : Dn 0 d) : Dn k d := by
  obtain ⟨h1, h2, h3⟩ := h
  refine ⟨h1, by omega, ?_⟩
  have : 1 ≤ 5 ^ k := Nat.pow_pos (by decide)
  simp only [Nat.pow_zero] at h3
  omega
theorem dn_tuple {k : Nat} {ds : List D} (hl : ds.length ≤ 3) (h : ∀ d ∈ ds, Dn k d) : Dn (k + 1) (.tuple ds) := by
  have h5 : 1 ≤ 5 ^ k := Nat.pow_pos (by decide)
  have e : 30 * 5 ^ (k + 1) = 5 * (30 * 5 ^ k) := by rw [Nat.pow_succ]; omega
  refine ⟨okAll_mem.mpr fun d hd => (h d hd).1, ?_, ?_⟩
  · simp only [dp]
    have : ∀ ds : List D, (∀ d ∈ ds, Dn k d) → dps ds ≤ k + 1 := by
      intro ds
      induction ds with
      | nil => intro _; simp [dps]
      | cons d r ih =>
        intro h
        have h1 := ih fun e he => h e (List.mem_cons_of_mem _ he)
        have h2 := (h d List.mem_cons_self).2.1
        simp only [dps]
        omega
    have := this ds h
    omega
  · have key : ∀ ds : List D, (∀ d ∈ ds, Dn k d) → cntAll ds + (lvtK ds).length + szAll ds ≤ ds.length * (30 * 5 ^ k + 1) := by
      intro ds
      induction ds with
      | nil => intro _; simp [cntAll, lvtK, szAll]
      | cons d r ih =>
        intro h
        have h1 := ih fun e he => h e (List.mem_cons_of_mem _ he)
        have h2 := (h d List.mem_cons_self).2.2
        simp only [cntAll, lvtK, szAll, List.length_cons, List.length_append, Nat.add_mul, Nat.one_mul] at h1 ⊢
        generalize 5 ^ k = W at h1 h2 ⊢
        generalize r.length * (30 * W) = V at h1 ⊢
        omega
    have z := key ds h
    have z2 : ds.length * (30 * 5 ^ k + 1) ≤ 3 * (30 * 5 ^ k + 1) := Nat.mul_le_mul_right _ hl
    have z3 : (lvtJ ds).length ≤ (lvtK ds).length := by
      cases ds with
      | nil => simp [lvtJ]
      | cons d r => simp only [lvtJ, lvtK, List.length_cons, List.length_append]; omega
    simp only [cnt, lvt, sz, List.length_cons, List.length_append, List.length_nil]
    omega
/-- a walk that makes a list and changes the state -/
theorem lcGo_sr {bd : D → En → Om → (Option D → En → Om → Prop) → Prop} {I : List D → List D → En → Om → Prop} {Q : List D → En → Om → Prop} (hb : ∀ d ds acc ρ ω k, I (d :: ds) acc ρ ω → (∀ x ρ' ω', I ds (acc ++ [x]) ρ' ω' → k (some x) ρ' ω') → bd d ρ ω k) :
    ∀ {ds acc : List D} {ρ : En} {ω : Om}, acc.length + ds.length ≤ sizeLine → I ds acc ρ ω → (∀ acc' ρ' ω', acc'.length = acc.length + ds.length → I [] acc' ρ' ω' → Q acc' ρ' ω') → lcGo bd ds acc ρ ω Q
  | [], acc, ρ, ω, l, r, q => by
    have z := q acc ρ ω (by simp) r
    simpa [lcGo] using z
  | d :: ds, acc, ρ, ω, l, r, q => by
    simp only [lcGo]
    refine hb d ds acc ρ ω _ r fun x ρ' ω' r' => ?_
    simp only [List.length_cons] at l
    refine ⟨by omega, lcGo_sr hb (by simp; omega) r' fun acc' ρ'' ω'' hl r'' => q acc' ρ'' ω'' (by simp at hl ⊢; omega) r''⟩
theorem t42b (h : Ok b) {k : Nat} {r : Int} {x : Sl} {N : Nat} (hN : 1 ≤ N) (hs : S (m + N) a ω) (r0 : 0 ≤ r) {L : Lv} (hL : L = lv b (n + 3))
    (q : ∀ (d : D) (ω' : Om) (x : Sl), Dn k d → S m a ω' → (x = .sh d) → Q x ω')
    (hr : r < 3 ∨ ∃ k', k = k' + 1 ∧ 1 + 3 * 4 ^ (k' + 1) ≤ N ∧ ∀ (m : Nat) (ω : Om) (Q : CQ) (E : CE), S (m + 4 ^ (k' + 1)) a ω → (∀ (d : D) (ω' : Om) (x : Sl), Dn k' d → S m a ω' → (x = .sh d) → Q x ω') → L.cl 42 [RF a, .int (k' : Nat)] ω Q E) :
    exs L (d42.body.drop 1) [.sh (RF a), .sh (.int (k : Nat)), .sh (.int r), x] ω (fl0 Q E) := by
  subst hL
  have hz := sizeLine_eq
  show exs _ (List.drop 1 [_, _, _, _, _]) _ _ _
  simp only [List.drop]
  walk_at "RUN"
  have e0 : ∀ j : Int, PyData.eqv (.int r) (.int j) = decide (r = j) := fun j => by
    show (r == j) = _
    rw [Bool.eq_iff_iff]
    simp
  refine br_i (fun e => ?_) fun e => ?_
  · walk_at "RUN"
    refine ⟨by show 5 ≤ sizeLine; omega, ?_⟩
    walk_at "RUN"
    refine t36 (m := m) h (hs.le (by omega)) (by simp) (by simp) fun d hd ω' s' => ?_
    walk_at "RUN"
    refine q d ω' _ ?_ s' rfl
    simp only [List.mem_cons, List.not_mem_nil, or_false] at hd
    rcases hd with rfl | rfl | rfl | rfl | rfl <;> exact dn_le ⟨by decide +kernel, by decide +kernel, by decide +kernel⟩
  · walk_at "RUN"
    refine br_i (fun e => ?_) fun e => ?_
    · walk_at "RUN"
      refine ⟨by show 7 ≤ sizeLine; omega, ?_⟩
      walk_at "RUN"
      refine t36 (m := m) h (hs.le (by omega)) (by simp) (by simp) fun d hd ω' s' => ?_
      walk_at "RUN"
      refine q d ω' _ ?_ s' rfl
      simp only [List.mem_cons, List.not_mem_nil, or_false] at hd
      rcases hd with rfl | rfl | rfl | rfl | rfl | rfl | rfl <;> exact dn_le ⟨by decide +kernel, by decide +kernel, by decide +kernel⟩
    · walk_at "RUN"
      refine br_i (fun e => ?_) fun e => ?_
      · walk_at "RUN"
        exact q .none ω _ (dn_le ⟨by decide +kernel, by decide +kernel, by decide +kernel⟩) (hs.le (by omega)) rfl
      · walk_at "RUN"
        rcases hr with hr | ⟨k', rfl, hN3, ih⟩
        · exfalso
          simp only [Sl_sh, e0, decide_eq_false_iff_not] at *
          omega
        generalize hC : 4 ^ (k' + 1) = C at hN3 ih
        refine pick (m := m + 3 * C) h (hs.le (by omega)) (by decide) (by decide) fun r2 ω' r20 r21 s' => ?_
        walk_at "RUN"
        refine ⟨by omega, ?_⟩
        refine lcGo_sr (I := fun rem acc ρ ω => S (m + rem.length * C) a ω ∧ (∀ d ∈ acc, Dn k' d) ∧ ∃ y, ρ = [.sh (RF a), .sh (.int ((k' + 1 : Nat) : Int)), .sh (.int r), y]) ?_ ?_ ⟨s'.le ?_, by simp, _, rfl⟩ ?_
        · rintro d rem acc ρ ω1 kk ⟨t1, t2, y, rfl⟩ hk
          walk_at "RUN"
          rw [if_pos rfl]
          walk_at "RUN"
          have e3 : (((k' + 1 : Nat) : Int) - 1) = ((k' : Nat) : Int) := by omega
          simp only [Sl_sh, e3]
          have e4 : m + (d :: rem).length * C = (m + rem.length * C) + C := by
            rw [List.length_cons, Nat.add_mul]
            omega
          rw [e4] at t1
          refine ih _ ω1 _ _ t1 fun d2 ω2 x2 g1 g2 g3 => ?_
          subst g3
          refine hk d2 _ ω2 ⟨g2, fun d3 hd3 => ?_, _, rfl⟩
          rcases List.mem_append.mp hd3 with hd3 | hd3
          · exact t2 d3 hd3
          · rw [List.mem_singleton.mp hd3]
            exact g1
        · simp only [List.length_nil, List.length_map, List.length_range]
          omega
        · simp only [List.length_map, List.length_range]
          have : r2.toNat ≤ 3 := by omega
          have := Nat.mul_le_mul_right C this
          omega
        · rintro acc ρ ω1 hl ⟨t1, t2, y, rfl⟩
          walk_at "RUN"
          refine q (.tuple acc) ω1 _ (dn_tuple ?_ t2) (t1.le (by omega)) rfl
          simp only [List.length_nil, List.length_map, List.length_range] at hl
          omega
theorem t42 (h : Ok b) : ∀ (k : Nat) {m : Nat} {ω : Om} {Q : CQ} {E : CE}, S (m + 4 ^ (k + 1)) a ω → (∀ (d : D) (ω' : Om) (x : Sl), Dn k d → S m a ω' → (x = .sh d) → Q x ω') → (lv b (n + k + 4)).cl 42 [RF a, .int (k : Nat)] ω Q E := by
  intro k
  induction k with
  | zero =>
    intro m ω Q E hs q
    rw [lv_def (fd := d42) (by rw [h.P]; rfl), callF_1 rfl]
    walk_at "RUN"
    refine pick (m := m + 1) h (hs.le (by omega)) (by decide) (by decide) fun r ω' r0 r1 s' => ?_
    exact t42b h (N := 1) (Nat.le_refl _) s' r0 rfl q (.inl r1)
  | succ k ih =>
    intro m ω Q E hs q
    rw [lv_def (fd := d42) (by rw [h.P]; rfl), callF_1 rfl]
    walk_at "RUN"
    have e : decide ((0 : Int) < ((k + 1 : Nat) : Int)) = true := decide_eq_true (by omega)
    rw [e]
    walk_at "RUN"
    have e4 : 4 ^ (k + 1 + 1) = 4 * 4 ^ (k + 1) := by rw [Nat.pow_succ]; omega
    have e5 : 1 ≤ 4 ^ (k + 1) := Nat.pow_pos (by decide)
    refine pick (m := m + (1 + 3 * 4 ^ (k + 1))) h (hs.le (by omega)) (by decide) (by decide) fun r ω' r0 r1 s' => ?_
    exact t42b h (N := 1 + 3 * 4 ^ (k + 1)) (by omega) s' r0 rfl q (.inr ⟨k, rfl, Nat.le_refl _, fun m ω Q E hs q => ih hs q⟩)
end
end K8
namespace K8
open PySem PySem.Spec L2 Ev K8M
theorem dps_app : ∀ a c : List D, dps (a ++ c) = max (dps a) (dps c)
  | [], c => by simp [dps]
  | d :: a, c => by simp only [List.cons_append, dps, dps_app a c]; omega
theorem okAll_subs : ∀ {ds : List D}, okAll ds = true → okAll (ds.flatMap subs) = true := by
  intro ds h
  refine okAll_mem.mpr fun d hd => ?_
  obtain ⟨e, he, hd⟩ := List.mem_flatMap.mp hd
  have := okAll_mem.mp h e he
  cases e <;> simp only [subs, List.not_mem_nil] at hd
  exact okAll_mem.mp this d hd
theorem dps_subs : ∀ ds : List D, dps (ds.flatMap subs) ≤ dps ds - 1
  | [] => by simp [dps]
  | d :: ds => by
    have h := dps_subs ds
    simp only [List.flatMap_cons, dps_app, dps]
    have : dps (subs d) ≤ dp d - 1 := by cases d <;> simp [subs, dp, dps]
    omega
theorem dps_zero : ∀ {ds : List D}, dps ds = 0 → ds = []
  | [], _ => rfl
  | d :: ds, h => by
    have : 1 ≤ dp d := by cases d <;> simp [dp]
    simp only [dps] at h
    omega
theorem lay_ok : ∀ (r : Nat) (ds : List D), okAll ds = true → dps ds < r → lay r ds = true
  | 0, _, _, h => by omega
  | r + 1, ds, ho, h => by
    simp only [lay, Bool.and_eq_true, Bool.or_eq_true]
    refine ⟨List.all_eq_true.mpr fun d hd => ?_, ?_⟩
    · have h1 := okAll_mem.mp ho d hd
      have h2 := dps_mem hd
      cases d with
      | tuple es =>
        simp only [dp] at h2
        exact decide_eq_true (by omega)
      | none => rfl
      | str s => exact h1
      | int i => exact h1
      | _ => cases h1
    · have h3 := dps_subs ds
      cases e : (ds.flatMap subs) with
      | nil => exact .inl rfl
      | cons a l =>
        right
        rw [← e]
        refine lay_ok r _ (okAll_subs ho) ?_
        have : dps (ds.flatMap subs) ≠ 0 := fun z => by
          have := dps_zero z
          rw [e] at this
          cases this
        omega
theorem dn_isv {k : Nat} {d : D} (hk : k ≤ 50) (h : Dn k d) : isv d = true := by
  refine lay_ok 60 [d] ?_ ?_
  · show (ok d && okAll []) = true
    rw [h.1]
    rfl
  · have := h.2.1
    simp only [dps]
    omega
mutual
theorem ok_lay : ∀ d : D, ok d = true → d.canLay0 = true
  | .tuple ds, h => by
    show PyData.canLayAll0 ds = true
    exact okAll_lay ds h
  | .none, _ => rfl
  | .int _, _ => rfl
  | .str s, h => by
    show s.cps.all (· < 0x110000) = true
    rw [← Array.all_toList]
    refine List.all_eq_true.mpr fun c hc => decide_eq_true ?_
    have := (word_plain h).2 c hc
    omega
  | .bool _, h => by cases h
  | .list _, h => by cases h
  | .dict _, h => by cases h
theorem okAll_lay : ∀ ds : List D, okAll ds = true → PyData.canLayAll0 ds = true
  | [], _ => rfl
  | d :: r, h => by
    have h' : (ok d && okAll r) = true := h
    rw [Bool.and_eq_true] at h'
    show (PyData.canLay0 d && PyData.canLayAll0 r) = true
    rw [ok_lay d h'.1, okAll_lay r h'.2]
    rfl
end
mutual
theorem dp_depth : ∀ d : D, ok d = true → d.depth ≤ dp d
  | .tuple ds, h => by
    show PyData.depthAll ds + 1 ≤ dps ds + 1
    have := dps_depth ds h
    omega
  | .none, _ => Nat.zero_le _
  | .int _, _ => Nat.zero_le _
  | .str _, _ => Nat.zero_le _
  | .bool _, _ => Nat.zero_le _
  | .list _, h => by cases h
  | .dict _, h => by cases h
theorem dps_depth : ∀ ds : List D, okAll ds = true → PyData.depthAll ds ≤ dps ds
  | [], _ => Nat.le_refl _
  | d :: r, h => by
    have h' : (ok d && okAll r) = true := h
    rw [Bool.and_eq_true] at h'
    have h1 := dp_depth d h'.1
    have h2 := dps_depth r h'.2
    show max d.depth (PyData.depthAll r) ≤ max (dp d) (dps r)
    omega
end
theorem ok_shp {d : D} (h : ok d = true) (hd : dp d ≤ 64) : SeqAt.shaped d = true := by
  unfold SeqAt.shaped
  rw [ok_lay d h]
  have := dp_depth d h
  exact decide_eq_true (by omega)
mutual
theorem ok_fine : ∀ d : D, ok d = true → (lvt d).length ≤ sizeLine → fine d = true
  | .tuple ds, h, hl => by
    show fineAll ds = true
    refine okAll_fine ds h fun d hd => ?_
    have := (lvtJ_ge ds).2 d hd
    simp only [lvt, List.length_cons, List.length_append] at hl
    omega
  | .none, _, _ => rfl
  | .int _, _, _ => rfl
  | .str s, h, hl => by
    show (SeqAt.shaped (.str s) && decide (s.length ≤ sizeLine)) = true
    have e : SeqAt.shaped (.str s) = true := ok_shp (d := .str s) h (by simp [dp])
    rw [e]
    have e2 : s.cps.toList.length = s.length := by simp [Str.length]
    simp only [lvt] at hl
    exact decide_eq_true (by omega)
  | .bool _, h, _ => by cases h
  | .list _, h, _ => by cases h
  | .dict _, h, _ => by cases h
theorem okAll_fine : ∀ ds : List D, okAll ds = true → (∀ d ∈ ds, (lvt d).length ≤ sizeLine) → fineAll ds = true
  | [], _, _ => rfl
  | d :: r, h, hl => by
    have h' : (ok d && okAll r) = true := h
    rw [Bool.and_eq_true] at h'
    show (fine d && fineAll r) = true
    rw [ok_fine d h'.1 (hl d List.mem_cons_self), okAll_fine r h'.2 fun e he => hl e (List.mem_cons_of_mem _ he)]
    rfl
end
mutual
theorem ok_weight : ∀ d : D, ok d = true → d.weight + 1 ≤ 42 * cnt d + (lvt d).length
  | .tuple ds, h => by
    have := okAll_weight ds h
    have z3 : (lvtK ds).length ≤ (lvtJ ds).length + 1 := by
      cases ds with
      | nil => simp [lvtK]
      | cons d r => simp only [lvtJ, lvtK, List.length_cons, List.length_append]; omega
    show PyData.weightAll ds + 1 ≤ _
    simp only [cnt, lvt, List.length_cons, List.length_append, List.length_nil]
    omega
  | .none, _ => by simp [PyData.weight, cnt]; omega
  | .int i, h => by
    have h' : i.natAbs < 10 ^ 12 := of_decide_eq_true h
    have hlog : i.natAbs.log2 < 40 := by
      by_cases e : i.natAbs = 0
      · rw [e]; decide
      · exact (Nat.log2_lt e).mpr (Nat.lt_trans h' (by decide))
    simp only [PyData.weight, cnt]
    split <;> omega
  | .str s, _ => by
    simp only [PyData.weight, cnt, lvt, Array.length_toList]
    omega
  | .bool _, h => by cases h
  | .list _, h => by cases h
  | .dict _, h => by cases h
theorem okAll_weight : ∀ ds : List D, okAll ds = true → PyData.weightAll ds ≤ 42 * cntAll ds + (lvtK ds).length
  | [], _ => by simp [PyData.weightAll]
  | d :: r, h => by
    have h' : (ok d && okAll r) = true := h
    rw [Bool.and_eq_true] at h'
    have h1 := ok_weight d h'.1
    have h2 := okAll_weight r h'.2
    show d.weight + 1 + PyData.weightAll r ≤ _
    simp only [cntAll, lvtK, List.length_cons, List.length_append]
    omega
end
mutual
theorem ok_short : ∀ d : D, ok d = true → d.intsShort 13 = true ∧ d.showable = true
  | .tuple ds, h => okAll_short ds h
  | .none, _ => ⟨rfl, rfl⟩
  | .int i, h => ⟨decide_eq_true (PyData.shown_int_le (of_decide_eq_true h)), decide_eq_true (log_12 (of_decide_eq_true h))⟩
  | .str s, _ => ⟨rfl, rfl⟩
  | .bool _, h => by cases h
  | .list _, h => by cases h
  | .dict _, h => by cases h
theorem okAll_short : ∀ ds : List D, okAll ds = true → PyData.intsShortAll 13 ds = true ∧ PyData.showableAll ds = true
  | [], _ => ⟨rfl, rfl⟩
  | d :: r, h => by
    have h' : (ok d && okAll r) = true := h
    rw [Bool.and_eq_true] at h'
    obtain ⟨a1, a2⟩ := ok_short d h'.1
    obtain ⟨b1, b2⟩ := okAll_short r h'.2
    refine ⟨?_, ?_⟩
    · show (PyData.intsShort 13 d && PyData.intsShortAll 13 r) = true
      rw [a1, b1]
      rfl
    · show (PyData.showable d && PyData.showableAll r) = true
      rw [a2, b2]
      rfl
end
theorem ok_shows {d : D} (h : ok d = true) (h1 : dp d ≤ 64) (h2 : cnt d + (lvt d).length ≤ 20000) : shows d = true := by
  have w := ok_weight d h
  have s := ok_shp h h1
  have dd := SeqAt.depth_of_shaped s
  have hl : d.layable0 = true := by
    unfold PyData.layable0
    rw [ok_lay d h, decide_eq_true dd, decide_eq_true (show d.weight ≤ 2 ^ 20 by omega)]
    rfl
  unfold shows
  rw [(ok_short d h).2, PyData.hasDict_of_canLay d (ok_lay d h), decide_eq_true dd, decide_eq_true (PyData.shown_fits_of_layable0 (B := 13) (by decide) (by decide) hl (ok_short d h).1)]
  rfl
theorem str_shows {p : Cs} (h : SeqAt.shaped (.str ⟨p.toArray⟩) = true) (hl : p.length ≤ 1000000) : shows (.str ⟨p.toArray⟩) = true := by
  have c := SeqAt.canLay_of_shaped h
  have l : (PyData.str ⟨p.toArray⟩).layable0 = true := by
    unfold PyData.layable0
    rw [c, decide_eq_true (show (PyData.str ⟨p.toArray⟩).depth ≤ 64 from Nat.zero_le _), decide_eq_true (show (PyData.str ⟨p.toArray⟩).weight ≤ 2 ^ 20 by
      show p.toArray.size ≤ _
      simp
      omega)]
    rfl
  unfold shows
  rw [PyData.hasDict_of_canLay _ c, decide_eq_true (show (PyData.str ⟨p.toArray⟩).depth ≤ 64 from Nat.zero_le _), decide_eq_true (PyData.shown_fits_of_layable0 (B := 13) (by decide) (by decide) l rfl)]
  rfl
theorem rdv_lvt {d : D} (h : ok d = true) (hv : isv d = true) : rdv ⟨(lvt d).toArray⟩ = some d := by
  unfold rdv
  simp only [read_back h, hv, and_self, if_true]
theorem rdv_some {s : Str} {d : D} (h : rdv s = some d) : isv d = true ∧ lvt d = s.cps.toList := by
  unfold rdv at h
  split at h
  · split at h
    · rename_i e
      cases h
      exact e
    · cases h
  · cases h
end K8
namespace K8
open PySem PySem.Spec L2 Ev K8M
theorem dps_flat : ∀ ds : List D, dps ds ≤ dps (ds.flatMap subs) + 1
  | [] => by simp [dps]
  | d :: ds => by
    have h := dps_flat ds
    simp only [List.flatMap_cons, dps_app, dps]
    have : dp d ≤ dps (subs d) + 1 := by cases d <;> simp [subs, dp, dps]
    omega
theorem lay_back : ∀ (r : Nat) (ds : List D), lay r ds = true → okAll ds = true ∧ dps ds ≤ r
  | 0, _, h => by cases h
  | r + 1, ds, h => by
    simp only [lay, Bool.and_eq_true, Bool.or_eq_true] at h
    obtain ⟨h1, h2⟩ := h
    have key : okAll (ds.flatMap subs) = true ∧ dps (ds.flatMap subs) ≤ r := by
      rcases h2 with h2 | h2
      · have : ds.flatMap subs = [] := by simpa using h2
        rw [this]
        exact ⟨rfl, by simp [dps]⟩
      · exact lay_back r _ h2
    refine ⟨okAll_mem.mpr fun d hd => ?_, ?_⟩
    · have e := List.all_eq_true.mp h1 d hd
      cases d with
      | tuple es => exact okAll_mem.mpr fun x hx => okAll_mem.mp key.1 x (List.mem_flatMap.mpr ⟨_, hd, hx⟩)
      | none => rfl
      | str s => exact e
      | int i => exact e
      | _ => cases e
    · have := dps_flat ds
      omega
theorem isv_back {d : D} (h : isv d = true) : ok d = true ∧ dp d ≤ 60 := by
  obtain ⟨h1, h2⟩ := lay_back 60 [d] h
  refine ⟨okAll_mem.mp h1 d List.mem_cons_self, ?_⟩
  simp only [dps] at h2
  omega
mutual
theorem cnt_lvt : ∀ d : D, ok d = true → cnt d ≤ (lvt d).length
  | .tuple ds, h => by
    have := cntK ds h
    have z3 : (lvtK ds).length ≤ (lvtJ ds).length + 1 := by
      cases ds with
      | nil => simp [lvtK]
      | cons d r => simp only [lvtJ, lvtK, List.length_cons, List.length_append]; omega
    simp only [cnt, lvt, List.length_cons, List.length_append, List.length_nil]
    omega
  | .none, _ => by simp [cnt, lvt]
  | .int i, _ => by
    have : (iCs i).length ≠ 0 := by
      rcases iCs_shape i with ⟨k, _, e⟩ | ⟨k, _, e⟩
      · rw [e]
        intro z
        have h := (leaf_int (i := 0) (by decide)).ne
        exact TL.numL_ne k (List.eq_nil_of_length_eq_zero z)
      · rw [e]; simp
    simp only [cnt, lvt]
    omega
  | .str s, h => by
    have := (word_plain h).1
    simp only [cnt, lvt]
    exact List.length_pos_iff.mpr this
  | .bool _, h => by cases h
  | .list _, h => by cases h
  | .dict _, h => by cases h
theorem cntK : ∀ ds : List D, okAll ds = true → cntAll ds ≤ (lvtK ds).length
  | [], _ => by simp [cntAll]
  | d :: r, h => by
    have h' : (ok d && okAll r) = true := h
    rw [Bool.and_eq_true] at h'
    have h1 := cnt_lvt d h'.1
    have h2 := cntK r h'.2
    simp only [cntAll, lvtK, List.length_cons, List.length_append]
    omega
end
mutual
theorem eqv_ok : ∀ d e : D, ok d = true → ok e = true → PyData.eqv d e = true → d = e
  | .tuple ds, e, h, h2, q => by
    cases e with
    | tuple es =>
      have : PyData.eqvAll ds es = true := q
      rw [eqvAll_ok ds es h h2 this]
    | _ => cases q
  | .none, e, _, h2, q => by
    cases e with
    | none => rfl
    | _ => cases q
  | .int i, e, _, h2, q => by
    cases e with
    | int j => rw [eq_of_beq (show (i == j) = true from q)]
    | bool _ => cases h2
    | _ => cases q
  | .str s, e, _, h2, q => by
    cases e with
    | str z => rw [eq_of_beq (show (s == z) = true from q)]
    | _ => cases q
  | .bool _, _, h, _, _ => by cases h
  | .list _, _, h, _, _ => by cases h
  | .dict _, _, h, _, _ => by cases h
theorem eqvAll_ok : ∀ ds es : List D, okAll ds = true → okAll es = true → PyData.eqvAll ds es = true → ds = es
  | [], es, _, _, q => by
    cases es with
    | nil => rfl
    | cons _ _ => cases q
  | d :: r, es, h, h2, q => by
    cases es with
    | nil => cases q
    | cons e es =>
      have h' : (ok d && okAll r) = true := h
      have h2' : (ok e && okAll es) = true := h2
      have q' : (PyData.eqv d e && PyData.eqvAll r es) = true := q
      rw [Bool.and_eq_true] at h' h2' q'
      rw [eqv_ok d e h'.1 h2'.1 q'.1, eqvAll_ok r es h'.2 h2'.2 q'.2]
end
theorem eq_ok {d e : D} (hd : ok d = true) (he : ok e = true) (h1 : dp d ≤ 64) (h2 : dp e ≤ 64) : cmpD .Eq d e = some (.bool (decide (lvt d = lvt e))) := by
  have s1 := ok_shp hd h1
  have s2 := ok_shp he h2
  simp only [cmp_Eq, eqD, s1, s2, and_self, if_true, Option.map_some]
  congr 2
  by_cases x : lvt d = lvt e
  · have e := lvt_inj hd he x
    subst e
    rw [decide_eq_true x]
    exact SeqAt.eqv_refl d (SeqAt.canLay_of_shaped s1)
  · rw [decide_eq_false x]
    cases y : PyData.eqv d e with
    | false => rfl
    | true => exact absurd (congrArg lvt (eqv_ok d e hd he y)) x
theorem cut_lo_n {p : Cs} {j : Int} {k : Nat} (hj : j = (k : Nat)) (h : p.length ≤ sizeLine) : slD (.str ⟨p.toArray⟩) (some j) none = some (.str ⟨(p.drop k).toArray⟩) := by
  subst hj
  have e : (⟨p.toArray⟩ : Str).length = p.length := by simp [Str.length]
  have e1 : HT.sIx p.length 0 (some (k : Int)) = min k p.length := HT.sIx_nat p.length 0 k
  simp only [slD, e, h, if_true, cutS, e1, HT.sIx_none]
  by_cases hk : k ≤ p.length
  · rw [Nat.min_eq_left hk]
    simp
    rw [List.take_of_length_le (by simp)]
  · rw [Nat.min_eq_right (by omega)]
    simp
    omega
theorem cut_hi_n {p : Cs} {j : Int} {k : Nat} (hj : j = (k : Nat)) (h : p.length ≤ sizeLine) : slD (.str ⟨p.toArray⟩) none (some j) = some (.str ⟨(p.take k).toArray⟩) := by
  subst hj
  have e : (⟨p.toArray⟩ : Str).length = p.length := by simp [Str.length]
  have e1 : HT.sIx p.length p.length (some (k : Int)) = min k p.length := HT.sIx_nat p.length p.length k
  simp only [slD, e, h, if_true, cutS, e1, HT.sIx_none]
  by_cases hk : k ≤ p.length
  · rw [Nat.min_eq_left hk]
    simp
  · rw [Nat.min_eq_right (by omega)]
    simp [List.take_of_length_le (show p.length ≤ k by omega)]
/-- a word for no text -/
theorem word_text : wordD ⟨"NoText", some ("line", .int 0)⟩ = some (.tuple [.str "text", .int 0]) := by rfl
theorem text_ne : cmpD .NotEq (.tuple [.str "text", .int 0]) (.tuple [.str "text", .int 0]) = some (.bool false) := by
  have s2 : SeqAt.shaped (.tuple [.str "text", .int 0]) = true := by decide +kernel
  simp only [cmp_Ne, eqD, s2, and_self, if_true, SeqAt.eqv_refl _ (SeqAt.canLay_of_shaped s2)]
  rfl
theorem not_text {d : D} (h : ok d = true) (hd : dp d ≤ 64) : ∃ k, cmpD .NotEq d (.tuple [.str "text", .int 0]) = some (.bool k) := by
  have s1 := ok_shp h hd
  have s2 : SeqAt.shaped (.tuple [.str "text", .int 0]) = true := by decide +kernel
  simp only [cmp_Ne, eqD, s1, s2, and_self, if_true, Option.map_some]
  exact ⟨_, rfl⟩
/-- what the law asks of a value that is none -/
def bad1 (d : D) : Bool := fine d && decide (cnt d ≤ 100) && !isv d
def bad3 : D → Bool
  | .str s => decide (s.length ≤ 90000) && SeqAt.shaped (.str s) && (rdv s).isNone
  | .none => true
  | .int _ => true
  | _ => false
def deepT : Str := ⟨(lvt (nest (.str "a") 59)).toArray⟩
def deepD : D := nest (.str "a") 59
theorem deep_ok : ok deepD = true := by decide +kernel
theorem deep_dp : dp deepD = 60 := by decide +kernel
theorem deep_cnt : cnt deepD + (lvt deepD).length + sz deepD ≤ 1000 := by decide +kernel
theorem deep_isv : isv deepD = true := by decide +kernel
def things1 : List D := [.str "A", .str "", .str "a b", .str "a1", .str "-", .int 1000000000000, .int (-1000000000000), .bool true, .list [.str "a"], .tuple [.str "a", .list [.str "b"]], .tuple [.str "a", .str "B"], nest (.str "a") 60, .tuple [.str "a", .bool true]]
theorem things1_bad : things1.all bad1 = true := by decide +kernel
def things3 : List D := [.none, .int 5, .str "", .str " ", .str "A", .str "a b", .str "01", .str "-0", .str "--1", .str "+1", .str "1000000000000", .str "("] ++ [.str ")", .str "(a", .str "a)", .str "(a))", .str "( a)", .str "(a )", .str "(a  b)", .str "()()", .str "(a)(b)", .str "a()", .str "1a", .str "a1"] ++ [.str "- 1", .str "(-)-", .str "(a\nb)", .str "1/2"]
theorem things3_bad : things3.all bad3 = true := by decide +kernel
theorem ne_self {d : D} (hs : SeqAt.shaped d = true) : cmpD .NotEq d d = some (.bool false) := by
  have hr := SeqAt.eqv_refl d (SeqAt.canLay_of_shaped hs)
  simp only [cmp_Ne, eqD, hs, and_self, if_true, hr]
  rfl
def par59 : Str := repS (Int.toNat 59) "(" ++ "a" ++ repS (Int.toNat 59) ")"
def par60 : Str := repS (Int.toNat 60) "(" ++ "a" ++ repS (Int.toNat 60) ")"
theorem par59_e : par59 = ⟨(lvt deepD).toArray⟩ := by decide +kernel
theorem par60_n : (rdv par60).isNone = true := by decide +kernel
theorem par60_s : SeqAt.shaped (.str par60) = true ∧ par60.length ≤ 90000 := by decide +kernel
end K8
namespace K8
open PySem PySem.Spec L2 Ev K8M
local macro_rules | `(tactic| walk_at "RUN") => `(tactic| repeat (first | ((with_reducible apply isGot); (with_reducible apply got_mk); exact rfl) | ((with_reducible apply isEv); first | with_reducible apply Iev_var | with_reducible apply Iev_int | with_reducible apply Iev_str | with_reducible apply Iev_cmp | with_reducible apply Iev_call | with_reducible apply Iev_bi | with_reducible apply Iev_and | with_reducible apply Iev_isi | with_reducible apply Iev_gc | with_reducible apply Iev_not | with_reducible apply Iev_sub | with_reducible apply Iev_bin | with_reducible apply Iev_tup | with_reducible apply Iev_lst | with_reducible apply Iev_or | with_reducible apply Iev_lc | with_reducible apply Iev_ife | with_reducible apply Iev_emp | with_reducible apply Iev_isN | with_reducible apply Iev_non | with_reducible apply Iev_bl | with_reducible apply Iev_cmp2 | with_reducible apply Iev_callK | with_reducible apply Iev_isi2 | with_reducible apply Iev_slL | with_reducible apply Iev_slH | with_reducible apply Iev_slB | with_reducible apply Iev_join | with_reducible apply Iev_pop | with_reducible apply Iev_reprEq | with_reducible apply Iev_usub | with_reducible apply Iev_subv | with_reducible apply Iev_dk | with_reducible apply Iev_dkEmp | with_reducible apply Iev_dkPop0 | with_reducible apply Iev_dNew | with_reducible apply Iev_lNew | with_reducible apply Iev_cTup | with_reducible apply Iev_word) | ((with_reducible apply rdV_ms); exact rfl) | ((with_reducible apply rdV_mo); exact rfl) | ((with_reducible apply br_mt); exact rfl) | ((with_reducible apply br_mf); exact rfl) | ((with_reducible apply isEx); first | with_reducible apply Iex_ife | with_reducible apply Iex_asg | with_reducible apply Iex_ret | with_reducible apply Iex_fr | with_reducible apply Iex_par | with_reducible apply Iex_aug | with_reducible apply Iex_exp | with_reducible apply Iex_app | with_reducible apply Iex_ext | with_reducible apply Iex_raise | with_reducible apply Iex_whl | with_reducible apply Iex_dkSet | with_reducible apply Iex_cApp | with_reducible apply Iex_brk | with_reducible apply Iex_cont | ((with_reducible apply rv_s); exact rfl) | ((with_reducible apply rv_o); exact rfl)) | with_reducible apply Isx_nx | with_reducible apply Isx_rt | with_reducible apply Ilp_nx | with_reducible apply Ilp_rt | with_reducible apply Ifl_rt | with_reducible apply Isx_ct | with_reducible apply Isx_ex | with_reducible apply Ilp_ct | with_reducible apply Ilp_ex | with_reducible apply Ifl_ex | with_reducible apply Ifl_nx | with_reducible apply Isx_bk | with_reducible apply Ilp_bk | with_reducible apply Iexs_nil | with_reducible apply Iexs_cons | ((with_reducible apply isExs); apply Iexs_cons) | with_reducible apply Ievs_nil | with_reducible apply Ievs_cons | with_reducible apply IevAnd_1 | with_reducible apply IevAnd_2 | with_reducible apply IevI_val | with_reducible apply IevI_rng | with_reducible apply IevI_er | with_reducible apply IevOr_1 | with_reducible apply IevOr_2 | with_reducible apply IevIf_0 | with_reducible apply IevIf_1 | with_reducible apply IbindT_n | with_reducible apply IbindT_2 | ((with_reducible apply pkV_ms); exact rfl) | ((with_reducible apply pkV_mo); exact rfl) | ((with_reducible apply upV_m); exact rfl) | ((with_reducible apply look_m); exact rfl) | ((with_reducible apply ow_m); exact rfl) | ((with_reducible apply lst_m); exact rfl) | ((with_reducible apply tup_m); exact rfl) | ((with_reducible apply pkT_m); exact rfl; exact Sl.noConfusion) | with_reducible apply atw))
section
variable {b : Bs} {ω : Om} {Q : CQ} {E : CE} {n m : Nat} {a : Addr}
theorem nest_e (k : Nat) (i : Int) (h : i = (k : Nat)) (hb : Ok b) (hk : k ≤ 60) {d : D} (q : Q (.sh (nest d k)) ω) : (lv b (n + 1)).cl 43 [.int i, d] ω Q E := by
  subst h
  exact t43 hb hk q
/-- one turn of the law -/
theorem t44c (h : Ok b) {is : List Int} {L : Lv} (hL : L = lv b (n + 99)) (hl : is.length ≤ 63) {x2 x3 x4 x5 x6 x7 x8 x9 x10 : Sl} (hs : S 10000 a ω)
    (q : ∀ ω', Q (.sh (.bool true)) ω') : exs L (d44.body.drop 5) [.sh (FZ (is.map .int)), .sh (RF a), x2, x3, x4, x5, x6, x7, x8, x9, x10] ω (fl0 Q E) := by
  subst hL
  have hz := sizeLine_eq
  show exs _ (List.drop 5 [_, _, _, _, _, _, _]) _ _ _
  simp only [List.drop]
  walk_at "RUN"
  have hlen : (List.map PyData.int is).length ≤ 63 := by simp only [List.length_map]; exact hl
  generalize List.map PyData.int is = isd at hlen ⊢
  generalize hz2 : (8 + if 10 < Int.ofNat isd.length then 10 else Int.ofNat isd.length) = z
  have hzb : 0 ≤ z ∧ z ≤ 18 := by
    subst hz2
    simp only [Int.ofNat_eq_natCast]
    split <;> omega
  refine ⟨⟨by omega, by omega⟩, ?_⟩
  refine for_st (I := fun ds ρ ω => S (ds.length * 520) a ω ∧ ∃ x3 x4 x5 x6 x7 x8 x9, ρ = [.sh (FZ isd), .sh (RF a), x2, x3, x4, x5, x6, x7, x8, x9, x10]) ?_ _ _ _ ⟨hs.le (by simp; omega), _, _, _, _, _, _, _, rfl⟩ ?_
  · rintro d ds ρ ω ⟨hs, x3, x4, x5, x6, x7, x8, x9, rfl⟩
    generalize hm : ds.length * 520 = m
    replace hs : S (m + 520) a ω := hs.le (by simp only [List.length_cons, Nat.add_mul]; omega)
    walk_at "RUN"
    refine t42 (n := n + 92) (m := m + 264) h 3 (hs.le (by omega)) fun one ω1 x d1 s1 hx => ?_
    subst hx
    walk_at "RUN"
    refine t42 (n := n + 92) (m := m + 8) h 3 (s1.le (by omega)) fun two ω2 x d2 s2 hx => ?_
    subst hx
    obtain ⟨k1, k2, k3⟩ := d1
    have k4 : isv one = true := dn_isv (by decide) ⟨k1, k2, k3⟩
    have l4 : isv two = true := dn_isv (by decide) d2
    obtain ⟨l1, l2, l3⟩ := d2
    have e5 : 30 * 5 ^ 3 = 3750 := by decide
    rw [e5] at k3 l3
    walk_at "RUN"
    refine t39 (d := one) h 4 k1 k2 (by omega) (by omega) ?_
    walk_at "RUN"
    refine t27 (d := one) h (ok_fine one k1 (by omega)) (by omega) k4 k1 (by omega) (by omega) ?_
    walk_at "RUN"
    have p1 := lvt_shp k1
    have p2 := lvt_shp l1
    have w1 := str_shows p1 (by omega)
    refine t38 (m := 1) h (.inr ⟨_, rfl⟩) (Nat.le_refl _) (by show 1 ≤ sizeLine; omega) p1 w1 ?_
    walk_at "RUN"
    have hr : rdv ⟨(lvt one).toArray⟩ = some one := rdv_lvt k1 k4
    have hrl : (⟨(lvt one).toArray⟩ : Str).length ≤ 90000 := by simp [Str.length]; omega
    refine t31 h hrl p1 (fun d hd x hx => ?_) fun hn => by rw [hr] at hn; cases hn
    rw [hr] at hd
    cases hd
    have hxd : x.d = one := by rcases hx with rfl | rfl <;> rfl
    walk_at "RUN"
    rw [hxd]
    refine t38 (m := 4) h (.inl k1) k2 (by omega) (ok_shp k1 (by omega)) (ok_shows k1 (by omega) (by omega)) ?_
    walk_at "RUN"
    refine t31 h hrl p1 (fun d hd x hx => ?_) fun hn => by rw [hr] at hn; cases hn
    rw [hr] at hd
    cases hd
    have hxd : x.d = one := by rcases hx with rfl | rfl <;> rfl
    walk_at "RUN"
    rw [hxd]
    refine t38 (m := 4) h (.inl k1) k2 (by omega) (ok_shp k1 (by omega)) (ok_shows k1 (by omega) (by omega)) ?_
    walk_at "RUN"
    refine t27 (d := one) h (ok_fine one k1 (by omega)) (by omega) k4 k1 (by omega) (by omega) ?_
    walk_at "RUN"
    refine t38 (m := 1) h (.inr ⟨_, rfl⟩) (Nat.le_refl _) (by show 1 ≤ sizeLine; omega) p1 w1 ?_
    walk_at "RUN"
    refine t27 (d := one) h (ok_fine one k1 (by omega)) (by omega) k4 k1 (by omega) (by omega) ?_
    walk_at "RUN"
    refine t27 (d := two) h (ok_fine two l1 (by omega)) (by omega) l4 l1 (by omega) (by omega) ?_
    walk_at "RUN"
    refine got_mk (cmp_eq_cs p1 p2) ?_
    walk_at "RUN"
    refine got_mk (eq_ok (d := one) (e := two) k1 l1 (by omega) (by omega)) ?_
    walk_at "RUN"
    refine br_mf (by show (!(decide (lvt one = lvt two) == decide (lvt one = lvt two))) = false; simp) ?_
    walk_at "RUN"
    refine got_mk (len_s (by omega)) ?_
    walk_at "RUN"
    have elen : Int.ofNat (⟨(lvt one).toArray⟩ : Str).length = ((lvt one).length : Nat) := by simp [Str.length]
    rw [elen]
    refine pick (n := n + 97) (m := m + 7) h (s2.le (by omega)) (by omega) (by omega) fun r ω3 r0 r1 s3 => ?_
    obtain ⟨i, rfl⟩ : ∃ i : Nat, r = (i : Nat) := ⟨r.toNat, by omega⟩
    walk_at "RUN"
    refine got_mk (cut_hi_n (p := lvt one) (k := i) rfl (by omega)) ?_
    walk_at "RUN"
    refine ⟨by show 4 ≤ sizeLine; omega, ?_⟩
    walk_at "RUN"
    refine t36 (m := m + 6) h (s3.le (by omega)) (by simp) (by simp) fun sep hsep ω4 s4 => ?_
    obtain ⟨p, rfl, hp1, hp2⟩ : ∃ p : Cs, sep = .str ⟨p.toArray⟩ ∧ p.length = 1 ∧ ∀ c ∈ p, c < 1114112 := by
      simp only [Sl_sh, List.mem_cons, List.not_mem_nil, or_false] at hsep
      rcases hsep with rfl | rfl | rfl | rfl
      · exact ⟨[40], by rw [op_cs]; rfl, rfl, by decide⟩
      · exact ⟨[41], by rw [cl_cs]; rfl, rfl, by decide⟩
      · exact ⟨[32], by rw [sp_cs]; rfl, rfl, by decide⟩
      · exact ⟨[65], by rfl, rfl, by decide⟩
    walk_at "RUN"
    refine got_mk (add_cs (p := (lvt one).take i) (q := p) (by simp; omega)) ?_
    walk_at "RUN"
    refine got_mk (cut_lo_n (p := lvt one) (k := i) rfl (by omega)) ?_
    walk_at "RUN"
    refine got_mk (add_cs (p := (lvt one).take i ++ p) (q := (lvt one).drop i) (by simp; omega)) ?_
    walk_at "RUN"
    refine got_mk (cut_hi_n (p := lvt one) (k := i) rfl (by omega)) ?_
    walk_at "RUN"
    refine got_mk (cut_lo_n (p := lvt one) (k := i + 1) (by omega) (by omega)) ?_
    walk_at "RUN"
    refine got_mk (add_cs (p := (lvt one).take i) (q := (lvt one).drop (i + 1)) (by simp; omega)) ?_
    walk_at "RUN"
    refine ⟨by show 2 ≤ sizeLine; omega, ?_⟩
    walk_at "RUN"
    refine t36 (m := m + 5) h (s4.le (by omega)) (by simp) (by simp) fun bent hbent ω5 s5 => ?_
    obtain ⟨p, rfl, hp1, hp2⟩ : ∃ p : Cs, bent = .str ⟨p.toArray⟩ ∧ p.length ≤ 4000 ∧ ∀ c ∈ p, c < 1114112 := by
      have hc1 := shp_iff.mp p1
      simp only [Sl_sh, List.mem_cons, List.not_mem_nil, or_false] at hbent
      rcases hbent with rfl | rfl
      · refine ⟨_, rfl, by simp; omega, fun c hc => ?_⟩
        rcases List.mem_append.mp hc with hc | hc
        · rcases List.mem_append.mp hc with hc | hc
          · exact hc1 c (List.mem_of_mem_take hc)
          · exact hp2 c hc
        · exact hc1 c (List.mem_of_mem_drop hc)
      · refine ⟨_, rfl, by simp; omega, fun c hc => ?_⟩
        rcases List.mem_append.mp hc with hc | hc
        · exact hc1 c (List.mem_of_mem_take hc)
        · exact hc1 c (List.mem_of_mem_drop hc)
    walk_at "RUN"
    have hps : (⟨p.toArray⟩ : Str).length = p.length := by simp [Str.length]
    have hsh := shp_iff.mpr hp2
    refine t31 (s := ⟨p.toArray⟩) h (by omega) hsh (fun v hv x hx => ?_) fun hn => ?_
    · obtain ⟨v1, v2⟩ := rdv_some hv
      obtain ⟨v3, v4⟩ := isv_back v1
      have v5 := cnt_lvt v v3
      have v6 : lvt v = p := v2
      have v7 : (lvt v).length = p.length := by rw [v6]
      have hxd : x.d = v := by rcases hx with rfl | rfl <;> rfl
      rw [hxd]
      walk_at "RUN"
      refine ⟨by show 2 ≤ sizeLine; omega, ?_⟩
      obtain ⟨k, hk⟩ := not_text v3 (by omega)
      refine got_mk hk ?_
      cases k with
      | false =>
        walk_at "RUN"
        exact ⟨s5.le (by omega), _, _, _, _, _, _, _, rfl⟩
      | true =>
        walk_at "RUN"
        refine t37 (d := v) h 60 (.inl v3) v4 (by omega) ?_
        walk_at "RUN"
        refine t39 (d := v) h 60 v3 v4 (by omega) (by omega) ?_
        walk_at "RUN"
        rw [v6]
        refine got_mk (ne_self hsh) ?_
        walk_at "RUN"
        exact ⟨s5.le (by omega), _, _, _, _, _, _, _, rfl⟩
    · refine got_mk word_text ?_
      walk_at "RUN"
      refine ⟨by show 2 ≤ sizeLine; omega, ?_⟩
      refine got_mk text_ne ?_
      walk_at "RUN"
      exact ⟨s5.le (by omega), _, _, _, _, _, _, _, rfl⟩
  · rintro ρ ω ⟨_, x3, x4, x5, x6, x7, x8, x9, rfl⟩
    walk_at "RUN"
    exact q _
theorem t44b (h : Ok b) {is : List Int} {L : Lv} (hL : L = lv b (n + 99)) (hl : is.length ≤ 63) {x2 x3 x4 x5 x6 x7 x8 x9 x10 : Sl} (hs : S 10000 a ω)
    (q : ∀ ω', Q (.sh (.bool true)) ω') : exs L (d44.body.drop 2) [.sh (FZ (is.map .int)), .sh (RF a), x2, x3, x4, x5, x6, x7, x8, x9, x10] ω (fl0 Q E) := by
  subst hL
  have hz := sizeLine_eq
  show exs _ (List.drop 2 [_, _, _, _, _, _, _]) _ _ _
  simp only [List.drop]
  walk_at "RUN"
  refine nest_e 59 _ rfl h (by decide) ?_
  walk_at "RUN"
  have dc := deep_cnt
  have dlen : (⟨(lvt deepD).toArray⟩ : Str).length = (lvt deepD).length := by simp [Str.length]
  refine t27 (d := deepD) h (ok_fine deepD deep_ok (by omega)) (by omega) deep_isv deep_ok (by omega) (by omega) ?_
  walk_at "RUN"
  change (lv b (n + 99)).cl 38 [_, .str par59] _ _ _
  rw [par59_e]
  refine t38 (m := 1) (d := .str _) h (.inr ⟨_, rfl⟩) (Nat.le_refl _) (by show 1 ≤ sizeLine; omega) (lvt_shp deep_ok) (str_shows (lvt_shp deep_ok) (by omega)) ?_
  walk_at "RUN"
  change (lv b (n + 99)).cl 31 [.str par59] _ _ _
  rw [par59_e]
  have hr : rdv ⟨(lvt deepD).toArray⟩ = some deepD := rdv_lvt deep_ok deep_isv
  refine t31 h (by omega) (lvt_shp deep_ok) (fun d hd x hx => ?_) fun hn => ?_
  rotate_left
  · rw [hr] at hn
    cases hn
  rw [hr] at hd
  cases hd
  rcases hx with rfl | rfl
  all_goals
    walk_at "RUN"
    refine got_mk (ne_self (d := deepD) (ok_shp deep_ok (by rw [deep_dp]; decide))) ?_
    walk_at "RUN"
    change (lv b (n + 99)).cl 31 [.str par60] _ _ _
    refine t31 h par60_s.2 par60_s.1 (fun d hd x hx => ?_) fun _ => ?_
    · have := par60_n
      rw [hd] at this
      cases this
    refine got_mk word_text ?_
    walk_at "RUN"
    refine ⟨by show 2 ≤ sizeLine; omega, ?_⟩
    refine got_mk text_ne ?_
    walk_at "RUN"
    refine ⟨by show 28 ≤ sizeLine; omega, ?_⟩
    walk_at "RUN"
    change loopF _ _ _ things3 _ _ _
    refine for_ind (I := fun ds ρ => (∀ d ∈ ds, bad3 d = true) ∧ ∃ y, ρ = [.sh (FZ (is.map .int)), .sh (RF a), .sh deepD, x3, x4, x5, x6, x7, x8, x9, y]) ?_ _ _ ⟨fun d hd => List.all_eq_true.mp things3_bad d hd, _, rfl⟩ ?_
    · rintro d ds ρ ⟨hb, y, rfl⟩
      have hd := hb d List.mem_cons_self
      have key : ∀ {Q' : CQ} {E' : CE} {ω : Om}, E' ⟨"NoText", some ("line", .int 0)⟩ ω → (lv b (n + 99)).cl 31 [d] ω Q' E' := fun q => by
        cases d with
        | str s =>
          simp only [bad3, Bool.and_eq_true, decide_eq_true_eq, Option.isNone_iff_eq_none] at hd
          exact t31 h hd.1.1 hd.1.2 (fun d hd' x hx => by rw [hd.2] at hd'; cases hd') fun _ => q
        | none => exact t31n h rfl (fun s e => by cases e) q
        | int _ => exact t31n h rfl (fun s e => by cases e) q
        | _ => cases hd
      walk_at "RUN"
      refine key ?_
      refine got_mk word_text ?_
      walk_at "RUN"
      refine ⟨by show 2 ≤ sizeLine; omega, ?_⟩
      refine got_mk text_ne ?_
      walk_at "RUN"
      exact ⟨fun d hd => hb d (List.mem_cons_of_mem _ hd), _, rfl⟩
    · rintro ρ ⟨_, y, rfl⟩
      exact t44c h rfl hl hs q
theorem t44 (h : Ok b) {is : List Int} (hl : is.length ≤ 63) (q : ∀ ω', Q (.sh (.bool true)) ω') : (lv b (n + 100)).cl 44 [FZ (is.map .int)] ω Q E := by
  have hz := sizeLine_eq
  rw [lv_def (fd := d44) (by rw [h.P]; rfl), callF_1 rfl]
  walk_at "RUN"
  refine t33 (m := 10000) h hl (by decide) fun a c hc hd => ?_
  generalize hw : updO ω a c = ω'
  have hs : S 10000 a ω' := ⟨c, by subst hw; exact updO_same, hd⟩
  walk_at "RUN"
  refine ⟨by show 1 ≤ sizeLine; omega, ?_⟩
  walk_at "RUN"
  refine ⟨by show 1 ≤ sizeLine; omega, ?_⟩
  walk_at "RUN"
  refine ⟨by show 2 ≤ sizeLine; omega, ?_⟩
  walk_at "RUN"
  refine ⟨by show 2 ≤ sizeLine; omega, ?_⟩
  walk_at "RUN"
  refine nest_e 60 _ rfl h (by decide) ?_
  walk_at "RUN"
  refine ⟨by show 2 ≤ sizeLine; omega, ?_⟩
  walk_at "RUN"
  refine ⟨by show 13 ≤ sizeLine; omega, ?_⟩
  walk_at "RUN"
  change loopF _ _ _ things1 _ _ _
  refine for_ind (I := fun ds ρ => (∀ d ∈ ds, bad1 d = true) ∧ ∃ y, ρ = [.sh (FZ (is.map .int)), .sh (RF a), .no, .no, .no, .no, .no, .no, .no, .no, y]) ?_ _ _ ⟨fun d hd => List.all_eq_true.mp things1_bad d hd, _, rfl⟩ ?_
  · rintro d ds ρ ⟨hb, y, rfl⟩
    have hd := hb d List.mem_cons_self
    simp only [bad1, Bool.and_eq_true, decide_eq_true_eq, Bool.not_eq_true'] at hd
    have hcn : cnt d ≤ sizeLine := by omega
    walk_at "RUN"
    refine t27f h hd.1.1 hcn hd.2 ?_
    refine got_mk word_text ?_
    walk_at "RUN"
    refine ⟨by show 2 ≤ sizeLine; omega, ?_⟩
    refine got_mk text_ne ?_
    walk_at "RUN"
    exact ⟨fun d hd => hb d (List.mem_cons_of_mem _ hd), _, rfl⟩
  · rintro ρ ⟨_, y, rfl⟩
    walk_at "RUN"
    exact t44b h rfl hl hs q
end
end K8
namespace K8
open L2 PyProof.Rows PySem.Calls PySem.Spec PySem Ev Sb
def gvZ : Nat → Option D
  | 19 => some (.int 60)
  | 20 => some (.int 12)
  | 21 => some (.int 1000000000000)
  | 22 => some (.str "abcdefghijklmnopqrstuvwxyz")
  | 23 => some (.str "0123456789")
  | _ => none
def caZ (K : PySem.W.Frag) (x : Str) : Option Addr := if x ∈ allX then some (He.ga K x) else none
def prZ : Cl := fun f ds ω _ E => f = 14 ∧ ∃ d e, ds = [d, e] ∧ E ⟨"NoText", some ("line", e)⟩ ω
theorem pmZ : ClMono prZ := fun {_ _ _ _ _ _ _} _ he ⟨h, d, e, g, z⟩ => ⟨h, d, e, g, he _ _ z⟩
def tbZ (K : PySem.W.Frag) : List (Addr × Str) := [((He.cT K ("_law_word", none)).2, lamQ "_law_word"), ((He.cT K ("law", none)).2, lamQ "law")]
def bz (K : PySem.W.Frag) : Bs := ⟨K, gvZ, caZ K, tbZ K, Pd, prZ, pmZ⟩
theorem okz (K : PySem.W.Frag) : Ok (bz K) := ⟨rfl, rfl, rfl, rfl, rfl, rfl, fun s k ω Q E h => ⟨rfl, .str s, k, rfl, h⟩⟩
section
variable {K : PySem.W.Frag} {h0 : Heap} {mg : Str → Option Value}
abbrev Sz (h : Heap) (K : PySem.W.Frag) : Prop := SaysZ fa fn xs tf exB h K
theorem gl (X : K.In h0) (G : h0.Ns mainGlobals mg) (c : Sz h0 K) {x : Str} (hx : glos.contains x = true) : mg x = some (.ref (He.ga K x)) :=
  He.glo_ok X G (c.d.facts (f := .glo x) (List.mem_append_left _ (List.mem_append_left _ (List.mem_map.mpr ⟨x, List.contains_iff_mem.mp hx, rfl⟩))))
theorem fre (X : K.In h0) (G : h0.Ns mainGlobals mg) (c : Sz h0 K) {x : Str} (hx : frees.contains x = true) : mg x = none :=
  He.free_ok X G (c.d.facts (f := .free x) (List.mem_append_left _ (List.mem_append_right _ (List.mem_map.mpr ⟨x, List.contains_iff_mem.mp hx, rfl⟩))))
theorem con (c : Sz h0 K) {f : He.Fa} (hf : f ∈ consts) : f.ok K = true := c.d.facts (List.mem_append_right _ hf)
theorem de (c : Sz h0 K) {p : Str × Nat} (hp : dfs.contains p = true) : ∃ fd, FunD K p.1 p.1 (defArgs (topC p.2)) (defBody (topC p.2)) (defScope (topC p.2)) [] [] (He.ga K p.1) fd :=
  c.d.defs (d := df p) (List.mem_map.mpr ⟨p, List.contains_iff_mem.mp hp, rfl⟩)
theorem fun_of {x q : Str} {st : Stmt} {f : Addr} {fd : FuncData} (F : FunD K x q (defArgs st) (defBody st) (defScope st) [] [] f fd) : Fun K x q st f fd := by
  obtain ⟨⟨oc, od, dV, kV, doc, pm, an, cdv, ct, osl, rfl, lk, hcd, hD, _⟩, kp⟩ := F
  rcases hD with ⟨_, rfl⟩ | ⟨e, _⟩
  · exact ⟨⟨oc, od, kV, doc, pm, an, cdv, ct, osl, rfl, lk, hcd⟩, kp⟩
  · exact absurd rfl e
theorem kb_one {x q y : Str} {st : Stmt} {f : Addr} {fd : FuncData} (F : Fun K x q st f fd)
    (h1 : ∀ (kV doc pm : Value) (an : Option Addr) (cdv ct u : Value), bindArgs (PySem.W.fnOf x q (defArgs st) (defBody st) (defScope st) .none kV doc pm an cdv ct) ⟨[u], []⟩ = pure [(y, u)])
    (h2 : ∀ (kV doc pm : Value) (an : Option Addr) (cdv ct u : Value), bindArgs (PySem.W.fnOf x q (defArgs st) (defBody st) (defScope st) .none kV doc pm an cdv ct) ⟨[], [(y, u)]⟩ = pure [(y, u)]) :
    KBinds K fd [y] [y] (fun us ws => us ++ ws) (fun vs zs => vs ++ zs) := by
  obtain ⟨⟨oc, od, kV, doc, pm, an, cdv, ct, osl, rfl, lk, hcd⟩, _⟩ := F
  refine ⟨fun s us ws _ hl => ?_, fun a b => a.append b⟩
  match us, ws, hl with
  | [u], [], _ => exact .of_eq (h1 _ _ _ _ _ _ u)
  | [], [u], _ => exact .of_eq (h2 _ _ _ _ _ _ u)
  | u :: v :: r, [], hl => simp at hl
  | u :: r, v :: z, hl => simp at hl
  | [], u :: v :: r, hl => simp at hl
  | [], [], hl => simp at hl
theorem z24 (X : K.In h0) (G : h0.Ns mainGlobals mg) (c : Sz h0 K) : Df (bz K) Tb.off mg 24 "is_word" 1 := by
  obtain ⟨fd, F⟩ := de c (p := ("is_word", 24)) (by decide +kernel)
  exact ⟨d24, topC 24, _, _, ["thing"], rfl, rfl, fun_of F, ⟨rfl, rfl, rfl, by decide +kernel, rfl, by decide +kernel, by decide +kernel⟩, rfl, u24, w24, gl X G c (by decide +kernel),
    F.bindsN fun _ _ _ _ _ _ us hl => match us, hl with | [_], _ => rfl, fun h y hy => nomatch hy⟩
theorem z25 (X : K.In h0) (G : h0.Ns mainGlobals mg) (c : Sz h0 K) : Df (bz K) Tb.off mg 25 "is_figure" 1 := by
  obtain ⟨fd, F⟩ := de c (p := ("is_figure", 25)) (by decide +kernel)
  exact ⟨d25, topC 25, _, _, ["thing"], rfl, rfl, fun_of F, ⟨rfl, rfl, rfl, by decide +kernel, rfl, by decide +kernel, by decide +kernel⟩, rfl, u25, w25, gl X G c (by decide +kernel),
    F.bindsN fun _ _ _ _ _ _ us hl => match us, hl with | [_], _ => rfl, fun h y hy => nomatch hy⟩
theorem z26 (X : K.In h0) (G : h0.Ns mainGlobals mg) (c : Sz h0 K) : Df (bz K) Tb.off mg 26 "is_value" 1 := by
  obtain ⟨fd, F⟩ := de c (p := ("is_value", 26)) (by decide +kernel)
  exact ⟨d26, topC 26, _, _, ["thing"], rfl, rfl, fun_of F, ⟨rfl, rfl, rfl, by decide +kernel, rfl, by decide +kernel, by decide +kernel⟩, rfl, u26, w26, gl X G c (by decide +kernel),
    F.bindsN fun _ _ _ _ _ _ us hl => match us, hl with | [_], _ => rfl, fun h y hy => nomatch hy⟩
theorem z27 (X : K.In h0) (G : h0.Ns mainGlobals mg) (c : Sz h0 K) : Df (bz K) Tb.off mg 27 "value_text" 1 := by
  obtain ⟨fd, F⟩ := de c (p := ("value_text", 27)) (by decide +kernel)
  exact ⟨d27, topC 27, _, _, ["value"], rfl, rfl, fun_of F, ⟨rfl, rfl, rfl, by decide +kernel, rfl, by decide +kernel, by decide +kernel⟩, rfl, u27, w27, gl X G c (by decide +kernel),
    F.bindsN fun _ _ _ _ _ _ us hl => match us, hl with | [_], _ => rfl, fun h y hy => by cases hy; exact kb_one (fun_of F) (fun _ _ _ _ _ _ _ => rfl) fun _ _ _ _ _ _ _ => rfl⟩
theorem z28 (X : K.In h0) (G : h0.Ns mainGlobals mg) (c : Sz h0 K) : Df (bz K) Tb.off mg 28 "pieces_of" 1 := by
  obtain ⟨fd, F⟩ := de c (p := ("pieces_of", 28)) (by decide +kernel)
  exact ⟨d28, topC 28, _, _, ["text"], rfl, rfl, fun_of F, ⟨rfl, rfl, rfl, by decide +kernel, rfl, by decide +kernel, by decide +kernel⟩, rfl, u28, w28, gl X G c (by decide +kernel),
    F.bindsN fun _ _ _ _ _ _ us hl => match us, hl with | [_], _ => rfl, fun h y hy => nomatch hy⟩
theorem z29 (X : K.In h0) (G : h0.Ns mainGlobals mg) (c : Sz h0 K) : Df (bz K) Tb.off mg 29 "plain_of" 1 := by
  obtain ⟨fd, F⟩ := de c (p := ("plain_of", 29)) (by decide +kernel)
  exact ⟨d29, topC 29, _, _, ["piece"], rfl, rfl, fun_of F, ⟨rfl, rfl, rfl, by decide +kernel, rfl, by decide +kernel, by decide +kernel⟩, rfl, u29, w29, gl X G c (by decide +kernel),
    F.bindsN fun _ _ _ _ _ _ us hl => match us, hl with | [_], _ => rfl, fun h y hy => nomatch hy⟩
theorem z30 (X : K.In h0) (G : h0.Ns mainGlobals mg) (c : Sz h0 K) : Df (bz K) Tb.off mg 30 "value_of" 1 := by
  obtain ⟨fd, F⟩ := de c (p := ("value_of", 30)) (by decide +kernel)
  exact ⟨d30, topC 30, _, _, ["pieces"], rfl, rfl, fun_of F, ⟨rfl, rfl, rfl, by decide +kernel, rfl, by decide +kernel, by decide +kernel⟩, rfl, u30, w30, gl X G c (by decide +kernel),
    F.bindsN fun _ _ _ _ _ _ us hl => match us, hl with | [_], _ => rfl, fun h y hy => nomatch hy⟩
theorem z31 (X : K.In h0) (G : h0.Ns mainGlobals mg) (c : Sz h0 K) : Df (bz K) Tb.off mg 31 "read_value" 1 := by
  obtain ⟨fd, F⟩ := de c (p := ("read_value", 31)) (by decide +kernel)
  exact ⟨d31, topC 31, _, _, ["text"], rfl, rfl, fun_of F, ⟨rfl, rfl, rfl, by decide +kernel, rfl, by decide +kernel, by decide +kernel⟩, rfl, u31, w31, gl X G c (by decide +kernel),
    F.bindsN fun _ _ _ _ _ _ us hl => match us, hl with | [_], _ => rfl, fun h y hy => by cases hy; exact kb_one (fun_of F) (fun _ _ _ _ _ _ _ => rfl) fun _ _ _ _ _ _ _ => rfl⟩
theorem z33 (X : K.In h0) (G : h0.Ns mainGlobals mg) (c : Sz h0 K) : Df (bz K) Tb.off mg 33 "_law_begun" 1 := by
  obtain ⟨fd, F⟩ := de c (p := ("_law_begun", 33)) (by decide +kernel)
  exact ⟨d33, topC 33, _, _, ["script"], rfl, rfl, fun_of F, ⟨rfl, rfl, rfl, by decide +kernel, rfl, by decide +kernel, by decide +kernel⟩, rfl, u33, w33, gl X G c (by decide +kernel),
    F.bindsN fun _ _ _ _ _ _ us hl => match us, hl with | [_], _ => rfl, fun h y hy => nomatch hy⟩
theorem z34 (X : K.In h0) (G : h0.Ns mainGlobals mg) (c : Sz h0 K) : Df (bz K) Tb.off mg 34 "_law_mixed" 1 := by
  obtain ⟨fd, F⟩ := de c (p := ("_law_mixed", 34)) (by decide +kernel)
  exact ⟨d34, topC 34, _, _, ["state"], rfl, rfl, fun_of F, ⟨rfl, rfl, rfl, by decide +kernel, rfl, by decide +kernel, by decide +kernel⟩, rfl, u34, w34, gl X G c (by decide +kernel),
    F.bindsN fun _ _ _ _ _ _ us hl => match us, hl with | [_], _ => rfl, fun h y hy => nomatch hy⟩
theorem z35 (X : K.In h0) (G : h0.Ns mainGlobals mg) (c : Sz h0 K) : Df (bz K) Tb.off mg 35 "_law_draw" 2 := by
  obtain ⟨fd, F⟩ := de c (p := ("_law_draw", 35)) (by decide +kernel)
  exact ⟨d35, topC 35, _, _, ["state", "room"], rfl, rfl, fun_of F, ⟨rfl, rfl, rfl, by decide +kernel, rfl, by decide +kernel, by decide +kernel⟩, rfl, u35, w35, gl X G c (by decide +kernel),
    F.bindsN fun _ _ _ _ _ _ us hl => match us, hl with | [_, _], _ => rfl, fun h y hy => nomatch hy⟩
theorem z36 (X : K.In h0) (G : h0.Ns mainGlobals mg) (c : Sz h0 K) : Df (bz K) Tb.off mg 36 "_law_pick" 2 := by
  obtain ⟨fd, F⟩ := de c (p := ("_law_pick", 36)) (by decide +kernel)
  exact ⟨d36, topC 36, _, _, ["state", "some"], rfl, rfl, fun_of F, ⟨rfl, rfl, rfl, by decide +kernel, rfl, by decide +kernel, by decide +kernel⟩, rfl, u36, w36, gl X G c (by decide +kernel),
    F.bindsN fun _ _ _ _ _ _ us hl => match us, hl with | [_, _], _ => rfl, fun h y hy => nomatch hy⟩
theorem z37 (X : K.In h0) (G : h0.Ns mainGlobals mg) (c : Sz h0 K) : Df (bz K) Tb.off mg 37 "_law_plain" 1 := by
  obtain ⟨fd, F⟩ := de c (p := ("_law_plain", 37)) (by decide +kernel)
  exact ⟨d37, topC 37, _, _, ["value"], rfl, rfl, fun_of F, ⟨rfl, rfl, rfl, by decide +kernel, rfl, by decide +kernel, by decide +kernel⟩, rfl, u37, w37, gl X G c (by decide +kernel),
    F.bindsN fun _ _ _ _ _ _ us hl => match us, hl with | [_], _ => rfl, fun h y hy => nomatch hy⟩
theorem z38 (X : K.In h0) (G : h0.Ns mainGlobals mg) (c : Sz h0 K) : Df (bz K) Tb.off mg 38 "_law_is" 2 := by
  obtain ⟨fd, F⟩ := de c (p := ("_law_is", 38)) (by decide +kernel)
  exact ⟨d38, topC 38, _, _, ["found", "due"], rfl, rfl, fun_of F, ⟨rfl, rfl, rfl, by decide +kernel, rfl, by decide +kernel, by decide +kernel⟩, rfl, u38, w38, gl X G c (by decide +kernel),
    F.bindsN fun _ _ _ _ _ _ us hl => match us, hl with | [_, _], _ => rfl, fun h y hy => nomatch hy⟩
theorem z39 (X : K.In h0) (G : h0.Ns mainGlobals mg) (c : Sz h0 K) : Df (bz K) Tb.off mg 39 "_law_value_text" 1 := by
  obtain ⟨fd, F⟩ := de c (p := ("_law_value_text", 39)) (by decide +kernel)
  exact ⟨d39, topC 39, _, _, ["value"], rfl, rfl, fun_of F, ⟨rfl, rfl, rfl, by decide +kernel, rfl, by decide +kernel, by decide +kernel⟩, rfl, u39, w39, gl X G c (by decide +kernel),
    F.bindsN fun _ _ _ _ _ _ us hl => match us, hl with | [_], _ => rfl, fun h y hy => nomatch hy⟩
theorem z42 (X : K.In h0) (G : h0.Ns mainGlobals mg) (c : Sz h0 K) : Df (bz K) Tb.off mg 42 "_law_some_value" 2 := by
  obtain ⟨fd, F⟩ := de c (p := ("_law_some_value", 42)) (by decide +kernel)
  exact ⟨d42, topC 42, _, _, ["state", "deep"], rfl, rfl, fun_of F, ⟨rfl, rfl, rfl, by decide +kernel, rfl, by decide +kernel, by decide +kernel⟩, rfl, u42, w42, gl X G c (by decide +kernel),
    F.bindsN fun _ _ _ _ _ _ us hl => match us, hl with | [_, _], _ => rfl, fun h y hy => nomatch hy⟩
theorem z43 (X : K.In h0) (G : h0.Ns mainGlobals mg) (c : Sz h0 K) : Df (bz K) Tb.off mg 43 "_law_nested" 2 := by
  obtain ⟨fd, F⟩ := de c (p := ("_law_nested", 43)) (by decide +kernel)
  exact ⟨d43, topC 43, _, _, ["many", "one"], rfl, rfl, fun_of F, ⟨rfl, rfl, rfl, by decide +kernel, rfl, by decide +kernel, by decide +kernel⟩, rfl, u43, w43, gl X G c (by decide +kernel),
    F.bindsN fun _ _ _ _ _ _ us hl => match us, hl with | [_, _], _ => rfl, fun h y hy => nomatch hy⟩
theorem dfZ (X : K.In h0) (G : h0.Ns mainGlobals mg) (c : Sz h0 K) (f : Nat) (x : Str) (n : Nat) (h : Tb.off.fN f = some (x, n)) : Df (bz K) Tb.off mg f x n := by
  have h' : fN f = some (x, n) := h
  unfold fN at h'
  split at h'
  · cases h'; exact z24 X G c
  · cases h'; exact z25 X G c
  · cases h'; exact z26 X G c
  · cases h'; exact z27 X G c
  · cases h'; exact z28 X G c
  · cases h'; exact z29 X G c
  · cases h'; exact z30 X G c
  · cases h'; exact z31 X G c
  · cases h'; exact z33 X G c
  · cases h'; exact z34 X G c
  · cases h'; exact z35 X G c
  · cases h'; exact z36 X G c
  · cases h'; exact z37 X G c
  · cases h'; exact z38 X G c
  · cases h'; exact z39 X G c
  · cases h'; exact z42 X G c
  · cases h'; exact z43 X G c
  · cases h'
theorem gcZ (X : K.In h0) (G : h0.Ns mainGlobals mg) (c : Sz h0 K) (g : Nat) (x : Str) (d : D) (h : Tb.off.gN g = some x) (hd : gvZ g = some d) : ∃ u v, mg x = some u ∧ RelV v u ∧ ∀ H M, Rp K H M v d := by
  have h' : gN g = some x := h
  unfold gN at h'
  split at h'
  · cases h'; cases hd
    obtain ⟨t, e⟩ := He.int_ok X G (con c (f := .int "MOST_DEEP" 60) (by simp [consts]))
    exact ⟨_, .int 60, e, ⟨t, rfl⟩, fun _ _ => .int _⟩
  · cases h'; cases hd
    obtain ⟨t, e⟩ := He.int_ok X G (con c (f := .int "MOST_FIGURES" 12) (by simp [consts]))
    exact ⟨_, .int 12, e, ⟨t, rfl⟩, fun _ _ => .int _⟩
  · cases h'; cases hd
    obtain ⟨t, e⟩ := He.int_ok X G (con c (f := .int "MOST_NUMBER" 1000000000000) (by simp [consts]))
    exact ⟨_, .int 1000000000000, e, ⟨t, rfl⟩, fun _ _ => .int _⟩
  · cases h'; cases hd
    obtain ⟨t, e⟩ := He.str_ok X G (con c (f := .str "SMALL" "abcdefghijklmnopqrstuvwxyz") (by simp [consts]))
    exact ⟨_, .str _, e, ⟨t, rfl⟩, fun _ _ => .str _⟩
  · cases h'; cases hd
    obtain ⟨t, e⟩ := He.str_ok X G (con c (f := .str "FIGURES" "0123456789") (by simp [consts]))
    exact ⟨_, .str _, e, ⟨t, rfl⟩, fun _ _ => .str _⟩
  · cases h'
theorem wbZ (c : Sz h0 K) : wordB K = true ∧ ownB K "/claim/cut.py" xs = true ∧ ((He.cT K ("_law_word", none)).2 == (He.cT K ("law", none)).2) = false := by
  have e : (wordB K && (ownB K "/claim/cut.py" xs && !((He.cT K ("_law_word", none)).2 == (He.cT K ("law", none)).2))) = true := c.ex
  simpa [Bool.and_eq_true] using e
theorem enZ : EN "line" := ⟨by decide, by decide, by decide, by decide, by decide⟩
theorem ownZ (c : Sz h0 K) : Own K (He.ga K "NoText") "NoText" "line" "/claim/cut.py" := by
  have h := List.all_eq_true.mp (wbZ c).2.1 ⟨"NoText", "line", meth (topC 14) 0⟩ (by simp [xs])
  have e : mfn K (He.ma K (He.ga K "NoText") "__init__") = XD.val ⟨"NoText", "line", meth (topC 14) 0⟩ := List.cons.inj c.x |>.1
  have F := fldB_ok (d := ⟨"NoText", "line", meth (topC 14) 0⟩) h e
  exact ⟨enZ, _, _, _, _, _, _, _, _, _, _, _, _, _, _, F, fun _ _ _ _ _ _ _ _ _ _ _ _ => ⟨_, rfl, rfl⟩, fun _ => ⟨_, rfl⟩⟩
theorem caZ_of {x : Str} (h : x ∈ allX) : caZ K x = some (He.ga K x) := if_pos h
theorem rsZ (X0 : K.In h0) (G : h0.Ns mainGlobals mg) (c : Sz h0 K) (f : Nat) (x : Str) (n : Nat) (h : Tb.off.cN f = some (x, n)) (m k : Nat) (X : Cx) (E : XK) (ta : TA) (es : Exs) (p pc pn : Pos) (h1 : X.prog = Pg) (h3 : X.K = K) (h4 : X.mg = mg) (hc : X.calm = true) (hr : Room k X.A)
    (tk : Takes X (fun cls d _ H => E cls d H)) (hg : Gl X x) (hl : es.len = n) (ha : PA X (uns es) ta) : PS X (.Raise (some (.Call (.Name x pn) (uns es) [] pc)) none p) (fun _ σ H => ta σ H fun vs H1 => spR (lv (bz K) m) f vs H1 E) := by
  have h' : cN f = some (x, n) := h
  unfold cN at h'
  split at h'
  · cases h'
    exact rs_two (b := bz K) (k := k) (C := He.ga K "NoText") (fld := "line") (file := "/claim/cut.py") rfl (ownZ c) (gl X0 G c (by decide +kernel)) (fre X0 G c (by decide +kernel)) (by decide +kernel) (by decide +kernel) (by decide) (caZ_of (x := "NoText") (by decide +kernel))
      (fun ds ω Q E ⟨_, d, e, z, q⟩ => ⟨d, e, z, q⟩) X E ta es p pc pn h1 h3 h4 hc hr tk hg hl ha
  · cases h'
theorem mfZ {w : World} {base : Heap} (X : K.In h0) (G : h0.Ns mainGlobals mg) (c : Sz h0 K) : Mf (bz K) Tb.off Pg w mg base :=
  ⟨rfl, fun x hx => fre X G c (List.contains_iff_mem.mpr (List.mem_cons_of_mem _ (List.mem_cons_of_mem _ hx))), gcZ X G c, dfZ X G c, rsZ X G c⟩
theorem nmZ : (wF.map (·.1) ++ wP.map (·.1)) = allX := by decide +kernel
theorem xclZ (c : Sz h0 K) {x : Str} (hx : x ∈ allX) : xclB K (He.ga K x) = true ∧ PySem.W.exmOne K (.ref (He.ga K x)) (.ref (He.ga K "SetError")) = some true ∧ ∀ y ∈ allX, PySem.W.kitOne K (.ref (He.ga K x)) (.ref (He.ga K y)) = some (x == y) := by
  have e := (wbZ c).1
  unfold wordB at e
  rw [Bool.and_eq_true] at e
  have e1 := List.all_eq_true.mp e.1 x hx
  rw [Bool.and_eq_true, Bool.and_eq_true] at e1
  exact ⟨e1.1, of_decide_eq_true e1.2.1, fun y hy => of_decide_eq_true (List.all_eq_true.mp e1.2.2 y hy)⟩
theorem glX (X : K.In h0) (G : h0.Ns mainGlobals mg) (c : Sz h0 K) {x : Str} (hx : x ∈ allX) : mg x = some (.ref (He.ga K x)) :=
  gl X G c (List.contains_iff_mem.mpr (List.mem_append_right _ (List.mem_cons_of_mem _ hx)))
theorem codeZ (c : Sz h0 K) {x : Str} {st : Stmt} {fd : FuncData} (F : Fun K x x st (He.ga K x) fd) : cdA K (He.ga K x) = fd.code ∧ fd.code = .ref (He.codeOf K (x, none)) := by
  obtain ⟨⟨oc, od, kV, doc, pm, an, cdv, ct, osl, rfl, lk, hcd⟩, _⟩ := F
  obtain ⟨cc, e⟩ := He.codeIn_ref hcd
  have lk' : K.lookup (He.fAd K (x, none)) = _ := lk
  have z := He.codeOf_eq lk' (c := cc) e
  refine ⟨?_, ?_⟩
  · unfold cdA
    rw [lk]
  · rw [z]
    exact e
theorem wfZ {base : Heap} (X0 : K.In h0) (G : h0.Ns mainGlobals mg) (c : Sz h0 K) (B : ∀ p ∈ tf.map (He.cT K), LamX.TabB base mg p.1 p.2) {fdw : FuncData} (Fw : Fun K "_law_word" "_law_word" (topC 41) (He.ga K "_law_word") fdw) (X : Cx) (hK : X.K = K) (hm : X.mg = mg) (hb : X.base = base) :
    WF X (tbZ K) (He.ga K) fdw.code := by
  subst hK hm hb
  obtain ⟨fdc, Fc⟩ := de c (p := ("_law_caught", 40)) (by decide +kernel)
  refine ⟨fre X0 G c (by decide +kernel), fun p hp => glX X0 G c (nmZ ▸ hp), ⟨_, gl X0 G c (by decide +kernel), fun p hp => (xclZ c (nmZ ▸ hp)).2.1⟩, ⟨_, fdc, gl X0 G c (by decide +kernel), Fc.kp, fun_of Fc, Fc.bindsN fun _ _ _ _ _ _ us hl => match us, hl with | [_], _ => rfl⟩, ?_,
    fun p hp => (xclB_ok (xclZ c (nmZ ▸ hp)).1).e, fun p hp q hq => (xclZ c (nmZ ▸ hp)).2.2 q (nmZ ▸ hq), fun p hp => ?_⟩
  · refine ⟨_, _, (codeZ c Fw).2, B (He.cT X.K ("_law_word", none)) (by simp [tf]), by simp [tbZ], fun p hp e => ?_⟩
    simp only [tbZ, List.mem_cons, List.not_mem_nil, or_false] at hp
    rcases hp with rfl | rfl
    · rfl
    · have := (wbZ c).2.2
      simp only [beq_eq_false_iff_ne] at this
      exact absurd e.symm this
  · have e := (wbZ c).1
    unfold wordB at e
    rw [Bool.and_eq_true] at e
    exact He.eqO_ok (List.all_eq_true.mp e.2 (p.1, p.2.2) (by
      simp only [wF, List.mem_cons, List.not_mem_nil, or_false] at hp
      rcases hp with rfl | rfl | rfl | rfl <;> simp [fields]))
theorem lawZ {w : World} {base : Heap} (X0 : K.In h0) (G : h0.Ns mainGlobals mg) (c : Sz h0 K) (B : ∀ p ∈ tf.map (He.cT K), LamX.TabB base mg p.1 p.2) {fdl : FuncData} (Fl : Fun K "law" "law" (topC 44) (He.ga K "law") fdl) :
    FnG Pg w K mg base (L2.CX Pg w) 105 (He.ga K "law") fdl ["script"] (spF (lv (bz K) 100) 44 1) := by
  have F0 : Fx (lv (bz K) 99) Tb.off Pg w K mg base 99 := (mfZ X0 G c).fx 99
  obtain ⟨fdw, Fw⟩ := de c (p := ("_law_word", 41)) (by decide +kernel)
  have F1 : Fx (lv (bz K) 99) Tb Pg w K mg base 99 := ⟨F0.hK, F0.bn, F0.gc, F0.fn, F0.rs, word_pe (L := lv (bz K) 99) (ca := He.ga K) (gw := He.ga K "_law_word") (fdw := fdw) (fun x C e => by
    have e' : caZ K x = some C := e
    unfold caZ at e'
    split at e'
    · rename_i hx
      cases e'
      exact ⟨rfl, nmZ ▸ hx⟩
    · cases e') (gl X0 G c (by decide +kernel)) Fw.kp (fun_of Fw) (Fw.bindsN fun _ _ _ _ _ _ us hl => match us, hl with | [_], _ => rfl) fun X e1 e2 e3 => wfZ X0 G c B (fun_of Fw) X e1 e2 e3⟩
  exact fn_ev (b := bz K) (T := Tb) (fd := d44) (ps := ["script"]) rfl Fl ⟨rfl, rfl, rfl, by decide +kernel, rfl, by decide +kernel, by decide +kernel⟩ rfl u44 w44 F1 fun x hx => by
    obtain ⟨e1, e2⟩ := codeZ c Fl
    refine ⟨_, _, e1.trans e2, B (He.cT K ("law", none)) (by simp [tf]), by simp [bz, tbZ], fun p hp e => ?_⟩
    have hp' : p ∈ tbZ K := hp
    simp only [tbZ, List.mem_cons, List.not_mem_nil, or_false] at hp'
    rcases hp' with rfl | rfl
    · have := (wbZ c).2.2
      simp only [beq_eq_false_iff_ne] at this
      exact absurd e this
    · rfl
/-- the promise of the law, asked at the entry -/
theorem askZ {a : Addr} {vs : List Value} {ns : List Int} (hn : ns.length ≤ 63) (ha : a ∉ (tf.map (He.cT K)).map (·.2)) : spF (lv (bz K) 100) 44 1 [.ref a] (entry a vs ns ((tf.map (He.cT K)).map (·.2))) (fun v _ => v = .bl true) fun _ _ _ => False := by
  refine ⟨rfl, [FZ (ns.map .int)], fun _ => False, fun _ => none, ⟨fun _ _ h => (by cases h), fun _ _ _ _ h => (by cases h), fun _ _ _ _ _ _ _ h => (by cases h)⟩, fun a h => ?_, fun _ h => h.elim, ?_, .cons (.fz ⟨_, entry_l⟩ (fun z => z) (ints_rp ns)) .nil, ?_⟩
  · rcases h with ⟨_, h⟩ | ⟨_, _, _, h, _⟩ <;> cases h
  · have key : ∀ b ∈ (tf.map (He.cT K)).map (·.2), ∀ q : Str, LamX.TabS (entry a vs ns ((tf.map (He.cT K)).map (·.2))) b q := fun b hb q =>
      ⟨#[], entry_t (fun z => ha (z ▸ hb)) hb, trivial, fun pos cv h => by cases h⟩
    intro p hp
    have hp' : p ∈ tbZ K := hp
    simp only [tbZ, List.mem_cons, List.not_mem_nil, or_false] at hp'
    rcases hp' with rfl | rfl
    · exact key _ (by simp [tf]) _
    · exact key _ (by simp [tf]) _
  · exact t44 (n := 0) (okz K) hn fun ω' M' v H' A r => by
      cases r
      rfl
end
end K8
open PySem PySem.Spec PySem.W PySem.Calls PyProof.Rows K8 Sb
theorem PySem.Challenge.cw_setbook_k88_values_written_holds : PySem.Challenge.rw_setbook_k88_values_written.Holds := by
  w_on; o_law
  refine HandSHeadRun.head_any (r := OpenLaw.row Rw) (q := view (OpenLaw.row Rw).prog [44]) (H := hk) (ob := ob) (M := 6000) (loose := names) (d := HandSHeadRun.topDef (OpenLaw.row Rw).prog 44) (kwd := []) K8.ob_eq
    (by kernel_rfl) (fun s => by kernel_rfl) K8.run (by kernel_rfl) (by kernel_rfl) (by kernel_rfl) (by rfl) (by first | assumption | decide +kernel) (by decide +kernel) ⟨rfl, rfl, rfl, rfl, rfl, by decide +kernel⟩ ?hw ?hc
  case hw => w_witness2
  case hc =>
    refine walkG (l := Rw) (m := 63) (k := 105) (x := "script") rfl (by decide) (by kernel_rfl) ⟨rfl, by decide, by decide⟩ ?_
    rintro w mg f h ⟨K, X, c⟩ G hf
    have e : (HandSHeadRun.topDef (OpenLaw.row Rw).prog 44).name = ("law" : PySem.Str) := by kernel_rfl
    rw [e, gl X G c (by decide +kernel)] at hf
    cases hf
    obtain ⟨fd, F⟩ := de c (p := ("law", 44)) (by decide +kernel)
    exact ⟨K, tf.map (He.cT K), fd, _, X, c.nl, fun p hp => by
      obtain ⟨t, ht, rfl⟩ := List.mem_map.mp hp
      exact ⟨(c.t t ht).2.2, (c.t t ht).2.1, codeHd_of_K X (c.t t ht).1⟩, fun s u => L2.FunD.bindsA (ps := ["script"]) F (fun _ _ _ _ _ _ us hl => match us, hl with | [_], _ => rfl) s [u] rfl,
      fun a vs ns hn ha => askZ hn ha, fun base _ _ B => lawZ X G c B (fun_of F)⟩
